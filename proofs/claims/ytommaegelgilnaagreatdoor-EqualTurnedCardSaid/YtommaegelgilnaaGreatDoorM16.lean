/- Lemmas. -/
import Derived.Test.YtommaegelgilnaaGreatDoorM12
import Derived.Test.YtommaegelgilnaaGreatDoorProg
import Derived.Deep.CutRange
import Derived.WalkSpells
import Derived.WalkLawsBesides
set_option linter.all false
namespace Go.Proofs.YtommaegelgilnaaGreatDoor
open Go.RowKit Go.Proofs.Tryz
set_option maxHeartbeats 4000000
set_option maxRecDepth 100000
variable {P:Program}{a:Addr}{fn:Func}{g:Nat}{p q:Tmp}{r:List Value}{t:TypeId}{tmps:Array Value}{w:World}{x x0 x1 x2 x3 x4 x5:Value}{z:zp}
theorem Blk.d1(h:Blk w g t (x0::r).toArray):w.cell? ⟨g,0,none⟩=some x0/\w.frozen? ⟨g,0,none⟩=false/\g<w.heap.size:=⟨by simpa using h.cell 0,h.frozen 0,h.lt⟩
theorem Blk.d2(h:Blk w g t (x0::x1::r).toArray):w.cell? ⟨g,0,none⟩=some x0/\w.frozen? ⟨g,0,none⟩=false/\w.cell? ⟨g,1,none⟩=some x1/\w.frozen? ⟨g,1,none⟩=false/\g<w.heap.size:=⟨by simpa using h.cell 0,h.frozen 0,by simpa using h.cell 1,h.frozen 1,h.lt⟩
theorem Blk.d3(h:Blk w g t (x0::x1::x2::r).toArray):w.cell? ⟨g,0,none⟩=some x0/\w.frozen? ⟨g,0,none⟩=false/\w.cell? ⟨g,1,none⟩=some x1/\w.frozen? ⟨g,1,none⟩=false/\w.cell? ⟨g,2,none⟩=some x2/\w.frozen? ⟨g,2,none⟩=false/\g<w.heap.size:=⟨by simpa using h.cell 0,h.frozen 0,by simpa using h.cell 1,h.frozen 1,by simpa using h.cell 2,h.frozen 2,h.lt⟩
theorem Blk.d4(h:Blk w g t (x0::x1::x2::x3::r).toArray):w.cell? ⟨g,0,none⟩=some x0/\w.frozen? ⟨g,0,none⟩=false/\w.cell? ⟨g,1,none⟩=some x1/\w.frozen? ⟨g,1,none⟩=false/\w.cell? ⟨g,2,none⟩=some x2/\w.frozen? ⟨g,2,none⟩=false/\w.cell? ⟨g,3,none⟩=some x3/\w.frozen? ⟨g,3,none⟩=false/\g<w.heap.size:=⟨by simpa using h.cell 0,h.frozen 0,by simpa using h.cell 1,h.frozen 1,by simpa using h.cell 2,h.frozen 2,by simpa using h.cell 3,h.frozen 3,h.lt⟩
theorem Blk.d6(h:Blk w g t (x0::x1::x2::x3::x4::x5::r).toArray):w.cell? ⟨g,0,none⟩=some x0/\w.frozen? ⟨g,0,none⟩=false/\w.cell? ⟨g,1,none⟩=some x1/\w.frozen? ⟨g,1,none⟩=false/\w.cell? ⟨g,2,none⟩=some x2/\w.frozen? ⟨g,2,none⟩=false/\w.cell? ⟨g,3,none⟩=some x3/\w.frozen? ⟨g,3,none⟩=false/\w.cell? ⟨g,4,none⟩=some x4/\w.frozen? ⟨g,4,none⟩=false/\w.cell? ⟨g,5,none⟩=some x5/\w.frozen? ⟨g,5,none⟩=false/\g<w.heap.size:=⟨by simpa using h.cell 0,h.frozen 0,by simpa using h.cell 1,h.frozen 1,by simpa using h.cell 2,h.frozen 2,by simpa using h.cell 3,h.frozen 3,by simpa using h.cell 4,h.frozen 4,by simpa using h.cell 5,h.frozen 5,h.lt⟩
theorem Blk.d9{a b c d e f i j k:Value}(h:Blk w g t (a::b::c::d::e::f::i::j::k::r).toArray):w.cell? ⟨g,0,none⟩=some a/\w.frozen? ⟨g,0,none⟩=false/\w.cell? ⟨g,1,none⟩=some b/\w.frozen? ⟨g,1,none⟩=false/\w.cell? ⟨g,2,none⟩=some c/\w.frozen? ⟨g,2,none⟩=false/\w.cell? ⟨g,3,none⟩=some d/\w.frozen? ⟨g,3,none⟩=false/\w.cell? ⟨g,4,none⟩=some e/\w.frozen? ⟨g,4,none⟩=false/\w.cell? ⟨g,5,none⟩=some f/\w.frozen? ⟨g,5,none⟩=false/\w.cell? ⟨g,6,none⟩=some i/\w.frozen? ⟨g,6,none⟩=false/\w.cell? ⟨g,7,none⟩=some j/\w.frozen? ⟨g,7,none⟩=false/\w.cell? ⟨g,8,none⟩=some k/\w.frozen? ⟨g,8,none⟩=false/\g<w.heap.size:=⟨by simpa using h.cell 0,h.frozen 0,by simpa using h.cell 1,h.frozen 1,by simpa using h.cell 2,h.frozen 2,by simpa using h.cell 3,h.frozen 3,by simpa using h.cell 4,h.frozen 4,by simpa using h.cell 5,h.frozen 5,by simpa using h.cell 6,h.frozen 6,by simpa using h.cell 7,h.frozen 7,by simpa using h.cell 8,h.frozen 8,h.lt⟩
theorem Blk.d12{c d e f i j k m n o a b:Value}(h:Blk w g t (c::d::e::f::i::j::k::m::n::o::a::b::r).toArray):w.cell? ⟨g,0,none⟩=some c/\w.frozen? ⟨g,0,none⟩=false/\w.cell? ⟨g,1,none⟩=some d/\w.frozen? ⟨g,1,none⟩=false/\w.cell? ⟨g,2,none⟩=some e/\w.frozen? ⟨g,2,none⟩=false/\w.cell? ⟨g,3,none⟩=some f/\w.frozen? ⟨g,3,none⟩=false/\w.cell? ⟨g,4,none⟩=some i/\w.frozen? ⟨g,4,none⟩=false/\w.cell? ⟨g,5,none⟩=some j/\w.frozen? ⟨g,5,none⟩=false/\w.cell? ⟨g,6,none⟩=some k/\w.frozen? ⟨g,6,none⟩=false/\w.cell? ⟨g,7,none⟩=some m/\w.frozen? ⟨g,7,none⟩=false/\w.cell? ⟨g,8,none⟩=some n/\w.frozen? ⟨g,8,none⟩=false/\w.cell? ⟨g,9,none⟩=some o/\w.frozen? ⟨g,9,none⟩=false/\w.cell? ⟨g,10,none⟩=some a/\w.frozen? ⟨g,10,none⟩=false/\w.cell? ⟨g,11,none⟩=some b/\w.frozen? ⟨g,11,none⟩=false/\g<w.heap.size:=⟨by simpa using h.cell 0,h.frozen 0,by simpa using h.cell 1,h.frozen 1,by simpa using h.cell 2,h.frozen 2,by simpa using h.cell 3,h.frozen 3,by simpa using h.cell 4,h.frozen 4,by simpa using h.cell 5,h.frozen 5,by simpa using h.cell 6,h.frozen 6,by simpa using h.cell 7,h.frozen 7,by simpa using h.cell 8,h.frozen 8,by simpa using h.cell 9,h.frozen 9,by simpa using h.cell 10,h.frozen 10,by simpa using h.cell 11,h.frozen 11,h.lt⟩
def zB4(Z:zD)(w:World)(v:Value)(z:zp):Prop:=
 ∃A cap,v= .slice A z.length cap/\z.length<=cap/\cap<=9223372036854775807/\z.length*16<=140737488355328/\zAW (λcs s=>cs=[.int .i64 s.1,.int .i64 s.2]/\I64 s.1/\I64 s.2) 2 Z w z A
section keep
variable {Z Z':zD} {w w':World} {v:Value}
theorem zB4.keep(h:zB4 Z w v z)(f:zA Z w w'):zB4 Z w' v z:=by
 obtain⟨A,a,e,c,d,b,g⟩:=h;exact⟨A,a,e,c,d,b,g.imp (λ_ _ h=>h) f (λ_ h=>h)⟩
theorem zB4.mono(h:zB4 Z w v z)(i:∀b,Z b->Z' b):zB4 Z' w v z:=by
 obtain⟨A,a,e,d,f,c,g⟩:=h;exact⟨A,a,e,d,f,c,g.imp (λ_ _ h=>h) (zA.refl _ _) i⟩
theorem zB4.form(h:zB4 Z w v z):∃A cap,v= .slice A z.length cap/\z.length<=8796093022208:=by
 obtain⟨A,cap,e,b,c,a,_⟩:=h;exact⟨A,cap,e,by omega⟩
theorem zB4.at_{A:Option Addr}{n cap:Nat}(h:zB4 Z w (.slice A n cap) z){i:Nat}(hi:i<z.length):
  ∃b a,A=some ⟨b,a,none⟩/\Z b/\b<w.heap.size/\w.cell? ⟨b,a+i*2,none⟩=some (.int .i64 (z6 z i).1)/\w.cell? ⟨b,a+i*2+1,none⟩=some (.int .i64 (z6 z i).2)/\I64 (z6 z i).1/\I64 (z6 z i).2:=by
 obtain⟨o,d,e,_,_,_,k⟩:=h;injection e with c e2 e3;subst c;obtain⟨b,a,q,rfl,m,g,rfl,j⟩:=k.at_ hi;have c:z6 z i=z[i]:=by unfold z6;simp[hi]
 rw[c];have f:=g 0 _ rfl;exact⟨b,a,rfl,m,lt_of_cell f,f,g 1 _ rfl,j⟩
end keep
theorem zBg{v:Value}(c:(isAgg t).run P w= .ok false w)(b:w.cell? a=some v):(loadVar t a).run P w= .ok v w:=by
 simp[loadVar,Sem.run_bind,c,load,Sem.run,b,Result.andThen]
theorem zD1{t u:TypeId}(h:fn.results=#[.cell p t,.cell q u]){a b:Addr}{x y:Value}(g:tmps.getD p undef= .pointer (some a))(i:tmps.getD q undef= .pointer (some b))
  (e:(loadVar t a).run P w= .ok x w)(f:(loadVar u b).run P w= .ok y w):(results fn tmps).run P w= .ok (.tuple #[x,y]) w:=by
 have c:tmps[p]?.getD undef= .pointer (some a):=by simpa using g
 have d:tmps[q]?.getD undef= .pointer (some b):=by simpa using i
 simp only[results,h];simp[Sem.run_bind,Result.andThen,c,d,asAddr,e,f]
theorem zPg{p q r:Tmp}{t u s:TypeId}(h:fn.results=#[.cell p t,.cell q u,.cell r s]){a b c:Addr}{x y z:Value}(k:tmps.getD p undef= .pointer (some a))(m:tmps.getD q undef= .pointer (some b))(n:tmps.getD r undef= .pointer (some c))
  (g:(loadVar t a).run P w= .ok x w)(i:(loadVar u b).run P w= .ok y w)(j:(loadVar s c).run P w= .ok z w):(results fn tmps).run P w= .ok (.tuple #[x,y,z]) w:=by
 have d:tmps[p]?.getD undef= .pointer (some a):=by simpa using k
 have e:tmps[q]?.getD undef= .pointer (some b):=by simpa using m
 have f:tmps[r]?.getD undef= .pointer (some c):=by simpa using n
 simp only[results,h];simp[Sem.run_bind,Result.andThen,d,e,f,asAddr,g,i,j]
theorem Tryz.aInt(w:World):(isAgg 3).run prog w= .ok false w:=by kernel_rfl
theorem Tryz.aErr(w:World):(isAgg 39).run prog w= .ok false w:=by kernel_rfl
theorem zO6(t:Int)(w:World):Calls prog 98 #[.int .i64 t] w λe w'=>e= .returned (.bool (zCN t))/\w=w':=by
 have g:=hid (show zCN t=(decide (0<=t)&&decide (t<=144001439)) from rfl);generalize zCN t=b at*;go_enter func98,ntmps98
 repeat' (first|(go_big_may;fail)|((with_reducible apply zBU);rfl;first|((with_reducible apply zBT);rfl;rfl;rfl;exact zAn.app;intro i f;(simp only[nr]))|((with_reducible apply zAF);rfl;rfl;rfl;exact(by constructor);(intro a;(try simp only[Bool.and_eq_true,Bool.not_eq_true']at a);(first|subst a|(obtain⟨c,d⟩:=a;subst c;subst d)|(obtain⟨⟨c,d⟩,h⟩:=a;subst c;subst d;subst h));(try simp only[zm,z7,Bool.not_true,Bool.not_false,Bool.true_and,Bool.false_and,Bool.and_self]);go_simp;with_reducible rfl);(simp only[nr])))|((with_reducible apply zAj);rfl;rfl;first|((with_reducible apply zAg);rfl;rfl;rfl;rfl;(simp only[nr]))|((with_reducible apply zAh);rfl;rfl;rfl;rfl;(simp only[nr]))|((with_reducible apply zAR);rfl;rfl;rfl;rfl;rfl;(simp only[nr]))|((with_reducible apply zA7);rfl;rfl;rfl;rfl;rfl;(simp only[nr])))|go_values|go_guarded|go_step|go_upon|go_back|dsimp only)
 go_ret;exact⟨zI (by rw[g.out,f.out]),rfl⟩
theorem zPh{z:zp}(h:∀j,j<z.length->zDC z j=true):zBn z=(decide (0<z.length)&&decide (z.length<=20)):=by
 unfold zBn;rw[List.all_eq_true.2 λj a=>h j (List.mem_range.1 a),Bool.true_and]
theorem zPi{z:zp}{k:Nat}(a:k<z.length)(h:zDC z k=false):zBn z=false:=by
 cases b:zBn z with
 |false=>rfl
 |true=>rw[(zHh.1 b).1 k a]at h;cases h
theorem zGG(Z:zD)(v:Value)(z:zp)(w:World)(h:zB4 Z w v z):Calls prog 52 #[.agg #[v]] w λe w'=>e= .returned (.bool (zBn z))/\Bw w w':=by
 obtain⟨A,f,rfl,hl⟩:=h.form;have y:=hid (λi(U:i<z.length)=>h.at_ U);have m:=hid (@zPh z);have n:=hid (λk=> @zPi z k);generalize zBn z=vz at*;clear h;go_enter func52,ntmps52
 go_upto_region 1 with fail
 have B:=hid (zG w (.cells #[.slice A z.length f] 100));have C:=hid (Blk.new w 100 #[.slice A z.length f]);generalize J:w.alloc _=w1 at*;clear J;obtain⟨N,K,ol⟩:=C.out.d1;go_wp2_with fail
 go_loopw[3,4,5,6,10] (λv3 v4 v5 v6 i wr=>∃k:Nat,k<=z.length/\i= .int .i64 k/\v3= .int .i64 (zIc z k)/\Bw w wr/\wr.cell? ⟨w.heap.size,0,none⟩=some (.slice A z.length f)/\Hid (∀j,j<k->zDC z j=true)) (λ_ _ _ _ i _=>z.length-(intOf i).toNat);case atStart=>exact⟨0,Nat.zero_le _,rfl,rfl,B.out,N,λj h=>absurd h (Nat.not_lt_zero j)⟩
 case round=>
  obtain⟨k,hk,rfl,rfl,a,c,u⟩:=hrel;clear C B N K ol;by_cases E:k<z.length
  ·obtain⟨b,Y,rfl,V,t,L,M,W,X⟩:=y k E;have Q:=brd a L t;have c1:=brd a M t;have d:=hid (show zDC z k=((decide (0<k)||decide ((z6 z k).1=0))&&decide (zIc z k<(z6 z k).1)&&zCN (z6 z k).1&&decide (-840<=(z6 z k).2)&&decide ((z6 z k).2<=840)) from rfl);have F:=hid (show zIc z (k+1)=(z6 z k).1 from rfl);have o:=hid (n k E);obtain⟨ok,x⟩:∃ok,ok=zDC z k:=⟨_,rfl⟩;rw[<-x]at d o;have G:=hid x.symm;clear x;generalize zIc z k=la at*;generalize (z6 z k).1=s0 at*;generalize (z6 z k).2=s1 at*;have I:=lt_of_cell c;have T:=lt_of_cell Q;(have R:decide ((k:Int)>0)=decide (0<k):=by rw[Bool.eq_iff_iff];simp only[decide_eq_true_eq];omega);clear L M W X t V
   repeat' (first|(go_big_may;(go_at_call 98;refine(zO6 _ _).mono ?_;rintro e w' ⟨rfl,rfl⟩;dsimp only))|((with_reducible apply zBU);rfl;first|((with_reducible apply zBT);rfl;rfl;rfl;exact zAn.app;intro P D;(simp only[nr]))|((with_reducible apply zAF);rfl;rfl;rfl;exact(by constructor);(intro g;(try simp only[Bool.and_eq_true,Bool.not_eq_true']at g);(first|subst g|(obtain⟨q,s⟩:=g;subst q;subst s)|(obtain⟨⟨q,s⟩,H⟩:=g;subst q;subst s;subst H));(try simp only[zm,z7,Bool.not_true,Bool.not_false,Bool.true_and,Bool.false_and,Bool.and_self]);go_simp;with_reducible rfl);(simp only[nr])))|((with_reducible apply zAj);rfl;rfl;first|((with_reducible apply zAg);rfl;rfl;rfl;rfl;(simp only[nr]))|((with_reducible apply zAh);rfl;rfl;rfl;rfl;(simp only[nr]))|((with_reducible apply zAR);rfl;rfl;rfl;rfl;rfl;(simp only[nr]))|((with_reducible apply zA7);rfl;rfl;rfl;rfl;rfl;(simp only[nr])))|go_values|go_guarded|go_step|go_upon|go_back|dsimp only)
   ·go_ret;refine⟨zI (o ?_).symm,a.alloc a.size _⟩;rw[d.out];simp only[Hid]at*
    subst_vars
    simp at*;omega
   ·go_ret;refine⟨zI (o ?_).symm,a.alloc a.size _⟩;rw[d.out];simp only[Hid]at*
    subst_vars
    simp at*
    grind
   go_roundw
   case rel=>
    refine⟨k+1,by omega,by go_num,by rw[F.out],a.alloc a.size _,?_,λj hj=> ?_⟩
    ·rw[World.cell?_alloc_lt _ _ _ I];exact c
    by_cases e:j=k
    ·subst e;rw[G.out,d.out];simp only[Hid]at*
     subst_vars
     simp at*
     grind
    exact u j (by omega)
   case measure=>simp[intOf];omega
  obtain rfl:k=z.length:=by omega
  have O:=hid (m u);have e1:decide ((z.length:Int)>0)=decide (0<z.length):=by rw[Bool.eq_iff_iff];simp only[decide_eq_true_eq];omega
  have e2:decide ((z.length:Int)<=20)=decide (z.length<=20):=by rw[Bool.eq_iff_iff];simp only[decide_eq_true_eq];omega
  clear u m n y
  repeat' (first|(go_big_may;fail)|((with_reducible apply zBU);rfl;first|((with_reducible apply zBT);rfl;rfl;rfl;exact zAn.app;intro P D;(simp only[nr]))|((with_reducible apply zAF);rfl;rfl;rfl;exact(by constructor);(intro g;(try simp only[Bool.and_eq_true,Bool.not_eq_true']at g);(first|subst g|(obtain⟨q,s⟩:=g;subst q;subst s)|(obtain⟨⟨q,s⟩,H⟩:=g;subst q;subst s;subst H));(try simp only[zm,z7,Bool.not_true,Bool.not_false,Bool.true_and,Bool.false_and,Bool.and_self]);go_simp;with_reducible rfl);(simp only[nr])))|((with_reducible apply zAj);rfl;rfl;first|((with_reducible apply zAg);rfl;rfl;rfl;rfl;(simp only[nr]))|((with_reducible apply zAh);rfl;rfl;rfl;rfl;(simp only[nr]))|((with_reducible apply zAR);rfl;rfl;rfl;rfl;rfl;(simp only[nr]))|((with_reducible apply zA7);rfl;rfl;rfl;rfl;rfl;(simp only[nr])))|go_values|go_guarded|go_step|go_upon|go_back|dsimp only)
  go_ret;exact⟨zI (by rw[O.out,D.out]),a⟩
theorem zHl(h:fn.results=#[.cell p t])(d:tmps.getD p undef= .pointer (some a))
  (c:(loadVar t a).run P w= .ok x w):(results fn tmps).run P w= .ok x w:=by
 have b:tmps[p]?.getD undef= .pointer (some a):=by simpa using d
 simp only[results,h];simp[Sem.run_bind,Result.andThen,b,asAddr,c]
end Go.Proofs.YtommaegelgilnaaGreatDoor
