/- Texts W5. -/
import Derived.Test.YthpocbeoanipbaaGreatDoorProg
import Derived.Test.YthpocbeoanipbaaGreatDoorM2
import Derived.WalkSpells
import Derived.WalkLawsBesides
import Derived.Deep.QuietTactic
import Derived.BigQuiet
import Derived.Shelf.Abstract
import Derived.Laws.EntriesVeiled
set_option linter.all false
namespace Go.Proofs.YthpocbeoanipbaaGreatDoor
open Go.RowKit Go.Proofs.Tryz
set_option maxHeartbeats 2000000
set_option maxRecDepth 100000
theorem Tryz.egSize1:∀args w,(callFunc 129 args).run prog w= .ok (.enter 129 args) w:=enters_of func129 (by kernel_rfl) rfl
theorem zTa(Bn Bd Bv:Nat)(x:Bn≠Bd)(D:Bn≠Bv)(E:Bd≠Bv)(Z:zE)(W:¬Z Bn)(V:¬Z Bd):∀(m:Nat)(f:Fm),zG f<=m->∀(cs:List Value)(lv n d:Int)(w:World),FmR Z w f cs->
  0<=n->0<=d->0<=lv->n+zG f<=4611686018427387904->d<=4611686018427387904->lv+zCq f<=4611686018427387904->
  One w Bn (.int .i64 n)->One w Bd (.int .i64 d)->One w Bv (.func (.func 129) #[] #[.pointer (some ⟨Bn,0,none⟩),.pointer (some ⟨Bd,0,none⟩),.pointer (some ⟨Bv,0,none⟩)])->
  Calls prog 129 #[.agg cs.toArray,.int .i64 lv,.pointer (some ⟨Bn,0,none⟩),.pointer (some ⟨Bd,0,none⟩),.pointer (some ⟨Bv,0,none⟩)] w λe w'=>
   e= .returned (.tuple #[])/\One w' Bn (.int .i64 (n+zG f))/\One w' Bd (.int .i64 (max d (lv+zCq f-1)))/\zA (λb=>b≠Bn/\b≠Bd) w w':=by
 intro m
 induction m with
 |zero=>intro f hm;have:=zBk f;omega
 |succ m ih=>
 intro f hm cs lv n d w hf aj ad ah ak ae ai s c q;have eg:=Tryz.egSize1;have IH:=hid ih;clear ih;obtain⟨op,B,v,C,kids⟩:=f;unfold FmR at hf;obtain⟨_,_,_,_,A,ac,rfl,ab,_,af,I⟩:=hf
 have ag:kids.length<=4611686018427387904:=by
  have h1:=zBi kids;have h2:=zBy (.mk op B v C kids);simp only[Fm.kids]at h2;omega
 have hs:=zi.seq I;have HS:=hid hs;clear I hs;have n1:=s.cell;have n2:=s.free;have n3:=s.lt;have d1:=c.cell;have d2:=c.free;have d3:=c.lt;have v1:=q.cell;have v3:=q.lt;go_enter func129,ntmps129
 go_wp2;go_region;all_goals(go_wp2)
 all_goals
  go_loopw[17] (λi wr=>∃k:Nat,k<=kids.length/\i= .int .i64 k/\One wr Bn (.int .i64 (n+1+zM (kids.take k)))/\One wr Bd (.int .i64 (max (max d lv) (lv+zAg (kids.take k))))/\One wr Bv (.func (.func 129) #[] #[.pointer (some ⟨Bn,0,none⟩),.pointer (some ⟨Bd,0,none⟩),.pointer (some ⟨Bv,0,none⟩)])/\zA (λb=>b≠Bn/\b≠Bd) w wr) (λi _=>kids.length-(intOf i).toNat)
  case atStart=>
   refine⟨0,Nat.zero_le _,rfl,?_,?_,.drew (.alloc (.far (p:=⟨Bd,0,none⟩) (.far (p:=⟨Bn,0,none⟩) q D.symm _) E.symm _) _),.drew (.alloc (.setCell (p:=⟨Bd,0,none⟩) (.setCell (p:=⟨Bn,0,none⟩) (.refl _ _) (λ_ h=>h.1 rfl) _) (λ_ h=>h.2 rfl) _) _)⟩
   ·rw[show n+1+((zM (kids.take 0):Nat):Int)=n+1 from by simp[zM]];exact .drew (.alloc (.far (p:=⟨Bd,0,none⟩) (.set_ s _) x _) _)
   ·first
     |(rw[show max (max d lv) (lv+((zAg (kids.take 0):Nat):Int))=lv from by simp[zAg];omega];exact .drew (.alloc (.set_ (.far (p:=⟨Bn,0,none⟩) c x.symm _) _) _))
     |(rw[show max (max d lv) (lv+((zAg (kids.take 0):Nat):Int))=d from by simp[zAg];omega];exact .drew (.alloc (.set_ (.far (p:=⟨Bn,0,none⟩) c x.symm _) _) _))
  case round=>
   clear n1 n2 n3 d1 d2 d3 v1 v3 s c q;obtain⟨k,hk,rfl,s,c,q,z⟩:=hrel;by_cases a:k<kids.length
   ·obtain⟨b,X,cs,rfl,hz,F,y⟩:=HS.out.at_ a;have J:zA Z w wr:=z.mono (λb _ hb=>⟨λe=>W (e▸hb),λe=>V (e▸hb)⟩);have t:=FmR.keep J _ _ y;have HF:=hid t;obtain⟨A',aa,rfl⟩:=FmR.form y;have L:=zBE a;have G:=zG4 a;have P:=zBh a;have K:=zSy a;have R:=zBH kids k;have T:=zH9 kids k;have U:=zBH kids (k+1);have M:=zBy (.mk op B v C kids);have N:=zN1 (.mk op B v C kids);simp only[Fm.kids]at M N;clear y t;obtain⟨c0,c1,c2,c3,c4⟩:=zx (λj u hu=>J.cell (p:=⟨b,X+k*5+j,none⟩) hz (F j u hu));clear F;have n1:=s.lt;have d1:=c.lt;have v1:=q.cell;have v3:=q.lt;have HC:=hid (λo=>IH.out kids[k] (by omega) _ (lv+1) _ _ (wr.alloc o) (FmR.keep ((zA.refl Z wr).alloc o) _ _ HF.out) (by omega) (by omega) (by omega) (by omega) (by omega) (by omega) (s.alloc o) (c.alloc o) (q.alloc o));have Y:=hid (And.intro L G);clear L G M N P K R T U;generalize kids[k]=g at*;(go_wp2_with fail);refine(HC.out _).mono ?_;rintro e w1 ⟨rfl,Q,O,H⟩;go_wp2;go_roundw
    case rel=>
     refine⟨k+1,by omega,by go_num,?_,?_,q.of_block (((H.block Bv (by simp;omega) ⟨D.symm,E.symm⟩)).trans (Below.heap_alloc _ _ _ q.lt)),z.trans (((zA.refl _ _).alloc _).trans H)⟩
     ·have e:=Y.out.1;rw[show n+1+((zM (kids.take (k+1)):Nat):Int)=n+1+((zM (kids.take k):Nat):Int)+(zG g:Nat) from by omega];exact Q
     ·have e:=Y.out.2;rw[show max (max d lv) (lv+((zAg (kids.take (k+1)):Nat):Int))=max (max (max d lv) (lv+((zAg (kids.take k):Nat):Int))) (lv+1+((zCq g:Nat):Int)-1) from by omega];exact O
    case measure=>simp[intOf];omega
   ·(obtain rfl:k=kids.length:=by omega);go_wp2;go_end0;refine⟨rfl,?_,?_,z⟩
    ·have M:=zBy (.mk op B v C kids);simp only[Fm.kids]at M;rw[show n+((zG (.mk op B v C kids):Nat):Int)=n+1+((zM (kids.take kids.length):Nat):Int) from by rw[List.take_length];omega];exact s
    ·have N:=zN1 (.mk op B v C kids);simp only[Fm.kids]at N;rw[show max d (lv+((zCq (.mk op B v C kids):Nat):Int)-1)=max (max d lv) (lv+((zAg (kids.take kids.length):Nat):Int)) from by rw[List.take_length];omega];exact c
theorem zUb(Z:zE)(f:Fm)(cs:List Value)(w:World)(j:FmR Z w f cs)(u:zG f<=4000000000000000000)(m:∀b,Z b->b<w.heap.size):
  Calls prog 95 #[.agg cs.toArray] w λe w'=>e= .returned (.tuple #[.int .i64 (zG f),.int .i64 (zCq f)])/\Bw w w':=by
 have t:=zHa f;obtain⟨A,c,rfl⟩:=FmR.form j;have x:=Tryz.egSize1;let i:=((((w.alloc (.cells #[.int .i64 f.op,.string f.name,.int .i64 f.cmp,.int .i64 f.num,.slice A f.kids.length c] 40)).alloc (.cells #[.int .i64 0] 3)).alloc (.cells #[.int .i64 0] 3)).alloc (.cells #[.func (.func 129) #[] #[.pointer (some ⟨w.heap.size+1,0,none⟩),.pointer (some ⟨w.heap.size+1+1,0,none⟩),.pointer (some ⟨w.heap.size+1+1+1,0,none⟩)]] 210))
 have n:=hid (zTa (w.heap.size+1) (w.heap.size+1+1) (w.heap.size+1+1+1) (by omega) (by omega) (by omega) Z (λh=>by have:=m _ h;omega) (λh=>by have:=m _ h;omega) (zG f) f (Nat.le_refl _) _ 1 0 0 i
  (FmR.keep (.alloc (.alloc (.alloc (.alloc (.refl _ _) _) _) _) _) _ _ j) (by omega) (by omega) (by omega) (by omega) (by omega) (by omega)
  (.alloc (.alloc (by simpa using One.new (w.alloc (.cells #[.int .i64 f.op,.string f.name,.int .i64 f.cmp,.int .i64 f.num,.slice A f.kids.length c] 40)) (.int .i64 0) 3) _) _)
  (.alloc (by simpa using One.new ((w.alloc (.cells #[.int .i64 f.op,.string f.name,.int .i64 f.cmp,.int .i64 f.num,.slice A f.kids.length c] 40)).alloc (.cells #[.int .i64 0] 3)) (.int .i64 0) 3) _)
  (by
    have:=One.new (((w.alloc (.cells #[.int .i64 f.op,.string f.name,.int .i64 f.cmp,.int .i64 f.num,.slice A f.kids.length c] 40)).alloc (.cells #[.int .i64 0] 3)).alloc (.cells #[.int .i64 0] 3)) (.func (.func 129) #[] #[.pointer (some ⟨w.heap.size+1,0,none⟩),.pointer (some ⟨w.heap.size+1+1,0,none⟩),.pointer (some ⟨w.heap.size+1+1+1,0,none⟩)]) 210;simp only[World.size_alloc]at this
    exact this))
 have q:Bw w i:= .alloc (.alloc (.alloc (.alloc (.refl _ _) (Nat.le_refl _) _) (by simp) _) (by simp;omega) _) (by simp;omega) _;have s:i.heap.size=w.heap.size+4:=by simp[i]
 clear j;go_enter func95,ntmps95
 go_wp2_with fail
 refine n.out.mono ?_;rintro e z ⟨rfl,g,d,a⟩;have v:=g.cell;have o:=d.cell;rw[show(0:Int)+((zG f:Nat):Int)=(zG f:Nat) from by omega]at v;rw[show max (0:Int) (1+((zCq f:Nat):Int)-1)=(zCq f:Nat) from by omega]at o;clear g d;go_wp2;go_quiet(fail);go_wp2;go_ret2;exact⟨rfl,below_drewN' (q.trans ⟨a.os,a.tape,a.output,a.size,λk y=>a.block k (by omega) (by omega)⟩) _⟩
theorem zKG(Z:zE)(f:Fm)(cs:List Value)(w:World)(k:FmR Z w f cs)(m:zG f<=4000000000000000000)(u:∀b,Z b->b<w.heap.size):
  Calls prog 59 #[.agg cs.toArray] w λe w'=>e= .returned (.bool (zA9 f))/\Bw w w':=by
 obtain⟨A,s,rfl⟩:=FmR.form k;have n:=hid (λo=>zUb Z f _ (w.alloc o) (FmR.keep (.alloc (.refl _ _) o) _ _ k) m (λb h=>by have:=u b h;simp;omega));clear k;go_enter func59,ntmps59
 go_wp2_with fail
 refine(n.out _).mono ?_;rintro e v ⟨rfl,i⟩;dsimp only
 repeat' (first|(go_big_may;fail)|((with_reducible apply zDF);rfl;first|((with_reducible apply zDE);rfl;rfl;rfl;exact zBz.app;intro q j;(simp only[nr]))|((with_reducible apply zCp);rfl;rfl;rfl;exact zBz.app;intro q j;(simp only[nr]))|((with_reducible apply zCO);rfl;rfl;rfl;simp only[])|((with_reducible apply zC2);rfl;rfl;(first|exact Or.inl rfl|exact Or.inr rfl);(simp only[nr]))|((with_reducible apply zCN);rfl;rfl;rfl;rfl;exact(by constructor);rfl;(simp only[nr]))|((with_reducible apply zCA);rfl;rfl;rfl;rfl;exact(by constructor);rfl;(simp only[nr]))|((with_reducible apply zBo);rfl;first|((with_reducible apply zBR);rfl;rfl;rfl;exact(by constructor);rfl;rfl;rfl;rfl;(simp only[nr]))|((with_reducible apply zB6);rfl;rfl;rfl;exact(by constructor);rfl;rfl;rfl;rfl;(simp only[nr])))|((with_reducible apply zAv);rfl;rfl;rfl;exact(by constructor);(intro g;(try simp only[Bool.and_eq_true,Bool.not_eq_true']at g);(first|subst g|(obtain⟨a,c⟩:=g;subst a;subst c)|(obtain⟨⟨a,c⟩,t⟩:=g;subst a;subst c;subst t));(try simp only[zAq,zA7,Bool.not_true,Bool.not_false,Bool.true_and,Bool.false_and,Bool.and_self]);go_simp;with_reducible rfl);(simp only[nr]))|((with_reducible apply zCL);rfl;rfl;rfl;all_goals(intro d;subst d;(try simp only[zAq,zA7,Bool.not_true,Bool.not_false,Bool.true_and,Bool.false_and,Bool.and_self])))|((with_reducible apply zBn);rfl;rfl;rfl;all_goals(intro d;(first|subst d|((try simp only[Bool.and_eq_true,Bool.not_eq_true']at d);obtain⟨a,c⟩:=d;subst a;subst c));(try simp only[zAq,zA7,Bool.not_true,Bool.not_false,Bool.true_and,Bool.false_and,Bool.and_self]))))|((with_reducible apply zCM);rfl;rfl;first|((with_reducible apply zCJ);rfl;rfl;rfl;rfl;(simp only[nr]))|((with_reducible apply zCK);rfl;rfl;rfl;rfl;(simp only[nr]))|((with_reducible apply zB5);rfl;rfl;rfl;rfl;rfl;(simp only[nr]))|((with_reducible apply zBm);rfl;rfl;rfl;rfl;rfl;(simp only[nr])))|go_values|go_guarded|go_step|go_upon|go_back|dsimp only)
 go_ret;refine⟨zAb ?_,(zF w _).trans (i.mono (by simp))⟩;simp only[Hid]at*
 subst_vars
 unfold zA9;congr 1
 ·rw[Bool.eq_iff_iff];simp only[decide_eq_true_eq];omega
 ·rw[Bool.eq_iff_iff];simp only[decide_eq_true_eq];omega
def zVg(P:Program)(g:FuncId)(lb:Array Value)(Z:zE)(w:World)(L:Fm->Int):Prop:=
 ∀(x:Fm) cs W,FmR Z W x cs->Bw w W->Calls P g (#[.agg cs.toArray]++lb) W λe W'=>e= .returned (.int .i64 (L x))/\Bw W W'
theorem zNr(g:FuncId)(X:Array Value)(eg:∀args w,(callFunc g args).run prog w= .ok (.enter g args) w)(Z:zE)(L:Fm->Int)(Y:World)(V:zVg prog g X Z Y L):∀(m:Nat)(f:Fm),zG f<=m->∀(cs:List Value)(w:World),FmR Z w f cs->Bw Y w-> 
  Calls prog 60 #[.agg cs.toArray,.func (.func g) #[] X] w λe w'=>e= .returned (.int .i64 (zw L f))/\Bw w w':=by
 have HL:=hid V;clear V;intro m
 induction m with
 |zero=>intro f hm;have:=zBk f;omega
 |succ m ih=>
 intro f hm cs w z H;have IH:=hid ih;clear ih
 have P:f.kids.length*56<=140737488355328:=by
  obtain⟨op,nm,cm,nu,kids⟩:=f;unfold FmR at z;obtain⟨_,_,_,_,A,n,e,E,_,F,G⟩:=z;exact F
 have x:∀A n,cs=[.int .i64 f.op,.string f.name,.int .i64 f.cmp,.int .i64 f.num,.slice A f.kids.length n]->zm (λcs f=>FmR Z w f cs) 5 Z w f.kids A:=by
  intro A n e;obtain⟨op,nm,cm,nu,kids⟩:=f;unfold FmR at z;obtain⟨_,_,_,_,T,t,c,E,_,F,G⟩:=z;rw[e]at c;simp only[Fm.kids]at c;injection c with _ c;injection c with _ c;injection c with _ c;injection c with _ c;injection c with c;injection c with c;subst c;exact zi.seq G
 obtain⟨A,n,rfl⟩:=FmR.form z;have U:=hid (x A n rfl);clear x;have I:=hid (λo=>HL.out f _ (w.alloc o) (FmR.keep (.alloc (.refl _ _) o) _ _ z) (H.alloc H.size o));clear z;have J:=hid (λ(k:Nat)(W:k<f.kids.length)=>zGG W);generalize hF:L f=lf at*;have HF:=hid hF;clear hF;go_enter func60,ntmps60
 go_wp2_with fail
 refine(I.out _).mono ?_;rintro e w1 ⟨rfl,y⟩;dsimp only;obtain⟨M,O⟩:=zH8 y;have D:Bw w w1:=(zF w _).trans (y.mono (by simp));go_wp2;go_loopw[5,14] (λe i wr=>∃k:Nat,k<=f.kids.length/\i= .int .i64 k/\e= .int .i64 (zDs L f k)/\Bw w wr) (λ_ i _=>f.kids.length-(intOf i).toNat);case atStart=>exact⟨0,Nat.zero_le _,rfl,by rw[zR4,HF.out],D⟩
 case round=>
  clear y M O D;obtain⟨k,W,rfl,rfl,a⟩:=hrel;by_cases s:k<f.kids.length
  ·by_cases he:zDs L f k=0
   ·obtain⟨b,B,cs,rfl,R,q,d⟩:=U.out.at_ s;have h:zA Z w wr:= .of_below a;have v:=FmR.keep h _ _ d;obtain⟨T,t,rfl⟩:=FmR.form d;obtain⟨c0,c1,c2,c3,c4⟩:=zx (λj u Q=>h.cell (p:=⟨b,B+k*5+j,none⟩) R (q j u Q));have C:=hid (zR5 L s he);have I:=hid (λo=>IH.out f.kids[k] (by have:=J.out k s;omega) _ (wr.alloc o) (FmR.keep ((zA.refl Z wr).alloc o) _ _ v) ((H.trans (a.mono H.size)).alloc (Nat.le_trans H.size a.size) o));clear q d v h;generalize f.kids[k]=g at*;(have N:((zDs L f k)!=(0:Int))=false:=by simp[he]);have HE:=hid he;clear he;(go_wp2_with fail);refine(I.out _).mono ?_;rintro e w2 ⟨rfl,K⟩;dsimp only;go_wp2;go_roundw;(case rel=>exact⟨k+1,by omega,by go_num,by rw[C.out],(a.alloc a.size _).trans (K.mono (by simp;have:=a.size;omega))⟩);case measure=>simp[intOf];omega
   ·obtain⟨b,B,cs,rfl,R,q,d⟩:=U.out.at_ s;have h:zA Z w wr:= .of_below a;obtain⟨T,t,rfl⟩:=FmR.form d;obtain⟨c0,c1,c2,c3,c4⟩:=zx (λj u Q=>h.cell (p:=⟨b,B+k*5+j,none⟩) R (q j u Q));clear q d h;generalize f.kids[k]=g at*;have C:=hid (zR6 L he);(have N:((zDs L f k)!=(0:Int))=true:=by simp[he]);clear he;go_wp2;go_ret;exact⟨zAp C.out.symm,a.alloc a.size _⟩
  ·(obtain rfl:k=f.kids.length:=by omega);have C:=hid (zSz L f);go_wp2;go_ret;exact⟨zAp C.out,a⟩
end Go.Proofs.YthpocbeoanipbaaGreatDoor
