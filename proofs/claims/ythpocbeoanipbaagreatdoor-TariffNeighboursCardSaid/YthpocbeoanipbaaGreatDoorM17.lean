/- Texts W37 W29 W38 TE2. -/
import Derived.Test.YthpocbeoanipbaaGreatDoorM14
import Derived.Test.YthpocbeoanipbaaGreatDoorM13
import Derived.StillTailTactics
import Derived.DeepKeys
import Derived.Laws.StructEq
set_option linter.all false
namespace Go.Proofs.YthpocbeoanipbaaGreatDoor
open Go.RowKit Go.Proofs.Tryz
set_option maxHeartbeats 4000000
set_option maxRecDepth 100000
variable{A:Option Addr}{Z:zE}{all:List zB}{base cap g k n:Nat}{ds:List zC}{e:TypeId}{f:zC}{o:Oper}{od:List Int}{v:Value}{w w1 wr:World}{xs:List Value}
theorem zTs(w:World)(n:Nat):Bw w (w.drewN n):=⟨rfl,rfl,rfl,Nat.le_refl _,λ_ _=>rfl⟩
theorem zK.form{xs:List Int}(h:zK Z w v xs):∃A cap,v= .slice A xs.length cap/\xs.length<=17592186044416:=by
 obtain⟨⟨A,cap,rfl,_,_,a,_⟩,_⟩:=h;exact⟨A,cap,rfl,by omega⟩
theorem zLg(Z Z':zE)(v x:Value)(xs ys:List Int)(w:World)(t:zK Z w v xs)(u:zK Z' w x ys):
  Calls prog 137 #[v,x] w λe w'=>e= .returned (.bool (decide (xs=ys)))/\Bw w w':=by
 have j:=t;have k:=u;obtain⟨⟨A,cap,rfl,G,H,I,-⟩,-⟩:=j;obtain⟨⟨s,a,rfl,B,C,D,-⟩,-⟩:=k;by_cases f:xs.length=ys.length
 ·by_cases d:xs=[]
  ·subst d;have m:ys=[]:=List.eq_nil_of_length_eq_zero f.symm;subst m;refine(Tryz.slices_Equal_int_empty A s cap 0 a w (by omega)).mono ?_;rintro e w' ⟨rfl,rfl⟩;exact⟨by simp,Below.refl _ _⟩
  ·(have n:ys≠[]:=by intro e;subst e;simp at f;exact d f);obtain⟨b,o,c,z,-,-,-,E⟩:=t.open_ d;obtain⟨y,g,F,h,-,-,-,i⟩:=u.open_ n;injection z with q1 q2 q3;injection h with q1' q2' q3';subst q1 q1';refine(Tryz.slices_Equal_int b o xs.length cap y g ys.length a xs ys w (Nat.le_refl _) (Nat.le_refl _) (by omega) (by omega) E i).mono ?_;rintro e w' ⟨rfl,q,rfl⟩;refine⟨?_,zTs w q⟩;rw[List.take_length,List.take_length];congr 2;by_cases e:xs=ys<;>simp[e]
 ·refine(Tryz.slices_Equal_int_lens A s xs.length cap ys.length a w f).mono ?_;rintro e w' ⟨rfl,rfl⟩;refine⟨?_,Below.refl _ _⟩;rw[decide_eq_false (λe=>f (by rw[e]))]
theorem zSe(Z Z':zE)(a b:zB)(F G:List Value)(w:World)(N:zAP Z w F a)(O:zAP Z' w G b):
  Calls prog 136 #[.agg F.toArray,.agg G.toArray] w λe w'=>e= .returned (.bool (decide (a=b)))/\Bw w w':=by
 obtain⟨z,A,rfl,-,t,u⟩:=N;obtain⟨B,C,rfl,-,v,x⟩:=O;have H:=hid (λW(s:Bw w W)=>zLg Z Z' z B a.cuts b.cuts W (t.keep (.of_below s)) (v.keep (.of_below s)));have I:=hid (λW(s:Bw w W)=>zLg Z Z' A C a.kids b.kids W (u.keep (.of_below s)) (x.keep (.of_below s)));have h:=(zF w (.cells #[.bool a.leaf,.int .i64 a.fact,z,A] 131)).alloc (by simp) (.cells #[.bool b.leaf,.int .i64 b.fact,B,C] 131);have c:=hid h;have i:=hid ((Blk.new w 131 #[.bool a.leaf,.int .i64 a.fact,z,A]).alloc (.cells #[.bool b.leaf,.int .i64 b.fact,B,C] 131));have j:=hid (Blk.new' (w.alloc (.cells #[.bool a.leaf,.int .i64 a.fact,z,A] 131)) 131 #[.bool b.leaf,.int .i64 b.fact,B,C] (n:=w.heap.size+1) (by simp))
 have d:=hid (show decide (a=b)=(decide (a.fact=b.fact)&&decide (a.leaf=b.leaf)&&decide (a.cuts=b.cuts)&&decide (a.kids=b.kids)) from by
  rw[Bool.eq_iff_iff];simp only[decide_eq_true_eq,Bool.and_eq_true];constructor
  ·rintro rfl;simp
  ·rintro⟨⟨⟨h1,h2⟩,h3⟩,h4⟩
   exact zB.ext' h2 h1 h3 h4)
 clear t u v x h;go_enter func136,ntmps136
 by_cases o:a.fact=b.fact
 ·have L:(a.fact==b.fact)=true:=by simp[o]
  rw[decide_eq_true o]at d;clear o;by_cases q:a.leaf=b.leaf
  ·(have M:(a.leaf==b.leaf)=true:=by simp[q]);rw[decide_eq_true q]at d;clear q;(go_wp2_with fail);refine(H.out _ c.out).mono ?_;rintro e w1 ⟨rfl,g⟩;have k:=i.out.below g i.out.lt;have m:=j.out.below g j.out.lt;have P:=k.at3;have Q:=m.at3;have J:=k.lt;have K:=m.lt;have y:=c.out.trans (g.mono c.out.size);have f:=hid y;clear k m g y i j c;by_cases D:a.cuts=b.cuts
   ·rw[decide_eq_true D]at d⊢;clear D;(go_wp2_with fail);refine(I.out _ f.out).mono ?_;rintro e R ⟨rfl,h⟩;have E:=f.out.trans (h.mono f.out.size);go_wp2;go_ret;rw[d.out];exact⟨by simp,E⟩
   ·rw[decide_eq_false D]at d⊢;clear D;go_wp2;go_ret;rw[d.out];exact⟨by simp,f.out⟩
  ·(have M:(a.leaf==b.leaf)=false:=by simp[q]);rw[decide_eq_false q]at d;clear q;go_wp2;go_ret;rw[d.out];exact⟨by simp,c.out⟩
 ·have L:(a.fact==b.fact)=false:=by simp[o]
  rw[decide_eq_false o]at d;clear o;go_wp2;go_ret;rw[d.out];exact⟨by simp,c.out⟩
theorem Tryz.egSame1:∀args w,(callFunc 136 args).run prog w= .ok (.enter 136 args) w:=enters_of func136 (by kernel_rfl) rfl
theorem zFJ{α:Type}{l m:List α}(a:k<l.length)(b:k<m.length)(h:l.take k=m.take k)(e:l[k]=m[k]):l.take (k+1)=m.take (k+1):=by
 rw[List.take_succ_eq_append_getElem a,List.take_succ_eq_append_getElem b,h,e]
theorem zOJ(Z Z':zE)(v v':Value)(a b:List zB)(w:World)(ha:z8 Z w v a)(hb:z8 Z' w v' b):
  Calls prog 135 #[v,v',.func (.func 136) #[] #[]] w λe w'=>e= .returned (.bool (decide (a=b)))/\Bw w w':=by
 have eg:=Tryz.egSame1;obtain⟨A,cap,rfl,al,ao,Y⟩:=ha.open_;obtain⟨A',aj,rfl,ah,ai,D⟩:=hb.open_;have HA:=hid Y;have ae:=hid D;clear Y D ha hb;go_enter func135,ntmps135
 by_cases hl:a.length=b.length
 ·have e1:((a.length:Int)!=(b.length:Int))=false:=by simp[hl]
  have HL:=hid hl;clear hl;go_wp2;go_loopw[17] (λi wr=>∃k:Nat,k<=a.length/\i= .int .i64 k/\Bw w wr/\Hid (a.take k=b.take k)) (λi _=>a.length-(intOf i).toNat);case atStart=>exact⟨0,Nat.zero_le _,rfl,Below.refl _ _,by simp[Hid]⟩
  case round=>
   obtain⟨k,hk,rfl,c,Q⟩:=hrel;by_cases P:k<a.length
   ·(have E:k<b.length:=by rw[<-HL.out];exact P);obtain⟨bb,ax,vc,vk,rfl,hz,z,c0,c1,c2,c3,hf,hc,O⟩:=HA.out k P;obtain⟨ag,ap,ay,az,rfl,aw,g,t,I,J,K,ab,N,q⟩:=ae.out k E;obtain⟨VC,C,rfl,-⟩:=hc.form;obtain⟨VK,F,rfl,-⟩:=O.form;obtain⟨V,n,rfl,-⟩:=N.form;obtain⟨X,s,rfl,-⟩:=q.form;have B:∀{p:Nat}{o:Nat}{u:Value},p<w.heap.size->w.cell? ⟨p,o,none⟩=some u->wr.cell? ⟨p,o,none⟩=some u:=λ{p o u} hp h=>brd c h hp;replace c0:=B z c0;replace c1:=B z c1;replace c2:=B z c2;replace c3:=B z c3;replace t:=B g t;replace I:=B g I;replace J:=B g J;replace K:=B g K;have aq:=lt_of_cell c0;have aa:=lt_of_cell t;(have ak:ag<wr.heap.size+1:=by simp at aa;omega);have R:=hid (λW(hW:Bw w W)=>zSe Z Z' a[k] b[k] [.bool a[k].leaf,.int .i64 a[k].fact,.slice VC a[k].cuts.length C,.slice VK a[k].kids.length F] [.bool b[k].leaf,.int .i64 b[k].fact,.slice V b[k].cuts.length n,.slice X b[k].kids.length s] W (zAP.keep ⟨_,_,rfl,hf,hc,O⟩ (.of_below hW)) (zAP.keep ⟨_,_,rfl,ab,N,q⟩ (.of_below hW)));have m:=hid (λe=>zFJ P E Q.out e);have G:=hid (show a[k]≠b[k]->a≠b from λh e=>h (by subst e;rfl));(have au:((k:Nat):Int)<(a.length:Int):=by omega);(have av:((k:Nat):Int)<(b.length:Int):=by omega);(have ar:(0:Int)<=((k:Nat):Int):=by omega);have d:=hid ((c.alloc c.size (.cells #[.bool a[k].leaf,.int .i64 a[k].fact,.slice VC a[k].cuts.length C,.slice VK a[k].kids.length F] 131)).alloc (by have:=c.size;simp;omega) (.cells #[.bool b[k].leaf,.int .i64 b[k].fact,.slice V b[k].cuts.length n,.slice X b[k].kids.length s] 131));clear B c hf ab hc N O q;obtain⟨⟨x,ac⟩,⟨y,ad⟩⟩:(∃x,x=a[k])/\(∃y,y=b[k]):=⟨⟨_,rfl⟩,⟨_,rfl⟩⟩;rw[<-ac]at R m G d c0 c1 c2 c3;rw[<-ad]at R m G d t I J K;clear ac ad;by_cases j:x=y
    ·have U:=hid (m.out j);have f:=R.out;rw[decide_eq_true j]at f;have H:=hid f;clear R f j m;(go_wp2_with fail);refine(H.out _ d.out).mono ?_;rintro e w1 ⟨rfl,L⟩;have M:=d.out.trans (L.mono d.out.size);go_wp2;go_roundw;(case rel=>exact⟨k+1,by omega,by go_num,M,U⟩);case measure=>simp[intOf];omega
    ·have T:=hid (G.out j);have f:=R.out;rw[decide_eq_false j]at f;have H:=hid f;clear R f j m;(go_wp2_with fail);refine(H.out _ d.out).mono ?_;rintro e w1 ⟨rfl,L⟩;have M:=d.out.trans (L.mono d.out.size);go_wp2;go_ret;rw[decide_eq_false T.out];exact⟨rfl,M⟩
   ·(obtain rfl:k=a.length:=by omega);have af:=hid (show a=b from by have h:=Q.out;rw[List.take_length]at h;rw[h,HL.out,List.take_length]);clear Q;go_wp2;go_ret;rw[decide_eq_true af.out];exact⟨rfl,c⟩
 ·have e1:((a.length:Int)!=(b.length:Int))=true:=by simp;omega
  have HN:=hid (show a≠b from λe=>hl (by rw[e]));clear hl;go_wp2;go_ret;rw[decide_eq_false HN.out];exact⟨rfl,Below.refl _ _⟩
theorem zSf(Z Z':zE)(v f:Value)(a b:List zB)(w:World)(j:z8 Z w v a)(k:z8 Z' w f b):
  Calls prog 102 #[.agg #[v],.agg #[f]] w λe w'=>e= .returned (.bool (decide (a=b)))/\Bw w w':=by
 have c:=(zF w (.cells #[v] 83)).alloc (by simp) (.cells #[f] 83);have m:=hid (zOJ Z Z' v f a b _ (j.keep (.of_below c)) (k.keep (.of_below c)));have d:=hid c;obtain⟨A,cap,rfl,-⟩:=j;obtain⟨n,i,rfl,-⟩:=k;clear c;go_enter func102,ntmps102
 go_wp2_with fail
 refine m.out.mono ?_;rintro e w1 ⟨rfl,g⟩;have h:=d.out.trans (g.mono d.out.size);go_wp2;go_ret;exact⟨rfl,h⟩
theorem zRF(Z:zE)(v:Value)(xs:List Int)(w:World)(h:zK Z w v xs):
  Calls prog 134 #[v] w λe w'=>∃c,e= .returned c/\w'.ownsRow w.heap.size 3 1 c xs.length (xs.map (.int .i64))/\Bw w w':=by
 by_cases f:xs=[]
 ·subst f;obtain⟨⟨A,cap,rfl,d,_,_,_⟩,_⟩:=h
  cases A with
  |none=>
   refine(Tryz.slices_Clone_int_nil _ cap w).mono ?_;rintro e w' ⟨rfl,rfl⟩;exact⟨_,rfl,World.ownsRow_nil _ _ _ _,Below.refl _ _⟩
  |some a=>
   refine(Tryz.slices_Clone_int_zero a cap w).mono ?_;rintro e w' ⟨c,rfl,d,_,g⟩;exact⟨c,rfl,d,g⟩
 ·obtain⟨b,i,cap,rfl,_,_,m,k⟩:=h.open_ f;obtain⟨⟨_,_,e,_,_,j,_⟩,_⟩:=h;refine(Tryz.slices_Clone_int b i xs.length cap xs w (Nat.le_refl _) j k).mono ?_;rintro e w' ⟨c,rfl,d,_,g⟩;rw[List.take_length]at d;exact⟨c,rfl,d,g⟩
theorem zO8(h:w.ownsRow base e 1 (.slice (some ⟨g,0,none⟩) n cap) n xs)(j:Nat)(u:Value):
  (w.setCell ⟨g,j,none⟩ u).ownsRow base e 1 (.slice (some ⟨g,0,none⟩) n cap) n (xs.set j u):=by
 refine⟨by simpa using h.1,?_⟩;rcases h.2 with⟨h,_⟩|⟨g',cap',cur,e',hb,hg,h1,h2,h3,h4⟩
 ·cases h
 ·injection e' with e1 e2 e3;injection e1 with e1;injection e1 with e1;subst e1 e3;refine Or.inr ⟨g,cap,cur.setIfInBounds j u,rfl,hb,?_,h1,h2,by simpa using h3,?_⟩
  ·have:Blk w g e cur:=hg;exact this.set_ j u
  ·rw[<-h4];simp only[Nat.mul_one,Array.toList_setIfInBounds,List.take_set]
theorem zNM(h:w.ownsRow base e 1 (.slice (some ⟨g,0,none⟩) n cap) n xs){j:Nat}{u:Value}(a:xs[j]? =some u):w.cell? ⟨g,j,none⟩=some u/\w.frozen? ⟨g,j,none⟩=false:=by
 have:=h.cells (g:=g) rfl j u a;rw[show(⟨g,0,none⟩:Addr).add j=⟨g,j,none⟩ from by unfold Addr.add;split<;>simp_all]at this;refine⟨this,?_⟩;rcases h.2 with⟨h,_⟩|⟨g',cap',cur,e',hb,hg,_⟩
 ·cases h
 ·injection e' with e1 e2 e3;injection e1 with e1;injection e1 with e1;subst e1;exact(show Blk w g e cur from hg).frozen j
theorem zRG{k:Int}:(if false=true then Value.tuple #[(zg (kvO od 0) k).getD (.int .i64 0),.bool (zg (kvO od 0) k).isSome]else(zg (kvO od 0) k).getD (.int .i64 0))= .int .i64 (zAO od k):=by
 rw[if_neg (by simp),zMj];unfold zAO;split<;>simp
theorem zTt(l:List Int)(f:Int->Int){x:Nat}(a:x<l.length):
  ((l.take (x+1)).map f++l.drop (x+1)).map (Value.int .i64)=(((l.take x).map f++l.drop x).map (Value.int .i64)).set x (.int .i64 (f l[x])):=by
 rw[List.take_succ_eq_append_getElem a,List.drop_eq_getElem_cons a];simp only[List.map_append,List.map_cons,List.map_nil,List.append_assoc];rw[List.set_append_right _ _ (by simp;omega)];simp[Nat.min_eq_left (Nat.le_of_lt a)]
def zCu(ds:List zC)(g:List zB)(i:Int):List zB × Int:=if 4000<(zB2 ds g i).length then([],2)else(zA8 ds g i,0)
def zLR(Z:zE)(r:List zB × Int)(w:World)(e:Ending)(w':World):Prop:=
 ∃v,e= .returned (.tuple #[.agg #[v],.int .i64 r.2])/\z8 (λb=>Z b\/w.heap.size<=b) w' v r.1/\Bw w w'
def zG8(w:World)(M:Nat):World:=
 ((((((w.alloc (.cells #[.pointer (some ⟨M,0,none⟩)] 170)).alloc (.cells #[.slice none 0 0] 83)).alloc (.map #[] 0)).alloc (.cells #[.map (some (w.heap.size+1+1))] 214)).alloc (.cells #[.slice none 0 0] 28)).alloc
  (.cells #[.func (.func 133) #[] #[.pointer (some ⟨w.heap.size+1+1+1,0,none⟩),.pointer (some ⟨w.heap.size+1+1+1+1,0,none⟩),.pointer (some ⟨w.heap.size,0,none⟩),.pointer (some ⟨w.heap.size+1+1+1+1+1,0,none⟩)]] 163))
theorem zGy(w:World)(v:Value)(t:TypeId)(h:w.heap.size=n):One (w.alloc (.cells #[v] t)) n v:=h▸One.new w v t
theorem zRH{M:Nat}{F Z:Nat->Prop}(h:MkS w M all F Z):
  zLP (zG8 w M) (w.heap.size+1+1+1) (w.heap.size+1+1+1+1) w.heap.size (w.heap.size+1+1+1+1+1) (w.heap.size+1+1) M (w.heap.size+1+1+1+1+1+1) all F Z/\
  zLQ (zG8 w M) (w.heap.size+1+1+1+1) (w.heap.size+1+1) (w.heap.size+1+1+1+1+1+1) []/\Bw w (zG8 w M)/\Blk (zG8 w M) (w.heap.size+1) 83 #[.slice none 0 0]/\(zG8 w M).heap.size =w.heap.size+1+1+1+1+1+1:=by
 have a:Bw w (zG8 w M):=((((((Below.refl _ _).alloc (Nat.le_refl _) _).alloc (by simp) _).alloc (by simp;omega) _).alloc (by simp;omega) _).alloc (by simp;omega) _).alloc (by simp;omega) _;have d:(zG8 w M).heap.size =w.heap.size+1+1+1+1+1+1:=by simp[zG8]
 refine⟨⟨?_,?_,?_,h.below a,λb a=> ?_,by omega,by omega⟩,?_,a,?_,d⟩
 ·exact((zGy _ _ _ (by simp)).alloc _).alloc _
 ·exact(((((One.new w _ _).alloc _).alloc _).alloc _).alloc _).alloc _
 ·exact zGy _ _ _ (by simp)
 ·rcases a with a|a|rfl|rfl|rfl
  ·have:=h.liveF b a;omega
  ·have:=h.liveZ b a;omega
  ·omega
  ·omega
  ·omega
 ·refine⟨.slice none 0 0,(zGy _ _ _ (by simp)).alloc _,World.ownsRow_nil _ _ _ _,?_⟩;have:=zW.made ((w.alloc (.cells #[.pointer (some ⟨M,0,none⟩)] 170)).alloc (.cells #[.slice none 0 0] 83)) encI;simp only[World.size_alloc]at this;have c:zW encI (zG8 w M) (w.heap.size+1+1) []:=this.of_block (((Below.heap_alloc _ _ _ (by simp;try omega)).trans (Below.heap_alloc _ _ _ (by simp;try omega))).trans (Below.heap_alloc _ _ _ (by simp;try omega)));exact c
 ·have:=((((Blk.new (w.alloc (.cells #[.pointer (some ⟨M,0,none⟩)] 170)) 83 #[.slice none 0 0]).alloc (.map #[] 0)).alloc (.cells #[.map (some (w.heap.size+1+1))] 214)).alloc (.cells #[.slice none 0 0] 28)).alloc (.cells #[.func (.func 133) #[] #[.pointer (some ⟨w.heap.size+1+1+1,0,none⟩),.pointer (some ⟨w.heap.size+1+1+1+1,0,none⟩),.pointer (some ⟨w.heap.size,0,none⟩),.pointer (some ⟨w.heap.size+1+1+1+1+1,0,none⟩)]] 163);simp only[World.size_alloc]at this;exact this
def zLh(w1 wr:World)(Z:zE)(all:List zB)(od:List Int)(k:Nat):Prop:=
 ∃cur csl,Blk wr w1.heap.size 131 cur/\cur.size=od.length*4/\cur.toList.take (k*4)=csl.flatten/\
  NdL (λb=>(Z b\/w1.heap.size+1<b)/\b<wr.heap.size/\b≠w1.heap.size) wr ((od.take k).map (zAl all od)) csl/\
  Blk wr (w1.heap.size+1) 83 #[.slice (some ⟨w1.heap.size,0,none⟩) od.length od.length]/\Bw w1 wr
theorem zPh{a:Array Value}(c:n<=w1.heap.size)(b:a.size=od.length*4):
  zLh w1 ((w1.alloc (.cells a 131)).alloc (.cells #[.slice (some ⟨w1.heap.size,0,none⟩) od.length od.length] 83)) Z all od 0:=by
 refine⟨a,[],(Blk.new w1 _ a).alloc _,b,by simp,trivial,?_,zDG w1 _ _⟩;have:=Blk.new (w1.alloc (.cells a 131)) 83 #[.slice (some ⟨w1.heap.size,0,none⟩) od.length od.length];simp only[World.size_alloc]at this;exact this
theorem Tryz.szN:(prog.info? 131).map (·.size)=some 4:=by kernel_rfl
theorem Row.live(h:Row Z w A xs):Row (λb=>Z b/\b<w.heap.size) w A xs:=λa=>by
 obtain⟨b,c,e,f,d⟩:=h a;obtain⟨x,r,rfl⟩:=List.exists_cons_of_ne_nil a;exact⟨b,c,e,⟨f,lt_of_cell (d 0 x rfl)⟩,d⟩
theorem zK.live{xs:List Int}(h:zK Z w v xs):zK (λb=>Z b/\b<w.heap.size) w v xs:=by
 obtain⟨⟨A,cap,e,c,d,a,g⟩,f⟩:=h;exact⟨⟨A,cap,e,c,d,a,g.live⟩,f⟩
theorem NdL.rows{Z:zE}{w:World}{b:Nat}(e:Z b):∀{d:List zB}{csl:List (List Value)}{off:Nat},NdL Z w d csl->(∀j u,csl.flatten[j]? =some u->w.cell? ⟨b,off+j,none⟩=some u)->zm (zAP Z w) 4 Z w d (some ⟨b,off,none⟩)
 |[],[],_,_,_=>by unfold zm;trivial
 |f::d,c::cs,off,h,hc=>by
  unfold zm;have g:c.length=4:=h.1.size;refine⟨b,off,c,rfl,e,λj u a=> ?_,h.1,NdL.rows e h.2 λj u a=> ?_⟩
  ·refine hc j u ?_;rw[List.flatten_cons,List.getElem?_append_left (by have:=List.getElem?_eq_some_iff.1 a;obtain⟨h,_⟩:=this;exact h)];exact a
  ·have:=hc (4+j) u (by rw[List.flatten_cons,List.getElem?_append_right (by omega)];rw[show 4+j-c.length=j by omega];exact a);rwa[show off+4+j=off+(4+j) by omega]
 |[],_::_,_,h,_=>h.elim
 | _::_,[],_,h,_=>h.elim
theorem zSg(a:od.length<=4000)(k:Int):I64 (zAO od k):=by
 unfold zAO;split
 ·rename_i h;have:=List.idxOf_lt_length_of_mem h;unfold I64;omega
 ·unfold I64;omega
theorem below_setCells{B:Nat}(h:Below B w wr)(i:B<=g)(o:Nat)(a:List Value):Below B w (wr.setCells g o a):=by
 obtain⟨c,d,e,f⟩:=size_setCells g a o wr;exact⟨d.trans h.os,e.trans h.tape,f.trans h.output,by rw[c];exact h.size,λk b=>(zBK g a o wr k (by omega)).trans (h.block k b)⟩
theorem zRI{a I wr:World}{cs:List Value}{B:zB}(J:zLh a I Z all od k)(M:k<od.length)
  (d:Bw I wr)(E:zAP (λb=>(Z b\/a.heap.size+1<b)/\b<wr.heap.size/\b≠a.heap.size) wr cs B)(n:(od.take (k+1)).map (zAl all od)=(od.take k).map (zAl all od)++[B]):
  wr.there a.heap.size (k*4) 4/\zLh a (wr.setCells a.heap.size (k*4) cs) Z all od (k+1):=by
 obtain⟨f,w,m,x,A,z,h,e⟩:=J;have i:=m.below d m.lt;have K:=E.size;obtain⟨u,F,G,H⟩:=size_setCells a.heap.size cs (k*4) wr;have q:zA (λb=>(Z b\/a.heap.size+1<b)/\b<wr.heap.size/\b≠a.heap.size) wr (wr.setCells a.heap.size (k*4) cs):=⟨F,G,H,Nat.le_of_eq u.symm,λb _ d=>zBK _ _ _ _ _ d.2.2⟩;refine⟨λj D=> ?_,zCT f cs (k*4),w++[cs],i.setCells cs (k*4) wr f,?_,?_,?_,?_,?_⟩
 ·obtain⟨s,t⟩:=i.there (k*4+j) (by omega);rw[Nat.zero_add]at s t;exact⟨s,t⟩
 ·have:∀(C:List Value)(o:Nat)(c:Array Value),(zCT c C o).size =c.size:=by
   intro C
   induction C with
   |nil=>intro o c;rfl
   |cons v r ih=>intro o c;unfold zCT;rw[ih];simp
  rw[this,x]
 ·apply List.ext_getElem?;intro j;rw[List.flatten_append,List.flatten_singleton,<-A];have y:(f.toList.take (k*4)).length =k*4:=by simp;omega
  by_cases D:j<(k+1)*4
  ·rw[List.getElem?_take_of_lt D,Array.getElem?_toList,zE7 _ _ _ (by omega) j];by_cases L:k*4<=j
   ·rw[if_pos (by omega),List.getElem?_append_right (by omega),y]
   ·rw[if_neg (by omega),List.getElem?_append_left (by omega),List.getElem?_take_of_lt (by omega),Array.getElem?_toList]
  ·rw[List.getElem?_eq_none (by simp;omega),List.getElem?_eq_none (by simp;omega)]
 ·rw[n]
  have s:zAP (λb=>(Z b\/a.heap.size+1<b)/\b<(wr.setCells a.heap.size (k*4) cs).heap.size /\b≠a.heap.size) (wr.setCells a.heap.size (k*4) cs) cs B:=by
   rw[u];exact E.keep q
  refine NdL.snoc s ?_;have t:=((z.keep (.of_below d)).mono (Z':=λb=>(Z b\/a.heap.size+1<b)/\b<wr.heap.size/\b≠a.heap.size) λb g=>⟨g.1,Nat.lt_of_lt_of_le g.2.1 d.size,g.2.2⟩).keep q;exact t.mono λb d=>by rw[u];exact d
 ·refine(h.below d h.lt).keep (Z:=λb=>b≠a.heap.size) ⟨F,G,H,Nat.le_of_eq u.symm,λb _ d=>zBK _ _ _ _ _ d⟩ (by omega)
 ·exact below_setCells (e.trans (d.mono e.size)) (Nat.le_refl _) _ _
theorem zLS(ds:List zC)(all:List zB)(hg:Good ds all)(aq:all.length<=1000000)(M:Nat)(F Z:Nat->Prop)(i:Int)(w:World)(hi:Rng all i)(h:MkS w M all F Z):
  Calls prog 101 #[.pointer (some ⟨M,0,none⟩),.int .i64 i] w (zLR Z (zCu ds all i) w):=by
 have eg:=Tryz.egFrom1;have dl:= @run_makeMap prog;have hO:=zDc hg hi;have cx:=zDo (ds:=ds) (g:=all) i;have HO:=hid hO;have HG:=hid hg;have HM:=hid h;have HI:=hid hi;have HV:=hid (λP O Mv V pb B W hC hO=>zSc ds all hg aq P O Mv V pb M B F Z (ds.length+1) i [] W hi (by omega) (by simp) (by simp) hC hO);obtain⟨br,bs,bu,av,ce⟩:=zRH h;have J:=hid (And.intro br (And.intro bs (And.intro bu (And.intro av ce))));clear hO hg h hi cx br bs bu av ce;go_enter func101,ntmps101
 go_wp2_with fail
 refine(HV.out _ _ _ _ _ _ _ J.out.1 J.out.2.1).mono ?_;rintro e w1 ⟨rfl,bt,aj⟩;have bk:=hid (show zLQ w1 (w.heap.size+1+1+1+1) (w.heap.size+1+1) (w.heap.size+1+1+1+1+1+1) (zB2 ds all i) from bt);have HC:=hid (J.out.1.keep aj);have bw:=J.out.2.2.2.1.keep aj (by show _/\_/\_;omega);have d:=zHx (((zFw J.out.2.2.1)).trans (aj.mono λb _ G=>by show _/\_/\_;omega)) (Nat.le_refl _);have cf:=HC.out.size;have HB:=hid (And.intro bw (And.intro d cf));clear bt aj bw d J HV;have db:=hid HO.out.length_le;have dd:(zB2 ds all i).length <=1000000:=Nat.le_trans HO.out.length_le aq;obtain⟨vo,o0,af,a3⟩:=bk.out;have oc:=o0.cell;have ol:=o0.lt;have bl:=hid (And.intro o0 (And.intro af a3));have m1:=HC.out.m.cell;have bg:=HC.out.m.lt;have p1:=HC.out.p.cell;have bh:=HC.out.p.lt;have x1:=HB.out.1.at0;have c0:=HB.out.1.frozen 0;have c6:=HB.out.1.lt;have bi:=hid (show zCu ds all i=if 4000<(zB2 ds all i).length then([],2)else(zA8 ds all i,0) from rfl);have cj:=hid (show zA8 ds all i=(zB2 ds all i).map (zAl all (zB2 ds all i)) from rfl);generalize zB2 ds all i=od at*;obtain⟨A,cap,rfl,-,-,a4⟩:=Row.of_own af (by decide);have bm:=hid a4;clear o0 af a3 bk a4;by_cases ar:4000<od.length
 ·have HE:=hid (bi.out.trans (if_pos ar));have cr:(4000:Int)<(od.length:Int):=by omega
  go_wp2;have hx:=(HB.out.1.set_ 0 (.slice none 0 0));have r0:(w1.setCell ⟨w.heap.size+1,0,none⟩ (.slice none 0 0)).cell? ⟨w.heap.size+1,0,none⟩=some (.slice none 0 0):=hx.cell 0;refine bodyPost_ret (v:= .tuple #[.agg #[.slice none 0 0],.int .i64 2]) (by simp[results,results101,go_sem,r0]) rfl ⟨.slice none 0 0,?_,?_,HB.out.2.1.setCell (by show w.heap.size<=w.heap.size+1;omega) _⟩
  ·rw[HE.out]
  ·rw[HE.out];exact⟨none,0,rfl,Nat.le_refl _,by decide,by decide,trivial⟩
 ·have HE:=hid (bi.out.trans (if_neg ar));have cr:¬(4000:Int)<(od.length:Int):=by omega
  obtain⟨_,i0,z0,b3,ch,ad,aw,ci⟩:=Tryz.eNode;have b9:=λW=>run_makeSlice (w:=W) 81 131 i0 z0 underlying81 b3 ch .i64 .i64 (od.length:Int) (od.length:Int) (by omega) (Int.le_refl _) (by rw[ad,Int.toNat_natCast];omega) (by rw[aw];omega) (by omega)
  have a9:=size_madeCells z0.cells (od.length*4);simp only[Int.toNat_natCast,ad]at b9;generalize madeCells z0.cells (od.length*4)=cz at*;clear b3 ch ad aw ci;have dg:=hid a9;have cv:od.length<=4000:=by omega
  go_wp2;have a5:=hid (zPh (Z:=Z) (all:=all) (HB.out.2.2) a9);clear b9 a9 x1 c0 c6;go_loopw[29] (λix wr=>∃k:Nat,k<=od.length/\ix= .int .i64 k/\zLh w1 wr Z all od k) (λix _=>od.length-(intOf ix).toNat);case atStart=>exact⟨0,Nat.zero_le _,rfl,a5.out⟩
  case round=>
   (rename World=>s);obtain⟨k,hk,rfl,hL⟩:=hrel;by_cases H:k<od.length
   ·obtain⟨ob,df,rfl,-,cb⟩:=bm.out (by intro e;rw[List.map_eq_nil_iff]at e;rw[e]at H;simp at H);have aa:=cb k (.int .i64 od[k]) (by simp[H]);have az:od[k]∈od:=List.getElem_mem H;have bf:=HO.out.rng od[k] az;have bj:=hid H;(have ax:(od.take (k+1)).map (zAl all od)=(od.take k).map (zAl all od)++[zAl all od od[k]]:=by rw[List.take_succ_eq_append_getElem H,List.map_append];rfl);have ao:=hid ax;generalize hx:od[k]=x at*;have HX:=hid hx;clear hx ax cb az;obtain⟨n,rfl⟩:=Int.eq_ofNat_of_zero_le bf.1;(have b6:n<all.length:=by have:=bf.2;omega);(have dn:(n:Int)<(all.length:Nat):=by omega);(have dm:(0:Int)<=(n:Int):=by omega);(have a0:zAl all od (n:Int)=⟨all[n].leaf,all[n].fact,all[n].cuts,all[n].kids.map (zAO od)⟩:=by unfold zAl;rw[zBs b6]);obtain⟨bq,bp,L,Y,N,I,D,d⟩:=hL;have de:=D.lt;obtain⟨g,dc,vc,vk,e2,ct,e3,e4,e5,e6,hf,b4,b5⟩:=(HC.out.maker.below d).node_at b6;have ag:=d.cell (p:=⟨w.heap.size,0,none⟩) bg;rw[m1]at ag;have a7:=brd d aa (lt_of_cell aa);have ah:=d.cell (p:=⟨w.heap.size+1+1+1,0,none⟩) bh;rw[p1]at ah;have l1:=lt_of_cell ag;have l2:=lt_of_cell a7;have l3:=lt_of_cell ah;have l4:=lt_of_cell e2;have l5:=lt_of_cell e3;have HN:=hid (And.intro hf (And.intro b4 b5));have cm:=hid (show zLh w1 s Z all od k from⟨bq,bp,L,Y,N,I,D,d⟩);have HL:=hid (And.intro L (And.intro Y (And.intro N (And.intro I (And.intro D d)))));rw[a0]at ao;obtain⟨⟨AC,T,rfl,-,-,-,-⟩,-⟩:=b4;obtain⟨⟨AK,ap,rfl,-,-,cu,-⟩,-⟩:=b5;(have dj:all[n].kids.length <=17592186044416:=by omega);clear a0 bf ct hf cu L Y N I D d aa m1 bg p1 bh;generalize all[n]=a at*;have ck:=hid (λW(G:Bw s W)=>zRF Z (.slice AK a.kids.length ap) a.kids W (HN.out.2.2.keep (.of_below G)));(go_wp2_with fail);refine(ck.out _ (zF _ _)).mono ?_;rintro e w3 ⟨v3,rfl,z,a6⟩;have E:=(Blk.new s 131 #[.bool a.leaf,.int .i64 a.fact,.slice AC a.cuts.length T,.slice AK a.kids.length ap]).below a6 (by simp);have au:=zD (zF s _) a6;obtain⟨R,c,rfl,-,-,-⟩:=Row.of_own z (by decide);have x3:=E.at3;have c8:=E.frozen 3;have c9:=E.lt;have ac:=zX (zFk z (show s.heap.size+1<=_ by simp)) (w':=w3.setCell ⟨s.heap.size,3,none⟩ (.slice R a.kids.length c)) ((zA.refl (λb=>b≠s.heap.size) _).setCell (λ_ h=>h rfl) _) (λk hk e=>by have:=(z.lt k hk).1;simp at this;omega);have H4:=hid (And.intro (E.set_ 3 (.slice R a.kids.length c)) (And.intro (au.setCell (p:=⟨s.heap.size,3,none⟩) (Nat.le_refl _) (.slice R a.kids.length c)) ac));clear E au z ac a6;(go_upto_region 14 with(fail));generalize (w3.setCell ⟨s.heap.size,3,none⟩ (.slice R a.kids.length c))=w4 at*;have y3:=H4.out.1.at3;have da:=H4.out.1.lt;clear x3 c8 c9 e2 e3 e4 e5 e6 ag a7 ah l1 l2 l3 l4 l5;go_wp2;go_loopw[49] (λix wr=>∃x:Nat,x<=a.kids.length/\ix= .int .i64 x/\wr.ownsRow (s.heap.size+1) 3 1 (.slice R a.kids.length c) a.kids.length (((a.kids.take x).map (zAO od)++a.kids.drop x).map (.int .i64))/\zA (λb=>(Value.slice R a.kids.length c).ownBlock ≠some b) w4 wr) (λix _=>a.kids.length-(intOf ix).toNat);case atStart=>exact⟨0,Nat.zero_le _,rfl,by simpa using H4.out.2.2,.refl _ _⟩
    case round=>
     obtain⟨x,hx,rfl,o,q⟩:=hrel;clear y3 da;by_cases al:x<a.kids.length
     ·have cq:∃C,R=some ⟨C,0,none⟩/\s.heap.size+1<=C:=by
       rcases o.2 with⟨_,h0⟩|⟨C,c',cur',hv,hge,_⟩
       ·omega
       ·injection hv with hv;exact⟨C,hv,hge⟩
      obtain⟨C,rfl,di⟩:=cq
      have cg:(((a.kids.take x).map (zAO od)++a.kids.drop x).map (Value.int .i64))[x]? =some (.int .i64 a.kids[x]):=by
       rw[List.getElem?_map,List.getElem?_append_right (by simp;omega)];simp[Nat.min_eq_left (Nat.le_of_lt al),al]
      obtain⟨ai,bx⟩:=zNM o cg;have a8:=lt_of_cell ai;have X:wr.cell? ⟨s.heap.size,3,none⟩=some (.slice (some ⟨C,0,none⟩) a.kids.length c):=q.cell (by show some C≠some s.heap.size;intro e;injection e with e;omega) (H4.out.1.cell 3)
      have ba:∀b,b<w1.heap.size->wr.heap[b]? =w1.heap[b]? :=λb G=>by
       have U:=HL.out.2.2.2.2.2;rw[q.block b (by have:=U.size;have:=H4.out.2.1.size;omega) (by show some C≠some b;intro e;injection e with e;have:=U.size;omega),H4.out.2.1.block b (by have:=U.size;omega),U.block b G]
      have hP:=HC.out.p.of_block (ba _ HC.out.p.lt);have cd:=hP.cell;have cw:=hP.lt;have b8:=bl.out.2.2.of_block (ba _ bl.out.2.2.lt);have a1:((a.kids.take (x+1)).map (zAO od)++a.kids.drop (x+1)).map (Value.int .i64)=(((a.kids.take x).map (zAO od)++a.kids.drop x).map (Value.int .i64)).set x (.int .i64 (zAO od a.kids[x])):=zTt a.kids (zAO od) al;have bn:=hid a1;have ab:wr.drew.ownsRow (s.heap.size+1) 3 1 (.slice (some ⟨C,0,none⟩) a.kids.length c) a.kids.length (((a.kids.take x).map (zAO od)++a.kids.drop x).map (.int .i64)):=o;have ay:zA (λb=>(Value.slice (some ⟨C,0,none⟩) a.kids.length c).ownBlock ≠some b) w4 wr.drew:=q.drew;have bo:=hid (And.intro (zO8 ab x (.int .i64 (zAO od a.kids[x]))) (ay.setCell (p:=⟨C,x,none⟩) (λ_ h=>h rfl) (.int .i64 (zAO od a.kids[x]))));have bv:=lt_of_cell X;have cn:=hid (λ(W:World)(h:zW encI W (w.heap.size+1+1) (kvO od 0))=>(show(Instr.lookup 214 (.map (some (w.heap.size+1+1))) (.int .i64 a.kids[x]) false).run prog W= .ok (.int .i64 (zAO od a.kids[x])) W from(Tryz.lookII h a.kids[x] false).trans (by rw[zRG])));clear o q cg ba hP a1 ab ay;generalize zAO od a.kids[x]=px at*;generalize a.kids[x]=kx at*;go_wp2;refine zL 11 (λW=>W.cell? ⟨s.heap.size,3,none⟩=some (.slice (some ⟨C,0,none⟩) a.kids.length c)/\W.cell? ⟨w.heap.size+1+1+1,0,none⟩=some (.map (some (w.heap.size+1+1)))/\W.cell? ⟨C,x,none⟩=some (.int .i64 kx)/\zW encI W (w.heap.size+1+1) (kvO od 0)) (by kernel_rfl) ?_;have Q:(λW:World=>W.cell? ⟨s.heap.size,3,none⟩=some (.slice (some ⟨C,0,none⟩) a.kids.length c)/\W.cell? ⟨w.heap.size+1+1+1,0,none⟩=some (.map (some (w.heap.size+1+1)))/\W.cell? ⟨C,x,none⟩=some (.int .i64 kx)/\zW encI W (w.heap.size+1+1) (kvO od 0)) wr.drew:=⟨X,cd,ai,b8⟩;have b1:wr.drew.cell? ⟨C,x,none⟩=some (.int .i64 kx):=ai;have bz:wr.drew.frozen? ⟨C,x,none⟩=false:=bx;have b0:C<wr.drew.heap.size:=a8;clear ai bx a8 X cd b8 cw bv;generalize wr.drew=w6 at*
      (refine tkS 0 ?_ Q ?_ ?_;rotate_left;intro w f;obtain⟨U,h2,h3,h4⟩:=f;go_simp;(try with_reducible rfl);simp only[nr])
      (refine tkS 1 ?_ Q ?_ ?_;rotate_left;intro w f;obtain⟨U,h2,h3,h4⟩:=f;go_simp;(try with_reducible rfl);simp only[nr])
      (refine tkQ 2 Q ?_;simp only[nr])
      (refine tkS 3 ?_ Q ?_ ?_;rotate_left;intro w f;obtain⟨U,h2,h3,h4⟩:=f;go_simp;(try with_reducible rfl);simp only[nr])
      (refine tkS 4 ?_ Q ?_ ?_;rotate_left;intro w f;obtain⟨U,h2,h3,h4⟩:=f;go_simp;(try with_reducible rfl);simp only[nr])
      (refine tkS 5 ?_ Q ?_ ?_;rotate_left;intro w f;obtain⟨U,h2,h3,h4⟩:=f;go_simp;(try with_reducible rfl);simp only[nr])
      (refine tkQ 6 Q ?_;simp only[nr])
      (refine tkQ 7 Q ?_;simp only[nr])
      (refine tkS 8 ?_ Q ?_ ?_;rotate_left;intro w f;obtain⟨U,h2,h3,h4⟩:=f;go_simp;(try with_reducible rfl);simp only[nr])
      (refine tkS 9 ?_ Q ?_ ?_;rotate_left;intro w f;obtain⟨U,h2,h3,h4⟩:=f;have dk:=cn.out _ h4;go_simp;(try with_reducible rfl);simp only[nr])
      (refine tkQ 10 Q ?_;simp only[nr])
      refine wS1 11 (λK hK=> ?_);(go_wp2_with fail);refine hK _ _ (Or.inl rfl) ?_;clear hK K Q b1 bz b0
      (try simp only[nr])
      refine wSd ?_ _;go_wp2;go_roundw
      case rel=>
       refine⟨x+1,by omega,by go_num,?_,bo.out.2⟩;rw[bn.out];exact bo.out.1
      case measure=>simp[intOf];omega
     ·(obtain rfl:x=a.kids.length:=by omega);(have bc:∀b,b<=s.heap.size->(Value.slice R a.kids.length c).ownBlock ≠some b:=λb G e=>by have:=(o.lt b e).1;omega);have ak:Bw s wr:=H4.out.2.1.trans ⟨q.os,q.tape,q.output,q.size,λb G=>q.block b (by have:=H4.out.2.1.size;omega) (bc b (by omega))⟩;have t:=H4.out.1.keep q (bc _ (Nat.le_refl _));rw[List.take_length,List.drop_length,List.append_nil]at o
      have b7:zK (λb=>s.heap.size+1<=b/\b<wr.heap.size) wr (.slice R a.kids.length c) (a.kids.map (zAO od)):=by
       refine(zK.of_own (xs:=a.kids.map (zAO od)) o (λx hx=> ?_) (by rw[List.length_map];omega)).live;obtain⟨y,_,rfl⟩:=List.mem_map.1 hx;exact zSg cv y
      have a2:=HL.out.2.2.2.2.1.lt
      have ca:zAP (λb=>(Z b\/w1.heap.size+1<b)/\b<wr.heap.size/\b≠w1.heap.size) wr [.bool a.leaf,.int .i64 a.fact,.slice AC a.cuts.length T,.slice R a.kids.length c] ⟨a.leaf,a.fact,a.cuts,a.kids.map (zAO od)⟩:=
       ⟨_,_,rfl,HN.out.1,(HN.out.2.1.keep (.of_below ak)).live.mono λb G=>⟨Or.inl G.1,G.2,by have:=HM.out.liveZ b G.1;omega⟩,b7.mono λb G=>⟨Or.inr (by omega),G.2,by omega⟩⟩
      have bd:=zRI (all:=all) (od:=od) cm.out bj.out ak ca ao.out;have cp:=hid bd.2;have cy:=bd.1;have dh:=t.at0;have ag:=t.at1;have a7:=t.at2;have ah:=t.at3;have b2:wr.cell? ⟨w1.heap.size+1,0,none⟩=some (.slice (some ⟨w1.heap.size,0,none⟩) od.length od.length):=(HL.out.2.2.2.2.1.below ak a2).cell 0;have cs:=lt_of_cell b2;have a8:=t.lt;have H:=bj.out;clear bc ak t o b7 ca bd q a2;go_wp2_with(refine wpList_store_mid rfl 131 (.tmp 68) (.tmp 67) rfl w1.heap.size (k*4) #[.bool a.leaf,.int .i64 a.fact,.slice AC a.cuts.length T,.slice R a.kids.length c] rfl rfl cy Tryz.szN (by simp[Value.oneCell']) ?_);go_roundw;(case rel=>exact⟨k+1,by omega,by go_num,cp.out⟩);case measure=>simp[intOf];omega
   ·(obtain rfl:k=od.length:=by omega);obtain⟨bq,bp,L,Y,N,I,D,d⟩:=hL;have b2:=D.at0;have cs:=D.lt;have ae:=HB.out.1.below d HB.out.1.lt;have dp:=ae.at0;have dq:=ae.frozen 0;have al:=ae.lt;have cc:=HC.out.size
    have HP:=hid (show z8 (λb=>Z b\/w.heap.size<=b) (s.setCell ⟨w.heap.size+1,0,none⟩ (.slice (some ⟨w1.heap.size,0,none⟩) od.length od.length)) (.slice (some ⟨w1.heap.size,0,none⟩) od.length od.length) (zCu ds all i).1/\Bw w (s.setCell ⟨w.heap.size+1,0,none⟩ (.slice (some ⟨w1.heap.size,0,none⟩) od.length od.length)) from by
     have bb:(od.map (zAl all od)).length =od.length:=List.length_map _;refine⟨?_,(HB.out.2.1.trans (d.mono (by omega))).setCell (by show w.heap.size<=w.heap.size+1;omega) _⟩;rw[HE.out,cj.out];refine z8.keep (Z:=λb=>(Z b\/w1.heap.size<=b)) ?_ ((zA.refl _ _).setCell (λ_ h=> ?_) _) |>.mono λb G=>G.imp_right λh=>by omega
     ·refine⟨some ⟨w1.heap.size,0,none⟩,od.length,by rw[bb],by rw[bb];exact Nat.le_refl _,by omega,by rw[bb];omega,?_⟩;rw[List.take_length]at I;(refine NdL.rows (Or.inr (Nat.le_refl _)) (I.mono λb G=>G.1.imp_right λh=>by omega) λj u hu=> ?_);rw[Nat.zero_add,L.cell];rw[<-N,List.take_of_length_le (by simp;omega),Array.getElem?_toList]at hu;exact hu
     ·rcases h with h|h
      ·exact absurd (HM.out.liveZ _ h) (by show ¬(w.heap.size+1<w.heap.size);omega)
      ·simp at h;omega)
    have cl:=hid (show(zCu ds all i).2=0 from by rw[HE.out]);have co:=hid ((ae.set_ 0 (.slice (some ⟨w1.heap.size,0,none⟩) od.length od.length)).cell 0);clear L Y N I D d ae m1 bg p1 bh cc;go_wp2;have r0:(s.setCell ⟨w.heap.size+1,0,none⟩ (.slice (some ⟨w1.heap.size,0,none⟩) od.length od.length)).cell? ⟨w.heap.size+1,0,none⟩=some (.slice (some ⟨w1.heap.size,0,none⟩) od.length od.length):=co.out;refine bodyPost_ret (v:= .tuple #[.agg #[.slice (some ⟨w1.heap.size,0,none⟩) od.length od.length],.int .i64 0]) (by simp[results,results101,go_sem,r0]) rfl ⟨_,?_,HP.out.1,HP.out.2⟩;rw[cl.out]
theorem Tryz.egValid1:∀args w,(callFunc 97 args).run prog w= .ok (.enter 97 args) w:=enters_of func97 (by kernel_rfl) rfl
theorem zRJ(Gb Db:Nat)(Z:zE)(d vd:Value)(g:List zB)(ds:List zC)(n:zB)(cs:List Value)(w:World)(u:w.cell? ⟨Gb,0,none⟩=some d)(s:w.cell? ⟨Db,0,none⟩=some vd)
  (j:z8 Z w d g)(m:zAP Z w cs n)(i:Facts Z w vd ds):
  Calls prog 97 #[.agg cs.toArray,.pointer (some ⟨Gb,0,none⟩),.pointer (some ⟨Db,0,none⟩)] w λe w'=>e= .returned (.bool (!zAV ds g n))/\Bw w w':=by
 have a:=λo=>zF w o
 have q:=hid (λo=>zRB Z d vd g ds n cs (w.alloc o) (j.keep (.of_below (a o))) (m.keep (.of_below (a o))) (i.keep (.of_below (a o))));have v:=lt_of_cell u;have t:=lt_of_cell s;obtain⟨z,B,rfl,-,h,k⟩:=m;obtain⟨C,x,rfl,-⟩:=h.form;obtain⟨K,y,rfl,-⟩:=k.form;obtain⟨A,cap,rfl,-⟩:=j;obtain⟨⟨D,f,rfl,-⟩,-⟩:=i;clear h k;go_enter func97,ntmps97
 go_wp2_with fail
 refine(q.out _).mono ?_;rintro e w1 ⟨rfl,b⟩;have c:=zD (zF w _) b;go_wp2;go_ret;exact⟨rfl,c⟩
theorem zQY{lo hi:Int}:∀{l:List Int},zy lo hi l->(l.length:Int)<=hi-lo\/l=[]
 |[],_=>Or.inr rfl
 |c::r,h=>by
  have ih:=zQY h.2.2;have a:=h.1;have b:=h.2.1;left;rcases ih with ih|rfl
  ·simp only[List.length_cons];omega
  ·simp only[List.length_cons,List.length_nil];omega
theorem zCy(h:zCQ f=true):0<=f.lo/\f.lo<=f.hi/\f.hi<=1000000:=by
 unfold zCQ at h;simp only[Bool.and_eq_true,Bool.or_eq_true,beq_iff_eq,decide_eq_true_eq]at h;omega
theorem zEb(h:zN ds=true)(a:f∈ds):zCQ f=true:=by
 unfold zN at h;simp only[Bool.and_eq_true,List.all_eq_true]at h;exact h.1.1 f a
theorem zUt{i:Int}(a:0<=i)(b:i<ds.length):fAt ds i∈ds:=by
 unfold fAt;rw[List.getD_eq_getElem?_getD,List.getElem?_eq_getElem (by omega)];exact List.getElem_mem _
theorem zRK{g:List zB}{n:zB}(b:zN ds=true)(h:zGO ds g n):n.cuts.length<=1000000/\n.kids.length<=1000001:=by
 rcases h with h|h
 ·rw[h.1,h.2.2];simp
 ·have c:=zCy (zEb b (zUt h.f0 h.f1));have a:=h.len;rcases zQY h.asc with e|e
  ·omega
  ·rw[e]at a⊢;simp at a⊢;omega
def zVZ(Z:zE)(w0 wr:World)(M Gb:Nat)(vg:Value)(g:List zB)(k:Nat):Prop:=
 ∃F Z',MkS wr M (g.take k) F Z'/\(∀b,F b->M<=b)/\(∀b,Z' b->Z b/\b<w0.heap.size)/\Bw w0 wr/\wr.cell? ⟨Gb,0,none⟩=some vg/\(g.take k).Nodup
theorem zEJ(Z:zE)(vg vd:Value)(g:List zB)(ds:List zC)(w:World)(hg:z8 Z w vg g)(hd:Facts Z w vd ds)(aa:zAD w.heap.size w):
  Calls prog 67 #[.agg #[vg],.agg #[vd]] w λe w'=>e= .returned (.bool (zB3 ds g))/\Bw w w':=by
 have eg:=Tryz.egValid1;have s:=(zF w (.cells #[vg] 83)).alloc (by simp) (.cells #[vd] 24);have HV:=hid (zDB Z vd ds _ (hd.keep (.of_below s)));have j:=(Blk.new w 83 #[vg]).alloc (.cells #[vd] 24);have E:=Blk.new' (w.alloc (.cells #[vg] 83)) 24 #[vd] (n:=w.heap.size+1) (by simp);have H:=hid s;have ae:=hid j;have ad:=hid E;have HG:=hid hg;have HD:=hid hd;have HT:=hid aa;have d:=hid (show zB3 ds g=(zN ds&&decide (g≠[])&&decide (g.length<=4000)&&g.all (zAV ds g)&&decide g.Nodup&&decide (zA8 ds g 0=g)) from rfl);obtain⟨A,cap,rfl,bj,bl,ax⟩:=hg.open_;obtain⟨D,bi,rfl,-,-,-⟩:=hd.open_;have a5:=hid ax;clear s j E hg hd aa ax;go_enter func67,ntmps67
 by_cases hv:zN ds=true
 ·rw[hv]at HV d;have a8:=hid hv;simp only[Bool.true_and]at d;clear hv;go_wp2_with fail
  refine HV.out.mono ?_;rintro e w1 ⟨rfl,C⟩;have j:=ae.out.below C ae.out.lt;have E:=ad.out.below C ad.out.lt;have g0:=j.at0;have ai:=j.lt;have a9:=E.lt;have I:=hid j;have U:=hid E;have f:=hid (H.out.trans (C.mono H.out.size));clear j E C ae ad H HV;by_cases he:g=[]
  ·(have e1:((g.length:Int)==0)=true:=by simp[he]);rw[decide_eq_false (show ¬g≠[] by simp[he])]at d;simp only[Bool.false_and]at d;clear he;go_wp2;go_ret;rw[d.out];exact⟨rfl,f.out⟩
  have e1:((g.length:Int)==0)=false:=by simp[he]
  rw[decide_eq_true he]at d;simp only[Bool.true_and]at d;have a6:=hid he;clear he;by_cases hl:g.length<=4000
  ·(have e2:decide ((4000:Int)<(g.length:Int))=false:=by simp;omega);(have ba:decide (4000<g.length)=false:=by simp;omega);rw[decide_eq_true hl]at d;simp only[Bool.true_and]at d;have HR:=hid (zm.imp (R:=zAP Z w) (R':=zAP Z w) (λ_ _ h=>h) (zA.of_below f.out) (λ_ h=>h) (by obtain⟨_,_,e,_,_,_,h⟩:=HG.out;injection e with e1;subst e1;exact h))
   have V:=hid (zJD 97 #[.pointer (some ⟨w.heap.size,0,none⟩),.pointer (some ⟨w.heap.size+1,0,none⟩)] Tryz.egValid1 (zAP Z w) Z g (λi=> !zAV ds g (g.getD i zBN)) A cap w1
    (λcs x h=>by obtain⟨a,b,e,_⟩:=h;exact⟨_,_,_,_,e⟩) HR.out (by omega) (λi hi cs bd W u=>by
     have ap:=f.out.trans (u.mono f.out.size);have:=zRJ w.heap.size (w.heap.size+1) Z _ _ g ds g[i] cs W (brd u g0 ai) ((u.cell (p:=⟨w.heap.size+1,0,none⟩) a9).trans (U.out.cell 0)) (HG.out.keep (.of_below ap)) (bd.keep (.of_below ap)) (HD.out.keep (.of_below ap));(have e:g.getD i zBN=g[i]:=by simp[List.getD_eq_getElem?_getD,hi]);show Calls prog 97 _ W λe W'=>e= .returned (.bool (!zAV ds g (g.getD i zBN)))/\Bw W W'
     rw[e];exact this))
   have X:decide ((0:Int)<=firstIdx (λi=> !zAV ds g (g.getD i zBN)) g.length 0)= !g.all (zAV ds g):=by
    rcases zDf (λi=> !zAV ds g (g.getD i zBN)) g.length 0 with⟨k,h0,h1,h2,B,e⟩|⟨h0,e⟩
    ·rw[e];have hk:k<g.length:=by omega
     have:g.all (zAV ds g)=false:=by
      rw[List.all_eq_false];refine⟨g[k],List.getElem_mem hk,?_⟩;(have e:g.getD k zBN=g[k]:=by simp[List.getD_eq_getElem?_getD,hk]);simp only[e]at h2;simpa using h2
     rw[this];simp
    ·rw[e]
     have:g.all (zAV ds g)=true:=by
      rw[List.all_eq_true];intro x hx;obtain⟨k,hk,rfl⟩:=List.getElem_of_mem hx;have:=h0 k (Nat.zero_le _) (by omega);(have e:g.getD k zBN=g[k]:=by simp[List.getD_eq_getElem?_getD,hk]);simp only[e]at this;simpa using this
     rw[this];rfl
   rw[X]at V;clear X HR
   cases hp:g.all (zAV ds g)with
   |false=>
    rw[hp]at V d;simp only[Bool.not_false,Bool.false_and]at V d;clear hp hl;(go_wp2_with fail);refine V.out.mono ?_;rintro e P ⟨rfl,s⟩;have bc:=f.out.trans (s.mono f.out.size);go_wp2;go_ret;rw[d.out];exact⟨rfl,bc⟩
   |true=>
    rw[hp]at V d;simp only[Bool.not_true,Bool.true_and]at V d;have au:=hid (show ∀n∈g,zGO ds g n from λn hn=>zLB.1 (List.all_eq_true.1 hp n hn));have HL:=hid hl;clear hp hl;(go_wp2_with fail);refine V.out.mono ?_;rintro e P ⟨rfl,s⟩;have j:=I.out.below s I.out.lt;have g0:=j.at0;have ai:=j.lt;have J:=hid (f.out.trans (s.mono f.out.size));clear j s I U f V;go_wp2;have ab:=hid (And.intro g0 (And.intro ai J.out.size));clear g0;go_loopw[38] (λi wr=>∃k:Nat,k<=g.length/\i= .int .i64 k/\zVZ Z w wr P.heap.size w.heap.size (.slice A g.length cap) g k) (λi _=>g.length-(intOf i).toNat)
    case atStart=>
     exact⟨0,Nat.zero_le _,rfl,λb=>b=P.heap.size,λ_=>False,MkS.new P,λb h=>by omega,λb h=>h.elim,J.out.alloc J.out.size _,zFM ab.out.1 _,by simp⟩
    case round=>
     obtain⟨k,hk,rfl,F,Z',m,hF,aj,c,v,t⟩:=hrel;by_cases M:k<g.length
     ·obtain⟨b,bh,vc,vk,rfl,hz,K,c0,c1,c2,c3,hf,hc,al⟩:=a5.out k M;obtain⟨VC,aw,rfl,-⟩:=hc.form;obtain⟨VK,a4,rfl,-⟩:=al.form;replace c0:=brd c c0 K;replace c1:=brd c c1 K;replace c2:=brd c c2 K;replace c3:=brd c c3 K;have bm:=lt_of_cell c0;have bg:=zRK a8.out (au.out _ (List.getElem_mem M));have bq:=ab.out.2.2
      have HN:=hid (λW(u:Bw wr W)=>zGv P.heap.size (g.take k) F Z' (λb=>Z b/\b<w.heap.size) g[k] [.bool g[k].leaf,.int .i64 g[k].fact,.slice VC g[k].cuts.length aw,.slice VK g[k].kids.length a4] W (m.below u)
       ⟨⟨_,_,rfl,hf,(hc.live.keep (.of_below (c.trans (u.mono c.size)))),(al.live.keep (.of_below (c.trans (u.mono c.size))))⟩,λb K=>⟨λh=>by have:=hF b h;omega,by have:=c.size;have:=u.size;omega⟩,by omega,by omega⟩
       (by have:=HL.out;rw[List.length_take];omega) ((HT.out.on (c.trans (u.mono c.size))).mono (by have:=c.size;have:=u.size;omega)))
      have ag:=hid (λ(W w':World)(u:Bw wr W)(hN:g[k]∉g.take k)(hP:zCW W P.heap.size F (λb=>Z' b\/(Z b/\b<w.heap.size)) (zo (g.take k) g[k]) (.returned (.int .i64 (zo (g.take k) g[k]).1)) w')=>
       (show zVZ Z w w' P.heap.size w.heap.size (.slice (some ⟨b,bh,none⟩) g.length cap) g (k+1) from by
        obtain⟨-,⟨F',h1,h2⟩,B⟩:=hP;rw[show(zo (g.take k) g[k]).2=g.take (k+1) from by unfold zo;rw[if_neg hN,List.take_succ_eq_append_getElem M]]at h1;refine⟨F',_,h1,λb h=> ?_,λb h=> ?_,?_,?_,?_⟩
        ·rcases h2 b h with h|h
         ·exact hF b h
         ·have:=m.liveF _ m.fM;have:=u.size;omega
        ·rcases h with h|h
         ·exact aj b h
         ·exact h
        ·have L:=c.trans (u.mono c.size);exact L.trans ⟨B.os,B.tape,B.output,B.size,λb K=>B.block b (by have:=L.size;omega) (λh=>by have:=hF b h;omega)⟩
        ·exact B.cell (p:=⟨w.heap.size,0,none⟩) (λh=>by have h':P.heap.size<=w.heap.size:=hF _ h;have:=ab.out.2.1;omega) (brd u v (lt_of_cell v))
        ·rw[List.take_succ_eq_append_getElem M,List.nodup_append]
         exact⟨t,by simp,λa ha b K e=>by simp at K;subst K;exact hN (e▸ha)⟩))
      have af:=hid (show g[k]∈g.take k->g.Nodup->False from λY hn=>by
       (have hd:g[k]∈g.drop k:=by rw[List.drop_eq_getElem_cons M];exact List.mem_cons_self);generalize g[k]=nd at*;rw[<-List.take_append_drop k g,List.nodup_append]at hn
       exact hn.2.2 _ Y nd hd rfl)
      have T:=hid (show(g[k]∈g.take k->(zo (g.take k) g[k]).1=((g.take k).idxOf g[k]:Nat)/\(g.take k).idxOf g[k]<k)/\(g[k]∉g.take k->(zo (g.take k) g[k]).1=(k:Nat)) from
       ⟨λh=>⟨by unfold zo;rw[if_pos h],by have:=List.idxOf_lt_length_of_mem h;rw[List.length_take]at this;omega⟩,λh=>by unfold zo;rw[if_neg h,List.length_take];simp;omega⟩)
      have a7:=hid (λ(W w':World)(u:Bw wr W)(e:Ending)(hP:zCW W P.heap.size F (λb=>Z' b\/(Z b/\b<w.heap.size)) (zo (g.take k) g[k]) e w')=>(show Bw w w' from by
        obtain⟨-,-,B⟩:=hP;have L:=c.trans (u.mono c.size)
        exact L.trans ⟨B.os,B.tape,B.output,B.size,λb K=>B.block b (by have:=L.size;omega) (λh=>by have:=hF b h;omega)⟩))
      have hM:=m.liveF _ m.fM;(have bo:((k:Nat):Int)<(g.length:Int):=by omega);(have bn:(0:Int)<=((k:Nat):Int):=by omega);have Q:=hid (λo=>zF wr o);clear m hF aj c v t hf hc al K bg;generalize hr:zo (g.take k) g[k]=r at*;by_cases Y:g[k]∈g.take k
      ·have G:=T.out.1 Y;have t:=af.out Y;rw[decide_eq_false (show ¬g.Nodup from λh=>t h)]at d;simp only[Bool.false_and]at d;obtain⟨q,hq,bp⟩:∃q:Nat,r.1=(q:Int)/\q<k:=⟨_,G.1,G.2⟩;(have e5:(r.1 !=(k:Int))=true:=by rw[hq];simp;omega);clear Y G t T af ag hr hq;generalize g[k]=nd at*;(go_wp2_with fail);refine(HN.out _ (Q.out _)).mono ?_;rintro e w3 ⟨rfl,N⟩;have ah:=hid (a7.out _ _ (Q.out _) _ ⟨rfl,N⟩);clear N;go_wp2;go_ret;rw[d.out];exact⟨rfl,ah.out⟩
      ·have G:=T.out.2 Y;(have e5:(r.1 !=(k:Int))=false:=by rw[G];simp);have ar:=hid (λ(W w':World)(u:Bw wr W) hP=>ag.out W w' u Y hP);clear Y G T af ag hr;generalize g[k]=nd at*;(go_wp2_with fail);refine(HN.out _ (Q.out _)).mono ?_;rintro e w3 ⟨rfl,N⟩;have ah:=hid (ar.out _ _ (Q.out _) ⟨rfl,N⟩);clear N;go_wp2;go_roundw;(case rel=>exact⟨k+1,by omega,by go_num,ah.out⟩);case measure=>simp[intOf];omega
     ·(obtain rfl:k=g.length:=by omega);rw[List.take_length]at m t;have y:Good ds g:=⟨au.out,t⟩;have O:Rng g 0:=⟨Int.le_refl _,by have:=List.length_pos_iff.2 a6.out;omega⟩;rw[decide_eq_true t]at d;simp only[Bool.true_and]at d;have a2:=(zDc y O).length_le;(have az:zCu ds g 0=(zA8 ds g 0,0):=by unfold zCu;rw[if_neg (by have:=HL.out;omega)]);have HF:=hid (zLS ds g y (by have:=HL.out;omega) P.heap.size F Z' 0 wr O m);rw[az]at HF;have hM:=m.liveF _ m.fM;have aq:=hid (And.intro c v);have a0:=lt_of_cell v;clear t y O a2 az m hF aj c;(go_wp2_with fail);refine HF.out.mono ?_;rintro e w3 ⟨v3,rfl,ao,ak⟩;have bf:=brd ak v a0;have bk:=lt_of_cell bf;have z:=aq.out.1.trans (ak.mono aq.out.1.size);have a1:=ao;obtain⟨A3,av,rfl,-⟩:=a1;have HS:=hid (λo=>zSf _ Z (.slice A3 (zA8 ds g 0).length av) (.slice A g.length cap) (zA8 ds g 0) g (w3.alloc o) (ao.keep ((zA.refl _ _).alloc o)) (HG.out.keep (.of_below (z.alloc z.size o))));have ac:=hid z;clear ao ak z v;(go_wp2_with fail);refine(HS.out _).mono ?_;rintro e w4 ⟨rfl,bb⟩;have ay:=(ac.out.alloc ac.out.size _).trans (bb.mono (by have:=ac.out.size;simp;omega));go_wp2;go_ret;rw[d.out];exact⟨rfl,ay⟩
  ·(have e2:decide ((4000:Int)<(g.length:Int))=true:=by simp;omega);(have ba:decide (4000<g.length)=true:=by simp;omega);rw[decide_eq_false hl]at d;simp only[Bool.false_and]at d;clear hl;go_wp2;go_ret;rw[d.out];exact⟨rfl,f.out⟩
 ·have a3:zN ds=false:=by simpa using hv
  rw[a3]at HV d;simp only[Bool.false_and]at d;clear hv a3;go_wp2_with fail
  refine HV.out.mono ?_;rintro e w1 ⟨rfl,C⟩;have f:=hid (H.out.trans (C.mono H.out.size));go_wp2;go_ret;rw[d.out];exact⟨rfl,f.out⟩
instance decFact2:DecidableEq zC:=λa b=>decidable_of_iff (a.name=b.name/\a.kind=b.kind/\a.lo=b.lo/\a.hi=b.hi) (by cases a;cases b;simp)
theorem zRL:∃f0 f1 f2 f3:Field,prog.underlying 67=some (.struct #[f0,f1,f2,f3])/\f0.name≠ "_" /\f1.name≠ "_" /\f2.name≠ "_" /\f3.name≠ "_" /\f0.type=9/\f1.type=3/\f2.type=3/\f3.type=3/\f0.offset=0/\f1.offset=1/\f2.offset=2/\f3.offset=3:=
 ⟨_,_,_,_,underlying67,by decide,by decide,by decide,by decide,rfl,rfl,rfl,rfl,rfl,rfl,rfl,rfl⟩
def zEc(f:zC):Value:= .agg #[.string f.name,.int .i64 f.kind,.int .i64 f.lo,.int .i64 f.hi]
theorem zO9(w:World)(x y:zC):
  (Op.equalIn 10000 67 (zEc x) (zEc y)).run prog w= .ok (x.name==y.name&&(x.kind==y.kind&&(x.lo==y.lo&&x.hi==y.hi))) w:=by
 obtain⟨k,m,n,o,u,v,A,B,C,I,J,K,L,D,E,F,G⟩:=zRL;have hF:prog.underlying 67=some (.struct (prog.fieldsOf 67)):=by kernel_rfl
 have f:(prog.fieldsOf 67).toList =[k,m,n,o]:=by unfold Program.fieldsOf;rw[u]
 have e:prog.plainKey 3=true:=by kernel_rfl
 have t:prog.plainKey 9=true:=by kernel_rfl
 have H:∀z:zC,(part 9 #[.string z.name,.int .i64 z.kind,.int .i64 z.lo,.int .i64 z.hi] 0).run prog w= .ok (.string z.name) w:=λz=>run_part_plain w t rfl
 have g:∀z:zC,(part 3 #[.string z.name,.int .i64 z.kind,.int .i64 z.lo,.int .i64 z.hi] 1).run prog w= .ok (.int .i64 z.kind) w:=λz=>run_part_plain w e rfl
 have h:∀z:zC,(part 3 #[.string z.name,.int .i64 z.kind,.int .i64 z.lo,.int .i64 z.hi] 2).run prog w= .ok (.int .i64 z.lo) w:=λz=>run_part_plain w e rfl
 have i:∀z:zC,(part 3 #[.string z.name,.int .i64 z.kind,.int .i64 z.lo,.int .i64 z.hi] 3).run prog w= .ok (.int .i64 z.hi) w:=λz=>run_part_plain w e rfl
 have q:∀(d:Nat)(a b:Int),(Op.equalIn (d+1) 3 (.int .i64 a) (.int .i64 b)).run prog w= .ok (a==b) w:=λd a b=>by simp[Op.equalIn,run_underlying underlying3]
 have s:∀(d:Nat)(x y:ByteArray),(Op.equalIn (d+1) 9 (.string x) (.string y)).run prog w= .ok (x==y) w:=λd x y=>by simp[Op.equalIn,run_underlying underlying9]
 have c:∀a b:Int,(Op.equalIn 9999 3 (.int .i64 a) (.int .i64 b)).run prog w= .ok (a==b) w:=q 9998;have j:∀x y:ByteArray,(Op.equalIn 9999 9 (.string x) (.string y)).run prog w= .ok (x==y) w:=s 9998;unfold zEc;rw[show(10000:Nat)=9999+1 from rfl,run_equalIn_struct w 9999 67 _ _ hF (by kernel_rfl),f];simp only[Op.eqFields,v,A,B,C,I,J,K,L,D,E,F,G,ne_eq,not_false_eq_true,if_true,Sem.run_bind,H,g,h,i,c,j,Result.andThen_ok];cases x.name==y.name
 ·simp
 ·simp only[Bool.not_true,Bool.false_eq_true,if_false,Sem.run_bind,g,c,Result.andThen_ok,Bool.true_and];cases x.kind==y.kind
  ·simp
  ·simp only[Bool.not_true,Bool.false_eq_true,if_false,Sem.run_bind,h,c,Result.andThen_ok,Bool.true_and];cases x.lo==y.lo
   ·simp
   ·simp only[Bool.not_true,Bool.false_eq_true,if_false,Sem.run_bind,i,c,Result.andThen_ok,Bool.true_and];cases x.hi==y.hi<;>simp
theorem zSh{x y:zC}:(x.name==y.name&&(x.kind==y.kind&&(x.lo==y.lo&&x.hi==y.hi)))=decide (x=y):=by
 have f:(x.name==y.name)=decide (x.name=y.name):=by
  by_cases h:x.name=y.name
  ·rw[decide_eq_true h,h];exact(MapKept.bytes_beq _ _).2 rfl
  ·rw[decide_eq_false h]
   cases e:(x.name==y.name)with
   |false=>rfl
   |true=>exact absurd ((MapKept.bytes_beq _ _).1 e) h
 rw[f];obtain⟨a,b,c,d⟩:=x;obtain⟨g,i,j,k⟩:=y;rw[Bool.eq_iff_iff];simp
theorem zTu{ρ:Operand->Value}{x y:Operand}(p q:zC)(W:World)(d:o.op= .binOp .neq 67 x y 67)(e:ρ x=zEc p)(f:ρ y=zEc q):
  (execOp ρ o).run prog W= .ok (.value (.bool (!decide (p=q)))) W:=by
 have b:(eqGuard .neq 67 x y (zEc p) (zEc q)).run prog W= .ok () W:=run_eqGuard_agg W .neq 67 x y _ _ (by kernel_rfl)
 have c:(binOp .neq 67 (zEc p) (zEc q)).run prog W= .ok (.bool (!decide (p=q))) W:=by
  have a:=zO9 W p q;unfold zEc at a⊢;rw[run_neq_struct,a,zSh];rfl
 unfold execOp;simp only[d,e,f,Sem.run_bind,b,c,Result.andThen_ok,Sem.run_pure]
theorem zOa{a:Act}{K:Act->World->Prop}{Q:Exit->Act->World->Prop}(x y:Operand)(c:o.op= .binOp .neq 67 x y 67)(p q:zC)(d:a.eval x=zEc p)(e:a.eval y=zEc q)
  (b:K (a.put o.dst (.bool (!decide (p=q)))) w):Oper.wp prog o a w K Q:=by
 unfold Oper.wp;rw[zTu p q w c d e];exact b
theorem Facts.form{xs:List zC}(h:Facts Z w v xs):∃A cap,v= .slice A xs.length cap/\xs.length<=3518437208883:=by
 obtain⟨⟨A,cap,rfl,_,_,a,_⟩,_⟩:=h;exact⟨A,cap,rfl,by omega⟩
theorem Facts.at4{xs:List zC}(h:Facts Z w (.slice A n cap) xs){i:Nat}(hi:i<xs.length):∃b off,A=some ⟨b,off,none⟩/\b<w.heap.size/\
  w.cell? ⟨b,off+i*4,none⟩=some (.string xs[i].name)/\w.cell? ⟨b,off+i*4+1,none⟩=some (.int .i64 xs[i].kind)/\w.cell? ⟨b,off+i*4+2,none⟩=some (.int .i64 xs[i].lo)/\w.cell? ⟨b,off+i*4+3,none⟩=some (.int .i64 xs[i].hi):=by
 obtain⟨⟨m,a,e,_,_,_,k⟩,_⟩:=h;injection e with e1 e2 e3;subst e1;obtain⟨b,off,o,e,q,j,rfl⟩:=k.at_ hi;obtain⟨c,d,f,g⟩:=zD5 j;exact⟨b,off,e,lt_of_cell c,c,d,f,g⟩
theorem zPi(Z Z':zE)(v Y:Value)(xs ys:List zC)(w:World)(Q:Facts Z w v xs)(R:Facts Z' w Y ys):
  Calls prog 40 #[v,Y] w λe w'=>e= .returned (.bool (decide (xs=ys)))/\Bw w w':=by
 have HX:=hid Q;have HY:=hid R;obtain⟨A,cap,rfl,ad⟩:=Q.form;obtain⟨A',V,rfl,ae⟩:=R.form;clear Q R;go_enter func40,ntmps40
 by_cases G:xs.length=ys.length
 ·have e1:((xs.length:Int)!=(ys.length:Int))=false:=by simp[G]
  have U:=hid G;clear G;go_wp2;go_loopw[13] (λi wr=>∃k:Nat,k<=xs.length/\i= .int .i64 k/\Bw w wr/\Hid (xs.take k=ys.take k)) (λi _=>xs.length-(intOf i).toNat);case atStart=>exact⟨0,Nat.zero_le _,rfl,Below.refl _ _,by simp[Hid]⟩
  case round=>
   obtain⟨k,hk,rfl,a,o⟩:=hrel;by_cases z:k<xs.length
   ·(have s:k<ys.length:=by rw[<-U.out];exact z);obtain⟨b,q,rfl,F,I,c1,c2,c3⟩:=HX.out.at4 z;obtain⟨E,c,rfl,f,J,L,M,N⟩:=HY.out.at4 s;have u:=hid (λe=>zFJ z s o.out e);have t:=hid (show xs[k]≠ys[k]->xs≠ys from λh e=>h (by subst e;rfl));(have ab:((k:Nat):Int)<(xs.length:Int):=by omega);(have ac:((k:Nat):Int)<(ys.length:Int):=by omega);(have aa:(0:Int)<=((k:Nat):Int):=by omega);generalize xs[k]=x at*;generalize ys[k]=y at*
    have H:=hid (λ(W:World)(hW:Bw wr W)=>(show W.cell? ⟨b,q+k*4,none⟩=some (.string x.name)/\W.cell? ⟨b,q+k*4+1,none⟩=some (.int .i64 x.kind)/\W.cell? ⟨b,q+k*4+2,none⟩=some (.int .i64 x.lo)/\W.cell? ⟨b,q+k*4+3,none⟩=some (.int .i64 x.hi)/\b<W.heap.size/\
      W.cell? ⟨E,c+k*4,none⟩=some (.string y.name)/\W.cell? ⟨E,c+k*4+1,none⟩=some (.int .i64 y.kind)/\W.cell? ⟨E,c+k*4+2,none⟩=some (.int .i64 y.lo)/\W.cell? ⟨E,c+k*4+3,none⟩=some (.int .i64 y.hi)/\E<W.heap.size from by
     have n:=a.trans (hW.mono a.size);have hs:=n.size
     exact⟨brd n I F,brd n c1 F,brd n c2 F,brd n c3 F,by omega,
      brd n J f,brd n L f,brd n M f,brd n N f,by omega⟩))
    have T:=hid a;clear a F f o I c1 c2 c3 J L M N;(go_upto_region 6 with fail);refine zL 8 (λW=>Bw wr W) (by kernel_rfl) ?_;have j:Bw wr wr.drew:=(Below.refl _ _).drew;have m:(λW=>Bw wr W) wr.drew:=j;have B:=hid (T.out.trans (j.mono T.out.size));generalize wr.drew=x0 at*
    (refine tkQ 0 m ?_;simp only[nr])
    try simp only[nq]
    (refine tkQ 1 m ?_;simp only[nr])
    try simp only[nq]
    (refine tkQ 2 m ?_;simp only[nr])
    try simp only[nq]
    (refine tkS 3 ?_ m ?_ ?_;rotate_left;intro w g;obtain⟨I,c1,c2,c3,bl,J,L,M,N,P⟩:=H.out _ g;clear g;go_simp;(try with_reducible rfl);simp only[nr])
    try simp only[nq]
    (refine tkQ 4 m ?_;simp only[nr])
    try simp only[nq]
    (refine tkQ 5 m ?_;simp only[nr])
    try simp only[nq]
    (refine tkQ 6 m ?_;simp only[nr])
    try simp only[nq]
    (refine tkS 7 ?_ m ?_ ?_;rotate_left;intro w g;obtain⟨I,c1,c2,c3,bl,J,L,M,N,P⟩:=H.out _ g;clear g;go_simp;(try with_reducible rfl);simp only[nr])
    (try simp only[nq]);clear m;refine wS1 8 (λK X=> ?_);refine zOa (.tmp 19) (.tmp 23) rfl x y rfl rfl ?_;refine X _ _ (Or.inl rfl) ?_;clear X K;(try simp only[nq]);refine wSd ?_ _;by_cases d:x=y
    ·have D:=hid (u.out d);rw[decide_eq_true d];clear d u t H j;go_wp2;go_roundw;(case rel=>exact⟨k+1,by omega,by go_num,B.out,D⟩);case measure=>simp[intOf];omega
    ·have C:=hid (t.out d);rw[decide_eq_false d];clear d u t H j;go_wp2;go_ret;rw[decide_eq_false C.out];exact⟨rfl,B.out⟩
   ·(obtain rfl:k=xs.length:=by omega);have O:=hid (show xs=ys from by have h:=o.out;rw[List.take_length]at h;rw[h,U.out,List.take_length]);clear o;go_wp2;go_ret;rw[decide_eq_true O.out];exact⟨rfl,a⟩
 ·have e1:((xs.length:Int)!=(ys.length:Int))=true:=by simp;omega
  have HN:=hid (show xs≠ys from λe=>G (by rw[e]));clear G;go_wp2;go_ret;rw[decide_eq_false HN.out];exact⟨rfl,Below.refl _ _⟩
theorem zRM(Z Z':zE)(v v':Value)(xs ys:List zC)(w:World)(hx:Facts Z w v xs)(hy:Facts Z' w v' ys):
  Calls prog 20 #[.agg #[v],.agg #[v']] w λe w'=>e= .returned (.bool (decide (xs=ys)))/\Bw w w':=by
 have HX:=hid hx;have HY:=hid hy;obtain⟨A,cap,rfl,af⟩:=hx.form;obtain⟨L,a,rfl,ag⟩:=hy.form;clear hx hy;go_enter func20,ntmps20
 have C:Bw w ((w.alloc (.cells #[.slice A xs.length cap] 24)).alloc (.cells #[.slice L ys.length a] 24)):=(zF w _).alloc (by simp) _;have s:=hid ((Blk.new w 24 #[.slice A xs.length cap]).alloc (.cells #[.slice L ys.length a] 24));have V:=hid (show Blk ((w.alloc (.cells #[.slice A xs.length cap] 24)).alloc (.cells #[.slice L ys.length a] 24)) (w.heap.size+1) 24 #[.slice L ys.length a] from by have:=Blk.new (w.alloc (.cells #[.slice A xs.length cap] 24)) 24 #[.slice L ys.length a];rwa[World.size_alloc]at this);have g:=hid C;clear C;by_cases hl:xs.length=ys.length
 ·have e1:((xs.length:Int)!=(ys.length:Int))=false:=by simp[hl]
  have HL:=hid hl;clear hl;go_wp2;generalize (w.alloc (.cells #[.slice A xs.length cap] 24)).alloc (.cells #[.slice L ys.length a] 24)=w2 at*;go_loopw[5] (λi wr=>∃k:Nat,k<=xs.length/\i= .int .i64 k/\Bw w2 wr/\Hid (xs.take k=ys.take k)) (λi _=>xs.length-(intOf i).toNat);case atStart=>exact⟨0,Nat.zero_le _,rfl,Below.refl _ _,by simp[Hid]⟩
  case round=>
   obtain⟨k,hk,rfl,c,B⟩:=hrel;by_cases H:k<xs.length
   ·(have D:k<ys.length:=by rw[<-HL.out];exact H);have j:Bw w wr:=g.out.trans (c.mono g.out.size);have t:=hid (s.out.below c s.out.lt);have X:=hid (V.out.below c V.out.lt);obtain⟨b,q,rfl,hb,O,c1,c2,c3⟩:=HX.out.at4 H;obtain⟨N,f,rfl,o,P,Q,R,T⟩:=HY.out.at4 D;have F:=hid (λe=>zFJ H D B.out e);have E:=hid (show xs[k]≠ys[k]->xs≠ys from λh e=>h (by subst e;rfl));(have ad:((k:Nat):Int)<(xs.length:Int):=by omega);(have ae:((k:Nat):Int)<(ys.length:Int):=by omega);(have ac:(0:Int)<=((k:Nat):Int):=by omega);generalize xs[k]=x at*;generalize ys[k]=y at*
    have M:=hid (λ(W:World)(hW:Bw wr W)=>(show W.cell? ⟨w.heap.size,0,none⟩=some (.slice (some ⟨b,q,none⟩) xs.length cap)/\w.heap.size<W.heap.size/\W.cell? ⟨w.heap.size+1,0,none⟩=some (.slice (some ⟨N,f,none⟩) ys.length a)/\w.heap.size+1<W.heap.size/\W.cell? ⟨b,q+k*4,none⟩=some (.string x.name)/\W.cell? ⟨b,q+k*4+1,none⟩=some (.int .i64 x.kind)/\W.cell? ⟨b,q+k*4+2,none⟩=some (.int .i64 x.lo)/\W.cell? ⟨b,q+k*4+3,none⟩=some (.int .i64 x.hi)/\b<W.heap.size/\
      W.cell? ⟨N,f+k*4,none⟩=some (.string y.name)/\W.cell? ⟨N,f+k*4+1,none⟩=some (.int .i64 y.kind)/\W.cell? ⟨N,f+k*4+2,none⟩=some (.int .i64 y.lo)/\W.cell? ⟨N,f+k*4+3,none⟩=some (.int .i64 y.hi)/\N<W.heap.size from by
     have z:=j.trans (hW.mono j.size);have hs:=z.size;have k1:=t.out.below hW t.out.lt;have k2:=X.out.below hW X.out.lt
     exact⟨k1.at0,k1.lt,k2.at0,k2.lt,brd z O hb,brd z c1 hb,brd z c2 hb,brd z c3 hb,by omega,
      brd z P o,brd z Q o,brd z R o,brd z T o,by omega⟩))
    have HB:=hid c;clear c j hb o B O c1 c2 c3 P Q R T;have z0:=t.out.at0;have z0l:=t.out.lt;(go_upto_region 6 with fail);clear z0 z0l;refine zL 10 (λW=>Bw wr W) (by kernel_rfl) ?_;have u:Bw wr wr.drew:=(Below.refl _ _).drew;have n:(λW=>Bw wr W) wr.drew:=u;have U:=hid (HB.out.trans (u.mono HB.out.size));generalize wr.drew=x0 at*
    (refine tkQ 0 n ?_;simp only[nr])
    try simp only[nq]
    (refine tkC 1 [3,4,10] ?_ n ?_ ?_;rotate_left;intro w d;obtain⟨p0,I,p1,J,O,c1,c2,c3,bl,P,Q,R,T,G⟩:=M.out _ d;clear d;go_simp;(try with_reducible rfl);simp only[nr])
    try simp only[nq]
    (refine tkQ 2 n ?_;simp only[nr])
    try simp only[nq]
    (refine tkQ 3 n ?_;simp only[nr])
    try simp only[nq]
    (refine tkS 4 ?_ n ?_ ?_;rotate_left;intro w d;obtain⟨p0,I,p1,J,O,c1,c2,c3,bl,P,Q,R,T,G⟩:=M.out _ d;clear d;go_simp;(try with_reducible rfl);simp only[nr])
    try simp only[nq]
    (refine tkQ 5 n ?_;simp only[nr])
    try simp only[nq]
    (refine tkC 6 [8,9,10] ?_ n ?_ ?_;rotate_left;intro w d;obtain⟨p0,I,p1,J,O,c1,c2,c3,bl,P,Q,R,T,G⟩:=M.out _ d;clear d;go_simp;(try with_reducible rfl);simp only[nr])
    try simp only[nq]
    (refine tkQ 7 n ?_;simp only[nr])
    try simp only[nq]
    (refine tkQ 8 n ?_;simp only[nr])
    try simp only[nq]
    (refine tkS 9 ?_ n ?_ ?_;rotate_left;intro w d;obtain⟨p0,I,p1,J,O,c1,c2,c3,bl,P,Q,R,T,G⟩:=M.out _ d;clear d;go_simp;(try with_reducible rfl);simp only[nr])
    (try simp only[nq]);clear n;refine wS1 10 (λK hK=> ?_);refine zOa (.tmp 24) (.tmp 29) rfl x y rfl rfl ?_;refine hK _ _ (Or.inl rfl) ?_;clear hK K;(try simp only[nq]);refine wSd ?_ _;by_cases m:x=y
    ·have aa:=hid (F.out m);rw[decide_eq_true m];clear m F E M u;go_wp2;go_roundw;(case rel=>exact⟨k+1,by omega,by go_num,U.out,aa⟩);case measure=>simp[intOf];omega
    ·have Y:=hid (E.out m);rw[decide_eq_false m];clear m F E M u;go_wp2;go_ret;rw[decide_eq_false Y.out];exact⟨rfl,g.out.trans (U.out.mono g.out.size)⟩
   ·(obtain rfl:k=xs.length:=by omega);have p0:=(s.out.below c s.out.lt).at0;have ab:=hid (show xs=ys from by have h:=B.out;rw[List.take_length]at h;rw[h,HL.out,List.take_length]);clear B;go_wp2;go_ret;rw[decide_eq_true ab.out];exact⟨rfl,g.out.trans (c.mono g.out.size)⟩
 ·have e1:((xs.length:Int)!=(ys.length:Int))=true:=by simp;omega
  have HN:=hid (show xs≠ys from λe=>hl (by rw[e]));clear hl;go_wp2;go_ret;rw[decide_eq_false HN.out];exact⟨rfl,g.out⟩
end Go.Proofs.YthpocbeoanipbaaGreatDoor
