/- EqualFirst: for every two lists, scene, instants and case, whatever they are: the law returns true, and the arguments read behind the call as before it. Conditions: the row's own (the listed variables of Go's library read as its text lays them: the card ties them). -/
import Derived.Test.YtommaegelgilnaaGreatDoorM44
import Derived.Test.YtommaegelgilnaaGreatDoorCards
import Derived.Test.YtommaegelgilnaaGreatDoorTie
set_option linter.all false
namespace Go.Proofs.YtommaegelgilnaaGreatDoor
open Go.RowKit Go.Proofs.Tryz
set_option maxHeartbeats 8000000
set_option maxRecDepth 100000
variable {Z:zD}{c:List Int}{ds:List zE}{is:Bool}{k t t' u u':Int}{m:zF}{w:World}{x:zHQ}
theorem zXH(h:fits ds c=true):Fit ds c:=by
 unfold fits at h;simp only[Bool.and_eq_true,decide_eq_true_eq,List.all_eq_true]at h;refine⟨h.1.2,λj b=> ?_⟩;have a:j<c.length:=by omega
 have:=h.2 (ds[j],c[j]) (by
  have d:(ds.zip c)[j]'(by simp;omega)=(ds[j],c[j]):=List.getElem_zip
  rw[<-d];exact List.getElem_mem _)
 unfold inR at this;simp only[Bool.and_eq_true,decide_eq_true_eq]at this;simpa[List.getD_eq_getElem?_getD,List.getElem?_eq_getElem b,List.getElem?_eq_getElem a]using this
section holds
variable {ds:List zE} {g:List zB}
end holds
section not_
variable {ds:List zE} {g:List zB}
end not_
section
open Go.ChangeShapes Go.WideShapes Go.ChangeAt
section args
variable {H:Type} {enc:TypeId × Value->H} {W:World} {v:Value} {d:DataW H} {ps:List MemPlace} {base:Nat}
theorem zWz(g:Value.okWide prog W .any base 34 v)(f:DataW.Trod enc prog W 0 (λ_=>true) true 34 v d ps)(i:zBb prog 34 d):∃xs,zO (zCf W) W v xs:=by
 obtain⟨A,n,c,rfl⟩:=okWide_slice underlying34 g;obtain⟨a,b⟩:=f;obtain⟨j,xs,e,h⟩:=zT2 underlying34 underlying3 (by kernel_rfl) (by kernel_rfl) b i;obtain rfl:Value.slice A n c=j:=by simpa[Value.cells]using e
 exact⟨xs,h⟩
end args
end
def zXU:List Int->List Int->Bool
 |a::x,b::y=>if a=b then zXU x y else decide (a<b)
 | _,_=>false
theorem zVv:∀{a b:List Int},zXU a b=true->zPd a b
 |[],_,h=>by simp[zXU]at h
 | _::_,[],h=>by simp[zXU]at h
 |a::x,b::y,h=>by
  unfold zXU at h;by_cases e:a=b
  ·rw[if_pos e]at h;obtain⟨j,d,f,g,k⟩:=zVv h;refine⟨j+1,by simpa using d,by simpa using f,λi c=> ?_,by simpa using k⟩
   cases i with
   |zero=>simpa using e
   |succ i=>simpa using g i (by omega)
  ·rw[if_neg e]at h;exact⟨0,by simp,by simp,λi c=>absurd c (by omega),by simpa using h⟩
theorem zVu(b:List Int):zXU [] b=false:=by unfold zXU;rfl
theorem zVj(a:List Int):zXU a []=false:=by cases a<;>rfl
theorem zWb(Z Z':zD)(v F:Value)(xs ys:List Int)(w:World)(s:zO Z w v xs)(t:zO Z' w F ys):
  Calls prog 19 #[v,F] w λe w'=>e= .returned (.bool (zXU xs ys))/\Below w.heap.size w w':=by
 have G:=hid s;have H:=hid t;obtain⟨A,I,rfl,P⟩:=s.form;obtain⟨T,z,rfl,Q⟩:=t.form;clear s t;go_enter func19,ntmps19
 go_wp2;go_loopw[5] (λi wr=>∃k:Nat,k<=xs.length/\i= .int .i64 k/\Below w.heap.size w wr/\Hid (zXU xs ys=zXU (xs.drop k) (ys.drop k))) (λi _=>xs.length-(intOf i).toNat);case atStart=>exact⟨0,Nat.zero_le _,rfl,Below.refl _ _,rfl⟩
 case round=>
  obtain⟨k,W,rfl,a,c⟩:=hrel;by_cases m:k<xs.length
  ·by_cases g:k<ys.length
   ·obtain⟨b,R,rfl,-,B,o⟩:=G.at_ m;obtain⟨U,E,rfl,-,j,h⟩:=H.at_ g;replace o:=brd a o B;replace h:=brd a h j;have L:=lt_of_cell o;have C:=lt_of_cell h;(have N:((k:Nat):Int)<(xs.length:Int):=by omega);(have O:((k:Nat):Int)<(ys.length:Int):=by omega);(have M:(0:Int)<=((k:Nat):Int):=by omega);have u:=hid a;have q:=c.out;rw[List.drop_eq_getElem_cons m,List.drop_eq_getElem_cons g]at q;generalize xs[k]=x at*;generalize ys[k]=y at*;have n:=hid (show zXU xs ys=if x=y then zXU (xs.drop (k+1)) (ys.drop (k+1))else decide (x<y) from q);clear a B j c q;by_cases f:x=y
    ·(have J:(x !=y)=false:=by simp[f]);have d:=hid (n.trans (if_pos f));clear f n;go_wp2;go_quiet(fail);go_wp2;go_roundw;(case rel=>exact⟨k+1,by omega,by go_num,below_drewN' u _,d⟩);case measure=>simp[intOf];omega
    ·(have J:(x !=y)=true:=by simp[f]);have d:=hid (n.trans (if_neg f));clear f n;go_wp2;go_quiet(fail);go_wp2;go_quiet(fail);go_wp2;go_ret;rw[d.out];exact⟨rfl,below_drewN' (below_drewN' u _) _⟩
   ·have D:ys.drop k=[]:=List.drop_eq_nil_of_le (by omega);have d:=hid (show zXU xs ys=false from by rw[c.out,D,zVj]);(have V:decide (((k:Nat):Int)<(ys.length:Int))=false:=by simp;omega);(have K:decide (k<ys.length)=false:=by simp;omega);clear D c;go_wp2;go_ret;rw[d.out];exact⟨rfl,a⟩
  ·(obtain rfl:k=xs.length:=by omega);have d:=hid (show zXU xs ys=false from by rw[c.out,List.drop_length,zVu]);clear c;go_wp2;go_ret;rw[d.out];exact⟨rfl,a⟩
section
open Go.ChangeShapes Go.WideShapes Go.ChangeAt
section ops
variable {H:Type} {enc:TypeId × Value->H} {w:World} {held:Bool}
end ops
section args
variable {H:Type} {enc:TypeId × Value->H} {W:World} {v:Value} {d:DataW H} {ps:List MemPlace} {base:Nat}
theorem zW4(g:Value.okWide prog W .any base 3 v)(f:DataW.Trod enc prog W 0 (λ_=>true) true 3 v d ps)(b:zBb prog 3 d):∃n,v= .int .i64 n/\I64 n:=by
 obtain⟨n,rfl⟩:=okWide_int underlying3 g;obtain⟨a,c⟩:=f;obtain⟨i,e,-,h⟩:=DataW.trod_int underlying3 c;exact⟨i,by simpa[Value.cells]using e,zMC h⟩
end args
end
section
variable {l a b:List zF} {s:zM} {sg now:Int} {c:List Int}
theorem zUo{i:Nat}(h:i<s.auths.length):zDb (zAv s sg now c) i=c:=by
 unfold zDb zAv;simp[h]
theorem MOk.show_(h:MOk l s)(a:zUO (zAv s sg now c)):MOk l (zAv s sg now c):=⟨zD6.2 a,h.n,h.v,h.d⟩
theorem zWr{f:Fm}(a:fits ds c=true)(b:zBY ds f=0):zFl ds c f=evF ds c f:=by
 unfold zFl;rw[a,b];simp
theorem zUc(b:fits s.dom c=true)(d:zBY s.dom m.when_=0):z1 (zAv s sg now c) k m=(zFF s sg now k m&&evF s.dom c m.when_):=by
 unfold z1 zFF;by_cases h:placeOf s.auths m.auth<s.auths.length
 ·have a:=zUo (s:=s) (sg:=sg) (now:=now) (c:=c) h;rw[show(zAv s sg now c).auths =s.auths from rfl,a];show _=_;rw[show(zAv s sg now c).dom =s.dom from rfl,zWr b d];rfl
 ·rw[show(zAv s sg now c).auths =s.auths from rfl];simp[h]
theorem zWE(h:MOk l s)(d:fits s.dom c=true):zD3 l (zAv s sg now c)=l.filter (fbB l s sg now c):=by
 unfold zD3;rw[List.filter_filter];apply List.filter_congr;intro m e;have a:∀x∈l,zBY s.dom x.when_=0:=λx b=>(zLm (h.v x b)).2.2.2
 rw[zUc d (a m e)]
 have:zJZ l (zAv s sg now c) m=exB l s sg now c m:=by
  unfold zJZ exB;rw[List.any_filter];rw[Bool.eq_iff_iff,List.any_eq_true,List.any_eq_true];constructor
  ·rintro⟨x,b,h1⟩;rw[zUc d (a x b)]at h1;simp only[Bool.and_eq_true,decide_eq_true_eq]at h1;exact⟨x,b,by simp[h1.1.1,h1.1.2,h1.2]⟩
  ·rintro⟨x,b,h1⟩;simp only[Bool.and_eq_true,decide_eq_true_eq]at h1;exact⟨x,b,by rw[zUc d (a x b)];simp[h1.1,h1.2.1,h1.2.2]⟩
 rw[this];unfold fbB;cases zFF s sg now 1 m<;>cases evF s.dom c m.when_<;>cases exB l s sg now c m<;>rfl
theorem zWf(h:MOk l s)(a:fits s.dom c=true):zH7 l (zAv s sg now c)=l.filter (blB l s sg now c):=by
 unfold zH7;rw[List.filter_filter,zWE h a];apply List.filter_congr;intro m b;rw[zUc a (zLm (h.v m b)).2.2.2,List.any_filter];unfold blB
 have:(l.any λx=>fbB l s sg now c x&&decide (x.auth=m.target))=l.any λx=>decide (x.auth=m.target)&&fbB l s sg now c x:=by
  congr 1;funext x;rw[Bool.and_comm]
 rw[this];cases zFF s sg now 3 m<;>cases evF s.dom c m.when_<;>simp
theorem zU9{α:Type}{l:List α}{p:α->Bool}:l.filter p=[]↔l.any p=false:=by
 rw[List.filter_eq_nil_iff,List.any_eq_false]
theorem zVm(h:zFo l s sg now c=true):zHF l s sg now c=true:=by
 unfold zFo at h;rw[List.any_eq_true]at h;obtain⟨m,_,h⟩:=h;unfold blB at h;simp only[Bool.and_eq_true]at h;have a:=h.2.2;rw[List.any_eq_true]at a;obtain⟨x,d,b⟩:=a;rw[Bool.and_eq_true]at b;unfold zHF;rw[List.any_eq_true];exact⟨x,d,b.2⟩
theorem zWF(h:MOk l s)(d:fits s.dom c=true):(zKx l (zAv s sg now c)).kind =if zHF l s sg now c=false then 1 else if zFo l s sg now c=false then 2 else 3:=by
 unfold zKx;rw[zWE h d,zWf h d];by_cases a:zHF l s sg now c=false
 ·rw[if_pos a,if_pos (zU9.2 a)]
 ·rw[if_neg a,if_neg (λe=>a (zU9.1 e))];by_cases b:zFo l s sg now c=false
  ·rw[if_pos b,if_pos (zU9.2 b)]
  ·rw[if_neg b,if_neg (λe=>b (zU9.1 e))]
theorem zWG(g:MOk a s)(h:MOk b s)(d:fits s.dom c=true):(zKx a (zAv s sg now c)).kind ≠(zKx b (zAv s sg now c)).kind ↔zIG a b s sg now c=true:=by
 rw[zWF g d,zWF h d];have e:=zVm (l:=a) (s:=s) (sg:=sg) (now:=now) (c:=c);have f:=zVm (l:=b) (s:=s) (sg:=sg) (now:=now) (c:=c);unfold zIG;revert e f;cases zHF a s sg now c<;>cases zHF b s sg now c<;>cases zFo a s sg now c<;>cases zFo b s sg now c<;>simp
end
def zXK(p q:Int × Int):Prop:=p.1<q.1\/p.1=q.1/\p.2<q.2
theorem zVn:∀{l:List Int},l.Pairwise (· < ·)->(zx l).Pairwise zXK
 |[],_=>by simp[zx]
 |z::r,h=>by
  have c:=h;rw[List.pairwise_cons]at h;unfold zx;rw[List.pairwise_append];refine⟨?_,zVn h.2,λp b q d=> ?_⟩
  ·rw[List.pairwise_map];exact c.imp λa=> .inr ⟨rfl,a⟩
  ·rw[List.mem_map]at b;obtain⟨y,_,rfl⟩:=b;obtain⟨e,f⟩:=q;exact .inl (h.1 _ ((zLN h.2).1 d).1)
theorem zW5{l:List Int}(i:0∈l)(j:0<=t):∃u∈l,u<=t/\∀x∈l,x<=t->x<=u:=by
 have g:∀l:List Int,(∃x∈l,x<=t)->∃u∈l,u<=t/\∀x∈l,x<=t->x<=u:=by
  intro l
  induction l with
  |nil=>rintro⟨x,a,_⟩;simp at a
  |cons z r ih=>
   intro _;by_cases c:∃x∈r,x<=t
   ·obtain⟨u,k,d,h⟩:=ih c;by_cases m:z<=t/\u<z
    ·exact⟨z,by simp,m.1,λx a b=>by
      rcases List.mem_cons.1 a with rfl|a
      ·exact Int.le_refl _
      ·have:=h x a b;omega⟩
    ·exact⟨u,by simp[k],d,λx a b=>by
      rcases List.mem_cons.1 a with rfl|a
      ·omega
      ·exact h x a b⟩
   ·rename_i h9;obtain⟨x,a,b⟩:=h9;rcases List.mem_cons.1 a with rfl|a
    ·exact⟨x,by simp,b,λy e f=>by
      rcases List.mem_cons.1 e with rfl|e
      ·exact Int.le_refl _
      ·exact absurd ⟨y,e,f⟩ c⟩
    ·exact absurd ⟨x,a,b⟩ c
 exact g l ⟨0,i,j⟩
section
variable {l a b:List zF} {s:zM} {sg now:Int} {c:List Int}
theorem zUg:zCN t=true↔0<=t/\t<=144001439:=by unfold zCN;simp
theorem zWX{z:zp}(n:zCN t=true)(o:zCN u=true)(q:zCN t'=true)(s:zCN u'=true)
  (i:∀d∈zDa m,(zA4 z d).2=0->((zA4 z d).1<=t↔(zA4 z d).1<=t')/\((zA4 z d).1<=u↔(zA4 z d).1<=u')):zD2 m z t u=zD2 m z t' u':=by
 unfold zD2;rw[n,o,q,s];unfold zCx;by_cases j:zCD m=false\/zBn z=false
 ·rw[if_pos j];simp
 ·rw[if_neg j];by_cases g:(zA4 z m.from_).2≠0
  ·rw[if_pos g];simp
  ·rw[if_neg g];simp only[ne_eq,Decidable.not_not]at g;have hF:=i m.from_ (by unfold zDa;split<;>simp) g;have k:=i (m.from_+m.wind) (by unfold zDa;split<;>simp);by_cases f:m.until_<0\/(zA4 z m.until_).2≠0
   ·rw[if_pos f];simp only[ne_eq,not_true_eq_false,false_or,Bool.true_eq_false]
    have e:(u<(zA4 z m.from_).1\/(0:Int)<= -1/\ -1<=u)↔(u'<(zA4 z m.from_).1\/(0:Int)<= -1/\ -1<=u'):=by
     have:=hF.2;omega
    by_cases a:u<(zA4 z m.from_).1\/(0:Int)<= -1/\ -1<=u
    ·rw[if_pos a,if_pos (e.1 a)]
    ·rw[if_neg a,if_neg (λh=>a (e.2 h))];by_cases b:(zA4 z m.from_).1<=t
     ·rw[if_pos b,if_pos (hF.1.1 b)]
     ·rw[if_neg b,if_neg (λh=>b (hF.1.2 h))];by_cases c:(zA4 z (m.from_+m.wind)).2=0
      ·have:=(k c).2;simp only[c,decide_true,Bool.true_and,this]
      ·simp[c]
   ·rw[if_neg f];simp only[not_or,Int.not_lt,ne_eq,Decidable.not_not]at f;have v:=i m.until_ (by unfold zDa;rw[if_pos f.1];simp) f.2;simp only[ne_eq,not_true_eq_false,false_or,Bool.true_eq_false]
    have e:(u<(zA4 z m.from_).1\/0<=(zA4 z m.until_).1/\(zA4 z m.until_).1<=u)↔(u'<(zA4 z m.from_).1\/0<=(zA4 z m.until_).1/\(zA4 z m.until_).1<=u'):=by
     have:=hF.2;have:=v.2;omega
    by_cases a:u<(zA4 z m.from_).1\/0<=(zA4 z m.until_).1/\(zA4 z m.until_).1<=u
    ·rw[if_pos a,if_pos (e.1 a)]
    ·rw[if_neg a,if_neg (λh=>a (e.2 h))];by_cases b:(zA4 z m.from_).1<=t
     ·rw[if_pos b,if_pos (hF.1.1 b)]
     ·rw[if_neg b,if_neg (λh=>b (hF.1.2 h))];by_cases c:(zA4 z (m.from_+m.wind)).2=0
      ·have:=(k c).2;simp only[c,decide_true,Bool.true_and,this]
      ·simp[c]
theorem zWg(e:zCN t=true)(f:zCN u=true)(g:zCN t'=true)(h:zCN u'=true){T:List Int}
  (i:∀x∈l,placeOf s.auths x.auth<s.auths.length->∀d∈zDa x,(zA4 (zA5 s.zones (placeOf s.auths x.auth)) d).2=0->(zA4 (zA5 s.zones (placeOf s.auths x.auth)) d).1∈T)
  (j:∀y∈T,(y<=t↔y<=t')/\(y<=u↔y<=u')){x:zF}(m:x∈l):zFF s t u k x=zFF s t' u' k x:=by
 unfold zFF;by_cases b:placeOf s.auths x.auth<s.auths.length
 ·rw[zWX e f g h λd a c=>j _ (i x m b d a c)]
 ·simp[b]
theorem zWs(h:∀x∈l,∀k,zFF s t u k x=zFF s t' u' k x)(c:List Int):zHF l s t u c=zHF l s t' u' c/\zFo l s t u c=zFo l s t' u' c:=by
 have d:∀m,exB l s t u c m=exB l s t' u' c m:=λm=>by
  unfold exB;rw[Bool.eq_iff_iff,List.any_eq_true,List.any_eq_true];constructor
  ·rintro⟨x,hx,h1⟩;exact⟨x,hx,by rwa[h x hx]at h1⟩
  ·rintro⟨x,hx,h1⟩;exact⟨x,hx,by rwa[h x hx]⟩
 have a:∀m∈l,fbB l s t u c m=fbB l s t' u' c m:=λm e=>by unfold fbB;rw[h m e,d]
 have b:∀m∈l,blB l s t u c m=blB l s t' u' c m:=λm e=>by
  unfold blB;rw[h m e];congr 2;rw[Bool.eq_iff_iff,List.any_eq_true,List.any_eq_true];constructor
  ·rintro⟨x,hx,h1⟩;exact⟨x,hx,by rwa[a x hx]at h1⟩
  ·rintro⟨x,hx,h1⟩;exact⟨x,hx,by rwa[a x hx]⟩
 unfold zHF zFo;constructor
 ·rw[Bool.eq_iff_iff,List.any_eq_true,List.any_eq_true];constructor
  ·rintro⟨x,hx,h1⟩;exact⟨x,hx,by rwa[a x hx]at h1⟩
  ·rintro⟨x,hx,h1⟩;exact⟨x,hx,by rwa[a x hx]⟩
 ·rw[Bool.eq_iff_iff,List.any_eq_true,List.any_eq_true];constructor
  ·rintro⟨x,hx,h1⟩;exact⟨x,hx,by rwa[b x hx]at h1⟩
  ·rintro⟨x,hx,h1⟩;exact⟨x,hx,by rwa[b x hx]⟩
end
section
open Go.Shelf
theorem CoR.keep{w w':World}{b p q r t:Value}(h:CoR Z w b p q r t x)(a:zA Z w w'):CoR Z w' b p q r t x:=⟨h.c.keep a,h.p.keep a,h.q.keep a,h.r.keep a,h.t.keep a⟩
theorem CoR.mono{Z Z':zD}{d p q r t:Value}(h:CoR Z w d p q r t x)(a:∀b,Z b->Z' b):CoR Z' w d p q r t x:=⟨h.c.mono a,h.p.mono a,h.q.mono a,h.r.mono a,h.t.mono a⟩
end
section
open Go.Shelf
theorem Tryz.eCase:zC2 prog 34 1 24:=zDH (z:= .slice none 0 0) (by kernel_rfl) rfl (by decide)
theorem zXC{base n:Nat}{t:TypeId}{v cv:Value}(h:w.ownsRow base t 1 v n (List.replicate n cv))(f:zO Z w cv c)(k:n<=1000)(i:∀b,v.ownBlock=some b->Z b):zDK Z w v (List.replicate n c):=by
 rcases h.2 with⟨rfl,h0⟩|⟨g,cap,cur,rfl,hb,hg,hn2,hm,hsz,htk⟩
 ·subst h0;exact zj.nil
 ·have e:∀m a,a+m=n->zAW (zFC Z w) 1 Z w (List.replicate m c) (some ⟨g,a,none⟩):=by
   intro m
   induction m with
   |zero=>intro a _;trivial
   |succ m ih=>
    intro a o;rw[List.replicate_succ];refine⟨g,a,[cv],rfl,i g rfl,λj u d=> ?_,⟨cv,rfl,f⟩,ih (a+1) (by omega)⟩
    cases j with
    |zero=>
     have:=h.cells (g:=g) rfl a cv (by rw[List.getElem?_replicate,if_pos (by omega)]);simp only[List.getElem?_cons_zero,Option.some.injEq]at d;subst d;rwa[show(⟨g,0,none⟩:Addr).add a=⟨g,a+0,none⟩ from by unfold Addr.add;split<;>simp_all]at this
    |succ j=>simp at d
  exact⟨some ⟨g,0,none⟩,cap,by simp,by simpa using hn2,by simpa[maxLen]using hm,by simp;omega,e n 0 (by omega)⟩
structure zXJ (w wr:World) (vd va vz vc cv v:Value) (s:zM) (sg nw:Int) (k:Nat):Prop where
 sb:Blk wr w.heap.size 30 #[vd,va,vz,vc,.int .i64 s.signed,.int .i64 s.now]
 rb:Blk wr (w.heap.size+1) 30 #[.slice none 0 0,.slice none 0 0,.slice none 0 0,.slice none 0 0,.int .i64 0,.int .i64 0]
 ob:Blk wr (w.heap.size+1+1) 30 #[vd,va,vz,v,.int .i64 sg,.int .i64 nw]
 own:wr.ownsRow w.heap.size 34 1 v k (List.replicate k cv)
 be:Below w.heap.size w wr
theorem zXJ.push{w wr m:World}{vd q u t cv v a:Value}{s:zM}{sg nw:Int}{k:Nat}{o:Obj}(h:zXJ w wr vd q u t cv v s sg nw k)(g:(wr.alloc o).grownBy m v.ownBlock)
  (z:m.ownsRow w.heap.size 34 1 a (k+1) (List.replicate k cv++[cv]))(i:a.ownBlock=v.ownBlock\/a.ownBlock=some (wr.alloc o).heap.size):
  zXJ w (m.setCell ⟨w.heap.size+1+1,3,none⟩ a) vd q u t cv a s sg nw (k+1):=by
 have hF:=h.ob.lt;have j:(wr.alloc o).heap.size =wr.heap.size+1:=by simp
 have c:v.ownBlock≠some (w.heap.size+1+1):=zHm h.ob h.own (by decide)
 have d:a.ownBlock≠some (w.heap.size+1+1):=by
  rcases i with e|e
  ·rw[e];exact c
  ·rw[e,j];intro n;injection n with n;omega
 refine⟨((h.sb.alloc o).grown g (zHm h.sb h.own (by decide))).far (by show w.heap.size≠w.heap.size+1+1;omega) _,((h.rb.alloc o).grown g (zHm h.rb h.own (by decide))).far (by show w.heap.size+1≠w.heap.size+1+1;omega) _,((h.ob.alloc o).grown g c).set_ 3 _,?_,?_⟩
 ·have f:=zXL (Z:=λb=>b≠w.heap.size+1+1) z ((zA.refl _ _).setCell (p:=⟨w.heap.size+1+1,3,none⟩) (λ_ h=>h rfl) a) (λk y e=>d (by rw[y,e]));rw[List.replicate_succ'];exact f
 ·have f:Below w.heap.size w (wr.alloc o):=h.be.alloc h.be.size o;have x:(wr.alloc o).ownsRow w.heap.size 34 1 v k (List.replicate k cv):=h.own.alloc o;exact(zAs f x g f.size (Nat.le_refl _)).setCell (p:=⟨w.heap.size+1+1,3,none⟩) (by show w.heap.size<=w.heap.size+1+1;omega) a
theorem zVp(Z:zD)(vd Q R vc cv:Value)(s:zM)(sg nw:Int)(c:List Int)(w:World)(h:zBq Z w vd Q R vc s)(X:zO Z w cv c)(hz:∀b,Z b->b<w.heap.size)(hn:s.auths.length<=1000)(i1:I64 sg)(i2:I64 nw):
  Calls prog 15 #[.agg #[vd,Q,R,vc,.int .i64 s.signed,.int .i64 s.now],.int .i64 sg,.int .i64 nw,cv] w λe w'=>∃v,e= .returned (.agg #[vd,Q,R,v,.int .i64 sg,.int .i64 nw])/\zBq (λb=>Z b\/(w.heap.size<=b/\b<w'.heap.size)) w' vd Q R v (zAv s sg nw c)/\Below w.heap.size w w':=by
 have N:=hid (And.intro h (And.intro X (And.intro i1 i2)));have HZ:=hid hz;obtain⟨G,i,rfl⟩:∃T A,vd= .slice T s.dom.length A:=by obtain⟨⟨T,A,e,_⟩,_⟩:=h.d;exact⟨T,A,e⟩
 obtain⟨H,j,rfl,-,-,af⟩:=h.a.form;obtain⟨I,m,rfl,ai⟩:=zj.form h.z;obtain⟨O,x,rfl,ac⟩:=zj.form h.c;obtain⟨J,q,rfl,-⟩:=X.form;clear h X hz i1 i2;go_enter func15,ntmps15
 go_upto_region 2 with fail
 have HC:=hid (show zXJ w (((w.alloc (.cells #[.slice G s.dom.length i,.slice H s.auths.length j,.slice I s.zones.length m,.slice O s.cases.length x,.int .i64 s.signed,.int .i64 s.now] 30)).alloc (.cells #[.slice none 0 0,.slice none 0 0,.slice none 0 0,.slice none 0 0,.int .i64 0,.int .i64 0] 30)).alloc (.cells #[.slice G s.dom.length i,.slice H s.auths.length j,.slice I s.zones.length m,.slice none 0 0,.int .i64 sg,.int .i64 nw] 30)) (.slice G s.dom.length i) (.slice H s.auths.length j) (.slice I s.zones.length m) (.slice O s.cases.length x) (.slice J c.length q) (.slice none 0 0) s sg nw 0 from
  ⟨((Blk.new w _ _).alloc _).alloc _,(Blk.new' _ _ _ (by simp)).alloc _,Blk.new' _ _ _ (by simp),World.ownsRow_nil _ _ _ _,(((Below.refl _ _).alloc (Nat.le_refl _) _).alloc (by simp) _).alloc (by simp;omega) _⟩)
 generalize ((w.alloc _).alloc _).alloc _=w0 at*;go_wp2_with fail
 go_loopw[10] (λiv wr=>∃(k:Nat)(v:Value),k<=s.auths.length/\iv= .int .i64 k/\zXJ w wr (.slice G s.dom.length i) (.slice H s.auths.length j) (.slice I s.zones.length m) (.slice O s.cases.length x) (.slice J c.length q) v s sg nw k) (λiv _=>s.auths.length-(intOf iv).toNat);case atStart=>exact⟨0,_,Nat.zero_le _,rfl,HC⟩
 case round=>
  obtain⟨k,v,P,rfl,f⟩:=hrel;clear HC;obtain⟨RA,C,hv,-,-,-⟩:=Row.of_own f.own (by decide);subst hv;have n:=hid f;have s1:=f.sb.at1;have sl:=f.sb.lt;by_cases ae:k<s.auths.length
  ·have o3:=f.ob.at3;have ol:=f.ob.lt;have ah:=f.be.size;(have ad:((k:Nat):Int)<(s.auths.length:Int):=by omega);have K:=hid (λ(w5:World)(o:Obj)(hg:(wr.alloc o).grownBy w5 (Value.slice RA k C).ownBlock)=>(f.ob.alloc o).grown hg (zHm f.ob f.own (by decide)));clear f;go_wp2_with(at_builtin;refine zh rfl (.tmp 28) (.tmp 30) _ rfl underlying28 Tryz.eCase rfl (n.own.alloc _) rfl (news:=[.slice J c.length q]) rfl (zNR (cs:=[.slice J c.length q]) (t:=34) (g:=wr.heap.size) (Blk.new wr 34 #[.slice J c.length q])) (by simp[Value.oneCell']) (by unfold maxLen;omega) (by omega) (by simp;omega) ?_;intro v5 w5 u F B;obtain⟨g5,ab,aa⟩:=zBc u;subst aa;have D:=K _ _ F;have d4:=D.at3;have d5:=D.frozen 3;have d6:=D.lt);have HN:=hid (n.push F u B);clear u F B n K;(go_wp2_with fail);go_roundw;(case rel=>exact⟨k+1,_,by omega,by go_num,HN⟩);case measure=>simp[intOf];omega
  ·(obtain rfl:k=s.auths.length:=by omega);have U:=f.ob;have V:=f.rb;go_wp2_with(first|refine zDq rfl 30 (.tmp 9) rfl rfl U _ underlying30 rfl (by kernel_rfl) ?_ |(refine zN rfl 30 _ _ rfl rfl rfl V rfl (by kernel_rfl) (by simp[Value.oneCell']) ?_;intro w7 W L ag));refine bodyPost_ret (zHl rfl rfl (run_loadVar_row w7 _ 30 30 _ (0,0) _ W underlying30 rfl (by kernel_rfl))) rfl ?_
   have Y:zA (λb=>b<w.heap.size\/∃k,(Value.slice RA s.auths.length C).ownBlock =some k/\b=k) wr w7:=L.mono λb _ y e=>by
    rcases y with y|⟨k,P,rfl⟩
    ·omega
    ·exact zHm n.rb n.own (by decide) (by rw[P,e])
   have M:=zXL n.own Y (λk P=> .inr ⟨k,P,rfl⟩);have E:Below w.heap.size w w7:=n.be.trans (z8 (L.mono λb _(y:b<w.heap.size)=>by omega) n.be.size);refine⟨_,rfl,zQp (N.1.keep (.of_below_lt E λb _ y=>HZ b y)) (λb y=> .inl y) (zXC M ((N.2.1.keep (.of_below_lt E λb _ y=>HZ b y)).mono λb y=> .inl y) hn (λb y=> .inr (M.lt b y))) N.2.2.1 N.2.2.2,E⟩
end
section
variable {l a b:List zF} {s:zM} {sg now:Int} {c:List Int}
theorem zWZ(h:zAO a b s=(x,is,0)):MOk a s/\MOk b s:=by
 have c:=zMx (a:=a) (b:=b) (s:=s);rw[h]at c;cases is
 ·rcases(c.2 rfl).2 with h1|⟨_,h1,h2,_⟩
  ·exact absurd rfl h1
  ·exact⟨h1,h2⟩
 ·exact⟨(c.1 rfl).2.1,(c.1 rfl).2.2.1⟩
theorem zWi(h:zAO a b s=(x,is,0))(hp:zCR (zAv s sg now c)=true):
  (zP a (zAv s sg now c)).2=0/\(zP b (zAv s sg now c)).2=0/\
  ((zP a (zAv s sg now c)).1.kind ≠(zP b (zAv s sg now c)).1.kind ->is=true/\x.signed<=sg/\(x.signed=sg->x.now<=now)/\(x.signed=sg->x.now=now->zXU c x.cas=false)):=by
 obtain⟨C,D⟩:=zWZ h;have j:=zD6.1 hp;have O:=zUb (C.show_ j);have P:=zUb (D.show_ j);rw[O,P];refine⟨rfl,rfl,λhk=> ?_⟩
 have hf:fits s.dom c=true:=by
  have m:=(j.a 0 (by have:=j.n1;omega)).2;rwa[zUo (by have:=j.n1;exact this)]at m
 have f:=(zWG C D hf).1 hk;have v:=j.t;have L:(0:Int)∈zDL a b s:=(zRr C D 0).2 (.inl rfl);obtain⟨t,z,A,W⟩:=zW5 L (t:=sg) v.1;obtain⟨u,J,Y,K⟩:=zW5 L (t:=now) (Int.le_trans v.1 v.2.1);have X:t<=u:=K t z (Int.le_trans A v.2.1);have Q:=zOA C D z;have R:=zOA C D J;have E:∀y∈zDL a b s,(y<=sg↔y<=t)/\(y<=now↔y<=u):=λy hy=>⟨⟨λh=>W y hy h,λh=>Int.le_trans h A⟩,⟨λh=>K y hy h,λh=>Int.le_trans h Y⟩⟩
 have q:∀l,(∀x∈l,x∈a\/x∈b)->zHF l s sg now c=zHF l s t u c/\zFo l s sg now c=zFo l s t u c:=λl U=>
  zWs (λx B k=>zWg (l:=l) (T:=zDL a b s) (zUg.2 ⟨v.1,Int.le_trans v.2.1 v.2.2⟩) (zUg.2 ⟨Int.le_trans v.1 v.2.1,v.2.2⟩) (zUg.2 Q) (zUg.2 R)
   (λx B V d hd L=>(zRr C D _).2 (.inr ⟨x,U x B,V,d,hd,L,rfl⟩)) E B) c
 have I:zIG a b s t u c=true:=by
  have m:=q a (λx B=> .inl B);have M:=q b (λx B=> .inr B);unfold zIG at f⊢;rw[<-m.1,<-m.2,<-M.1,<-M.2];exact f
 have i:(t,u)∈zx (zDL a b s):=(zLN (zM6 a b s)).2 ⟨z,J,X⟩;have o:=zXH hf;have N:=zMx (a:=a) (b:=b) (s:=s);rw[h]at N;cases is
 ·rcases(N.2 rfl).2 with m|⟨_,_,_,m⟩
  ·exact absurd rfl m
  ·have:=m _ i c o;rw[I]at this;cases this
 ·obtain⟨_,_,_,⟨⟨ab,aa,H,w⟩,_,_,g,_,_⟩⟩:=N.1 rfl;dsimp only at H w g;have n:=zVn (zM6 a b s);rw[H]at n i
  have F:x.signed<=t/\(x.signed=t->x.now<=u):=by
   rw[List.mem_append,List.mem_cons]at i;rcases i with G|G|G
   ·have:=w _ G c o;rw[I]at this;cases this
   ·injection G with Z e2;exact⟨by omega,λ_=>by omega⟩
   ·rw[List.pairwise_append,List.pairwise_cons]at n;rcases n.2.1.1 _ G with m|⟨m,M⟩
    ·exact⟨Int.le_of_lt m,λe=>by omega⟩
    ·exact⟨by omega,λ_=>Int.le_of_lt M⟩
  refine⟨rfl,Int.le_trans F.1 A,λe=> ?_,λZ e2=> ?_⟩
  ·(have:t=sg:=by omega);have:=F.2 (by omega);omega
  ·cases U:zXU c x.cas with
   |false=>rfl
   |true=>exact absurd (zVv U) (g c o (by rw[Z,e2];exact f))
end
section
open Go.Shelf
theorem zWO(Z:zD)(la lb vd va vz vc cv:Value)(a b:List zF)(s:zM)(sg nw:Int)(c:List Int)(w:World)(ha:zn Z w la a)(f:zn Z w lb b)(h:zBq Z w vd va vz vc s)(i1:I64 sg)(i2:I64 nw)(hc:zO Z w cv c)(k:∀b,Z b->b<w.heap.size)(ht:zBr w.heap.size w):
  Calls prog 5 #[la,lb,.agg #[vd,va,vz,vc,.int .i64 s.signed,.int .i64 s.now],.int .i64 sg,.int .i64 nw,cv] w λe w'=>e= .returned (.bool true)/\Below w.heap.size w w':=by
 have a2:=hid (λW(Q:Below w.heap.size w W)=>(ht.on Q).mono Q.size);have au:=hid (λW(Q:Below w.heap.size w W)=>(h.keep (show zA Z w W from .of_below_lt Q λb _ f=>k b f)).mono (Z':=λb=>b<W.heap.size) λb f=>Nat.lt_of_lt_of_le (k b f) Q.size);have aq:=hid (λW(Q:Below w.heap.size w W)=>zn.mono (zn.keep ha (show zA Z w W from .of_below_lt Q λb _ f=>k b f)) (Z':=λb=>b<W.heap.size) λb f=>Nat.lt_of_lt_of_le (k b f) Q.size);have ar:=hid (λW(Q:Below w.heap.size w W)=>zn.mono (zn.keep f (show zA Z w W from .of_below_lt Q λb _ f=>k b f)) (Z':=λb=>b<W.heap.size) λb f=>Nat.lt_of_lt_of_le (k b f) Q.size);have ay:=hid (λW(Q:Below w.heap.size w W)=>(hc.keep (show zA Z w W from .of_below_lt Q λb _ f=>k b f)).mono (Z':=λb=>b<W.heap.size) λb f=>Nat.lt_of_lt_of_le (k b f) Q.size);have a0:=hid (And.intro i1 i2);obtain⟨KC,cb,rfl,-⟩:=hc.form;obtain⟨LA,bg,rfl,b7⟩:=zj.form ha;obtain⟨LB,bh,rfl,b8⟩:=zj.form f;obtain⟨DA,aa,rfl⟩:∃A2 V,vd= .slice A2 s.dom.length V:=by obtain⟨⟨A2,V,e,_⟩,_⟩:=h.d;exact⟨A2,V,e⟩
 obtain⟨NA,ae,rfl,-,-,b9⟩:=h.a.form;obtain⟨ZA,ag,rfl,ca⟩:=zj.form h.z;obtain⟨CA,Y,rfl,b4⟩:=zj.form h.c;have HI:=hid (And.intro h.i1 h.i2);clear ha f h k ht i1 i2 hc;have bk:=Blk.new w 30 #[.slice DA s.dom.length aa,.slice NA s.auths.length ae,.slice ZA s.zones.length ag,.slice CA s.cases.length Y,.int .i64 s.signed,.int .i64 s.now];have a5:=zG w (.cells #[.slice DA s.dom.length aa,.slice NA s.auths.length ae,.slice ZA s.zones.length ag,.slice CA s.cases.length Y,.int .i64 s.signed,.int .i64 s.now] 30);go_enter func5,ntmps5
 go_upto_region 1 with fail
 generalize w.alloc _=w0 at*;have v:=hid bk;have u:=hid a5;clear bk a5;go_wp2_with fail
 refine(zQq w0 (a2 _ u)).mono ?_;rintro e w1 ⟨rfl,f⟩;replace v:=hid (v.below f v.lt);replace u:=hid (zC u f);clear f;obtain⟨q0,B,q1,C,q2,D,R,E,q4,F,q5,G,ql⟩:=v.out.d6;go_wp2_with fail
 refine(zSC (λb=>b<w1.heap.size) _ _ _ _ _ _ a b s w1 (aq _ u) (ar _ u) (au _ u) (λb f=>f)).mono ?_;rintro e w2 ⟨t,rfl,f,ao⟩;replace v:=hid (v.below f v.lt);replace u:=hid (zC u f);have HF:=hid ao;clear f ao q0 q1 q2 R q4 q5 B C D E F G ql
 cases t with
 |false=>
  go_wp2_with fail
  go_ret;exact⟨rfl,u⟩
 |true=>
  have HP:=hid (HF (by trivial));clear HF;by_cases b3:c.length<=30
  ·skip
   obtain⟨q0,B,q1,C,q2,D,R,E,q4,F,q5,G,ql⟩:=v.out.d6;(go_wp2_with fail);refine(zFO (λb=>b<w2.heap.size) _ _ _ _ _ _ a b s w2 (aq _ u) (ar _ u) (au _ u) (λb f=>f) (λm hm=>by have:=HP.fa m hm;omega) (λm hm=>by have:=HP.fb m hm;omega) (a2 _ u)).mono ?_;rintro e u3 ⟨c3,p3,R,r3,t3,rfl,aw,ac,ad,f⟩;have q:=hid (show CoR (λb=>b<u3.heap.size) u3 c3 p3 R r3 t3 (zAO a b s).1 from⟨aw.live.mono λb f=>f.2,ac.at_.1.live.mono λb f=>f.2,ac.at_.2.live.mono λb f=>f.2,ad.at_.1.live.mono λb f=>f.2,ad.at_.2.live.mono λb f=>f.2⟩);obtain⟨bw,bx,rfl,-⟩:=aw.form;obtain⟨cr,cs,rfl,-⟩:=ac.at_.1.form;obtain⟨ct,cu,rfl,-⟩:=ac.at_.2.form;obtain⟨cw,cx,rfl,-⟩:=ad.at_.1.form;obtain⟨cy,cz,rfl,-⟩:=ad.at_.2.form;replace v:=hid (v.below f v.lt);replace u:=hid (zC u f);have a3:=u;clear aw ac ad f q0 q1 q2 R q4 q5 B C D E F G ql;obtain⟨X,hX⟩:∃c,zAO a b s=c:=⟨_,rfl⟩;rw[hX]at q;rw[hX];have az:=hid hX;clear hX;simp only[zKX];(go_upto_region 5 with(refine zN rfl 38 _ _ rfl rfl rfl (Blk.new _ _ _) rfl (by kernel_rfl) (by simp[Value.oneCell']) ?_;intro w3 av a8 bf));have g:Below u3.heap.size u3 w3:=(zG u3 _).trans (z8 (a8.mono λb _(f:b<u3.heap.size)=>by omega) (by simp));replace v:=hid (v.below g v.lt);replace u:=hid (zC u g);replace q:=hid ((q.keep (.of_below g)).mono (Z':=λb=>b<w3.heap.size/\b≠u3.heap.size) λb k=>⟨Nat.lt_of_lt_of_le k g.size,Nat.ne_of_lt k⟩);have o:=hid av;have b6:=av.lt;have a9:=hid (show w.heap.size<=u3.heap.size from by have:=a3.size;exact this);clear av a8 bf g a3;generalize u3.heap.size=B3 at*;replace q:=hid (q.mono (Z':=λb=>b<w3.heap.size) λb f=>f.1);clear a9;obtain⟨K,i3,e3⟩:=X;dsimp only at*;obtain⟨q0,B,q1,C,q2,D,R,E,q4,F,q5,G,ql⟩:=v.out.d6;(go_wp2_with fail);refine(zVp (λb=>b<w3.heap.size) _ _ _ _ _ s sg nw c w3 (au _ u) (ay _ u) (λb f=>f) (by have:=HP.n;omega) a0.1 a0.2).mono ?_;rintro e u11 ⟨vs,rfl,N,f⟩;have j:=hid (N.mono (Z':=λb=>b<u11.heap.size) λb k=>k.elim (λh=>Nat.lt_of_lt_of_le h f.size) λh=>h.2);obtain⟨KA,bs,rfl,b5⟩:=zj.form N.c;clear N q0 q1 q2 R q4 q5 B C D E F G ql;replace v:=hid (v.below f v.lt);replace u:=hid (zC u f);replace o:=hid (o.below f o.lt);replace q:=hid ((q.keep (.of_below f)).mono (Z':=λb=>b<u11.heap.size) λb k=>Nat.lt_of_lt_of_le k f.size);clear f;(go_upto_region 6 with(refine zN rfl 30 _ _ rfl rfl rfl (Blk.new _ _ _) rfl (by kernel_rfl) (by simp[Value.oneCell']) ?_;intro af I J ab));have g:Below u11.heap.size u11 af:=(zG u11 _).trans (z8 (J.mono λb _(f:b<u11.heap.size)=>by omega) (by simp));have i:=hid I;clear I J ab;replace v:=hid (v.below g v.lt);replace u:=hid (zC u g);replace o:=hid (o.below g o.lt);replace q:=hid ((q.keep (.of_below g)).mono (Z':=λb=>b<af.heap.size) λb k=>Nat.lt_of_lt_of_le k g.size);replace j:=hid ((j.keep (.of_below g)).mono (Z':=λb=>b<af.heap.size) λb k=>Nat.lt_of_lt_of_le k g.size);clear g;generalize u11.heap.size=bt at*;by_cases h3:e3=0
   ·subst h3;obtain⟨q0,B,q1,C,q2,D,R,E,q4,F,q5,G,ql⟩:=i.out.d6;(go_wp2_with fail);refine(zJr (λb=>b<af.heap.size) _ _ _ _ (zAv s sg nw c) af j (λb f=>f)).mono ?_;rintro e ai ⟨rfl,f⟩;clear q0 q1 q2 R q4 q5 B C D E F G ql;replace v:=hid (v.below f v.lt);replace u:=hid (zC u f);replace o:=hid (o.below f o.lt);replace i:=hid (i.below f i.lt);replace q:=hid ((q.keep (.of_below f)).mono (Z':=λb=>b<ai.heap.size) λb k=>Nat.lt_of_lt_of_le k f.size);replace j:=hid ((j.keep (.of_below f)).mono (Z':=λb=>b<ai.heap.size) λb k=>Nat.lt_of_lt_of_le k f.size);clear f;obtain⟨pr,ax⟩:∃t,zCR (zAv s sg nw c)=t:=⟨_,rfl⟩;rw[ax]
    cases pr with
    |false=>
     clear o i q j;(go_wp2_with fail);go_ret;exact⟨rfl,u⟩
    |true=>
     have HL:=hid (zWi az ax);clear ax az;obtain⟨q0,B,q1,C,q2,D,R,E,q4,F,q5,G,ql⟩:=i.out.d6;(go_wp2_with fail);refine(zIL (λb=>b<ai.heap.size) _ _ _ _ _ a (zAv s sg nw c) ai (aq _ u) j (λb f=>f) (λm hm=>by have:=HP.fa m hm;omega)).mono ?_;rintro e u18 ⟨vv,rfl,hv,f⟩;obtain⟨T,aj⟩:∃d,zP a (zAv s sg nw c)=d:=⟨_,rfl⟩;rw[aj]at hv HL⊢;clear aj;obtain⟨bz,b1,rfl,L,M⟩:=hv;have x:=hid (And.intro (L.live.mono (Z':=λb=>b<u18.heap.size) λb f=>f.2) (M.live.mono (Z':=λb=>b<u18.heap.size) λb f=>f.2));obtain⟨bi,bm,rfl,-⟩:=L.form;obtain⟨bo,bq,rfl,-⟩:=M.form;clear L M q0 q1 q2 R q4 q5 B C D E F G ql;replace v:=hid (v.below f v.lt);replace u:=hid (zC u f);replace o:=hid (o.below f o.lt);replace i:=hid (i.below f i.lt);replace q:=hid ((q.keep (.of_below f)).mono (Z':=λb=>b<u18.heap.size) λb k=>Nat.lt_of_lt_of_le k f.size);replace j:=hid ((j.keep (.of_below f)).mono (Z':=λb=>b<u18.heap.size) λb k=>Nat.lt_of_lt_of_le k f.size);clear f;(go_upto_region 9 with(refine zN rfl 36 _ _ rfl rfl rfl (Blk.new _ _ _) rfl (by kernel_rfl) (by simp[Value.oneCell']) ?_;intro O I J ab));have g:Below u18.heap.size u18 O:=(zG u18 _).trans (z8 (J.mono λb _(f:b<u18.heap.size)=>by omega) (by simp));have A:=hid I;clear I J ab;replace v:=hid (v.below g v.lt);replace u:=hid (zC u g);replace o:=hid (o.below g o.lt);replace i:=hid (i.below g i.lt);replace q:=hid ((q.keep (.of_below g)).mono (Z':=λb=>b<O.heap.size) λb k=>Nat.lt_of_lt_of_le k g.size);replace j:=hid ((j.keep (.of_below g)).mono (Z':=λb=>b<O.heap.size) λb k=>Nat.lt_of_lt_of_le k g.size);replace x:=hid (And.intro ((x.1.keep (.of_below g)).mono (Z':=λb=>b<O.heap.size) λb k=>Nat.lt_of_lt_of_le k g.size) ((x.2.keep (.of_below g)).mono (Z':=λb=>b<O.heap.size) λb k=>Nat.lt_of_lt_of_le k g.size));clear g;generalize u18.heap.size=bu at*;obtain⟨q0,B,q1,C,q2,D,R,E,q4,F,q5,G,ql⟩:=i.out.d6;(go_wp2_with fail);refine(zIL (λb=>b<O.heap.size) _ _ _ _ _ b (zAv s sg nw c) O (ar _ u) j (λb f=>f) (λm hm=>by have:=HP.fb m hm;omega)).mono ?_;rintro e u20 ⟨vv,rfl,hv,f⟩;obtain⟨U,ak⟩:∃d,zP b (zAv s sg nw c)=d:=⟨_,rfl⟩;rw[ak]at hv HL⊢;clear ak;obtain⟨b0,b2,rfl,L,M⟩:=hv;have P:=hid (And.intro (L.live.mono (Z':=λb=>b<u20.heap.size) λb f=>f.2) (M.live.mono (Z':=λb=>b<u20.heap.size) λb f=>f.2));obtain⟨bj,bn,rfl,-⟩:=L.form;obtain⟨bp,br,rfl,-⟩:=M.form;clear L M q0 q1 q2 R q4 q5 B C D E F G ql;replace v:=hid (v.below f v.lt);replace u:=hid (zC u f);replace o:=hid (o.below f o.lt);replace i:=hid (i.below f i.lt);replace A:=hid (A.below f A.lt);replace q:=hid ((q.keep (.of_below f)).mono (Z':=λb=>b<u20.heap.size) λb k=>Nat.lt_of_lt_of_le k f.size);replace j:=hid ((j.keep (.of_below f)).mono (Z':=λb=>b<u20.heap.size) λb k=>Nat.lt_of_lt_of_le k f.size);replace x:=hid (And.intro ((x.1.keep (.of_below f)).mono (Z':=λb=>b<u20.heap.size) λb k=>Nat.lt_of_lt_of_le k f.size) ((x.2.keep (.of_below f)).mono (Z':=λb=>b<u20.heap.size) λb k=>Nat.lt_of_lt_of_le k f.size));clear f;(go_upto_region 10 with(refine zN rfl 36 _ _ rfl rfl rfl (Blk.new _ _ _) rfl (by kernel_rfl) (by simp[Value.oneCell']) ?_;intro H I J ab));have g:Below u20.heap.size u20 H:=(zG u20 _).trans (z8 (J.mono λb _(f:b<u20.heap.size)=>by omega) (by simp));have a4:=hid I;clear I J ab;replace v:=hid (v.below g v.lt);replace u:=hid (zC u g);replace o:=hid (o.below g o.lt);replace i:=hid (i.below g i.lt);replace A:=hid (A.below g A.lt);replace q:=hid ((q.keep (.of_below g)).mono (Z':=λb=>b<H.heap.size) λb k=>Nat.lt_of_lt_of_le k g.size);replace j:=hid ((j.keep (.of_below g)).mono (Z':=λb=>b<H.heap.size) λb k=>Nat.lt_of_lt_of_le k g.size);replace x:=hid (And.intro ((x.1.keep (.of_below g)).mono (Z':=λb=>b<H.heap.size) λb k=>Nat.lt_of_lt_of_le k g.size) ((x.2.keep (.of_below g)).mono (Z':=λb=>b<H.heap.size) λb k=>Nat.lt_of_lt_of_le k g.size));replace P:=hid (And.intro ((P.1.keep (.of_below g)).mono (Z':=λb=>b<H.heap.size) λb k=>Nat.lt_of_lt_of_le k g.size) ((P.2.keep (.of_below g)).mono (Z':=λb=>b<H.heap.size) λb k=>Nat.lt_of_lt_of_le k g.size));clear g;generalize u20.heap.size=bv at*;obtain⟨T,f1⟩:=T;obtain⟨U,f2⟩:=U;dsimp only at*;obtain⟨rfl,rfl,ap⟩:=HL.out;have a1:=hid ap;clear HL ap i j x P;obtain⟨m0,cc,m1,cd,m2,ce,ml⟩:=A.out.d3;obtain⟨n0,cf,n1,cg,n2,ch,nl⟩:=a4.out.d3;by_cases hk:T.kind=U.kind
     ·(have bd:(T.kind==U.kind)=true:=by simpa using hk);clear o q;(go_wp2_with fail);go_ret;exact⟨rfl,u⟩
     ·(have bd:(T.kind==U.kind)=false:=by simpa using hk);obtain⟨rfl,h1,h2,h4⟩:=a1 hk;have ah:=hid h4;clear a1 hk h4;obtain⟨o0,ci,o1,cj,o2,ck,o3,cl,o4,cm,o5,cn,o6,co,o7,cp,o8,cq,ol⟩:=o.out.d9;by_cases N:K.signed=sg
      ·have h5:=h2 N;by_cases hn:K.now=nw
       ·have h6:=ah N hn;(have a7:¬(sg<K.signed):=by omega);(have bc:¬(nw<K.now):=by omega);(have a6:(K.signed==sg)=true:=by simpa using N);(have al:(K.signed !=sg)=false:=by simpa using N);(have bb:(K.now !=nw)=false:=by simpa using hn);clear h1 h2 h5 N hn ah;(go_wp2_with fail);refine(zWb (λb=>b<H.heap.size) (λb=>b<H.heap.size) _ _ c K.cas H (ay _ u) q.c).mono ?_;rintro e c0 ⟨rfl,f⟩;rw[h6];have ba:=hid (zC u f);clear f;(go_wp2_with fail);go_ret;exact⟨rfl,ba⟩
       ·(have a7:¬(sg<K.signed):=by omega);(have bc:¬(nw<K.now):=by omega);(have a6:(K.signed==sg)=true:=by simpa using N);(have al:(K.signed !=sg)=false:=by simpa using N);(have bb:(K.now !=nw)=true:=by simpa using hn);clear h1 h2 h5 N hn ah;(go_wp2_with fail);go_ret;exact⟨rfl,u⟩
      ·(have a7:¬(sg<K.signed):=by omega);(have a6:(K.signed==sg)=false:=by simpa using N);(have al:(K.signed !=sg)=true:=by simpa using N);clear h1 h2 N ah;(go_wp2_with fail);go_ret;exact⟨rfl,u⟩
   ·(have h5:(e3 !=0)=true:=by simpa using h3);clear o i q j;(go_wp2_with fail);go_ret;exact⟨rfl,u⟩
  ·clear v;(go_wp2_with fail);go_ret;exact⟨rfl,u⟩
end
section
open Go.ChangeShapes Go.WideShapes Go.ChangeAt
theorem zVH(os:Os)(d:os.Started)(H:Type)(enc:TypeId × Value->H):
  ReturnsInHanded {} Tryz.checked os 5 .any (λw args=>(Rows.equalFirstSpec.pre enc prog Tryz.f5 [] false w args/\laidMetH prog zJW w)/\sizedMet enc prog Tryz.f5 (OpenSpec.ofChange Rows.equalFirstSpec) false w args)
   (Rows.equalFirstSpec.post enc prog Tryz.f5 false true false false):=by
 refine returnsInHanded_of_change_and (C:=Tryz.checked) (X:=λw _=>laidMetH prog zJW w) (λ_ _ _ V h=>h.of_heap V) own d (by kernel_rfl) func5
  (ChangeSpec.witness_shaped (enc:=enc) (C:=Tryz.checked) (os:=os) (X:=λw _=>laidMetH prog zJW w) false (World.doorLaid prog 62 os) #[.slice none 0 0,.slice none 0 0,.agg #[.slice none 0 0,.slice none 0 0,.slice none 0 0,.slice none 0 0,.int .i64 0,.int .i64 0],.int .i64 0,.int .i64 0,.slice none 0 0] 8 rfl (World.shaped_of_RefB (by kernel_rfl) (by kernel_rfl)) (by kernel_rfl) (by kernel_rfl) (by kernel_rfl) (zSa os _)) ?_
 intro W base args ds L m c u _ f T _;have a:∀(j:Nat) t v,Tryz.f5.params[j]? =some t->args[j]? =some v->Value.okWide prog W .any base t v:=c;have k:=u;obtain⟨p,q,i,U,rfl,-,-⟩:=u;have n:DataW.TrodAll enc prog W 0 (λ_=>true) true Tryz.f5.params.toList args.toList ds p:=i;have b:(DataW.weightsEach prog (Tryz.f5.params.toList++Rows.equalFirstSpec.plain.varTypes prog) (ds++L)).all (· <=reachBytes)=true:=f;clear i f c;obtain⟨rfl,rfl⟩:=trodVars_none U;simp only[List.append_nil]at k;have o:=n;rw[params5]at n a b;obtain⟨v0,aa,d0,E,p0,q0,g,rfl,rfl,M,r0⟩:=trodAll_cons n;obtain⟨v1,ab,d1,F,p1,q1,rfl,rfl,rfl,N,r1⟩:=trodAll_cons r0;obtain⟨v2,ac,d2,G,p2,q2,rfl,rfl,rfl,O,r2⟩:=trodAll_cons r1;obtain⟨v3,ad,d3,I,p3,q3,rfl,rfl,rfl,P,r3⟩:=trodAll_cons r2;obtain⟨v4,ae,d4,J,p4,q4,rfl,rfl,rfl,Q,r4⟩:=trodAll_cons r3;obtain⟨v5,af,d5,K,p5,q5,rfl,rfl,rfl,R,r5⟩:=trodAll_cons r4;obtain⟨rfl,rfl,rfl⟩:=trodAll_nil r5;obtain rfl:args=#[v0,v1,v2,v3,v4,v5]:=by simpa using congrArg List.toArray g
 obtain⟨Y,x⟩:=zSx (a 0 22 _ rfl rfl) M (zRZ b (j:=0) rfl rfl);obtain⟨Z,y⟩:=zSx (a 1 22 _ rfl rfl) N (zRZ b (j:=1) rfl rfl);obtain⟨vd,va,vz,vc,sc,rfl,z⟩:=zRm (a 2 30 _ rfl rfl) O (zRZ b (j:=2) rfl rfl);obtain⟨n3,rfl,A⟩:=zW4 (a 3 3 _ rfl rfl) P (zRZ b (j:=3) rfl rfl);obtain⟨n4,rfl,B⟩:=zW4 (a 4 3 _ rfl rfl) Q (zRZ b (j:=4) rfl rfl);obtain⟨s,D⟩:=zWz (a 5 34 _ rfl rfl) R (zRZ b (j:=5) rfl rfl);refine(zWO (zCf W) _ _ _ _ _ _ _ Y Z sc n3 n4 s W x y z A B D (λ_ h=>h) (zOb T)).mono λe W' ⟨he,hb⟩=> ?_
 subst he;exact⟨_,rfl,zSb k o rfl rfl (by kernel_rfl) (by kernel_rfl) hb⟩
theorem zV0:(Rows.equalFirstRow.inPlace==prog.inPlace 5)=true:=by kernel_rfl
theorem zVI:(Rows.equalFirstRow.unfollowed==prog.unfollowed 5)=true:=by kernel_rfl
theorem zVJ:(Rows.equalFirstRow.recurses==prog.recurses 5)=true:=by kernel_rfl
theorem zV1:(Rows.equalFirstRow.named==prog.varsNamed 5)=true:=by kernel_rfl
theorem zV2:joinedFacts prog 5 Tryz.f5 Rows.equalFirstSpec Rows.equalFirstRow=true:=
 zN6 (by kernel_rfl) laidOut zTi (by kernel_rfl) (by kernel_rfl) rfl zTj rfl zTk zV0 zVI zVJ zV1 (by kernel_rfl) (by kernel_rfl) (by kernel_rfl) (by kernel_rfl) (by kernel_rfl) rfl (by kernel_rfl) (by kernel_rfl) (by kernel_rfl)
  zUH rfl zTl zTm zTn zUI rfl (by kernel_rfl) (by kernel_rfl) (by kernel_rfl)
theorem zV3:Rows.EqualFirstSaid:=
 OpenClaim.holds_of_wide 5 Tryz.f5 rfl rfl rfl rfl rfl rfl rfl ⟨rfl,rfl,rfl,rfl,rfl⟩ rfl rfl rfl rfl rfl (by kernel_rfl) func5 zV2
  (of_decide_eq_true (by kernel_rfl)) (by unfold Func.isWrapper;rw[if_neg (of_decide_eq_false (by kernel_rfl))];exact⟨rfl,rfl⟩)
  (λb a H enc _=>zVH b a H enc)
theorem zWI:Rows.equalFirstRow.wfByText (OpenSpec.ofChange Rows.equalFirstSpec)=true:=by kernel_rfl
theorem zWJ:prog.funcNamed "customhouse/customhouselaw33.EqualFirst" =some 5:=by kernel_rfl
theorem zV4:([22,22,30,3,3,34].all λu=> !prog.wantsStandIn u)=true:=by kernel_rfl
theorem zVf:false=Rows.equalFirstRow.goesBy Tryz.pinned.checked.prog:=by kernel_rfl
theorem equalfirst_card:Rows.EqualFirstCardSaid:=
 Claim7.holds_tied_plain_at .later [] [.data,.data,.data,.sentinel,.sentinel] true (true,"b7c691893ac5ffd63a8a77a1c3b8b90599a3d2dc70d51f5bf9900650e53e98a9") true
  zV3 (λ_ h=>by cases h) zWI (λ_ h=>by cases h) equalFirst_row_tie rfl ⟨rfl,rfl⟩ zUJ rfl
  (λf fn hf hfn=>by
   obtain rfl:f=5:=Option.some.inj (zWJ.symm.trans hf) |>.symm;obtain rfl:fn=Tryz.f5:=(Option.some.inj (func5.symm.trans hfn)).symm
   exact⟨zTo,λj t ht=>by
    rw[params5]at ht;have hm:t∈[22,22,30,3,3,34]:=by simpa using Array.mem_of_getElem? ht
    exact(show prog.wantsStandIn t=false by simpa using List.all_eq_true.1 zV4 t hm)⟩)
  zVf
end
end Go.Proofs.YtommaegelgilnaaGreatDoor
