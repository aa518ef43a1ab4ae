/- Lemmas. -/
import Derived.Test.YtommaegelgilnaaGreatDoorM24
import Derived.Test.YtommaegelgilnaaGreatDoorM23
set_option linter.all false
namespace Go.Proofs.YtommaegelgilnaaGreatDoor
open Go.RowKit Go.Proofs.Tryz
set_option maxHeartbeats 8000000
set_option maxRecDepth 100000
variable {ds:List zE}{f:zE}
theorem zSn(w:World)(n:Nat):Bw w (w.drewN n):=⟨rfl,rfl,rfl,Nat.le_refl _,λ_ _=>rfl⟩
theorem zO.form{Z:zD}{w:World}{v:Value}{xs:List Int}(h:zO Z w v xs):∃A cap,v= .slice A xs.length cap/\xs.length<=17592186044416:=by
 obtain⟨⟨A,cap,rfl,_,_,a,_⟩,_⟩:=h;exact⟨A,cap,rfl,by omega⟩
theorem zKy(Z Z':zD)(v y:Value)(xs ys:List Int)(w:World)(u:zO Z w v xs)(x:zO Z' w y ys):
  Calls prog 182 #[v,y] w λe w'=>e= .returned (.bool (decide (xs=ys)))/\Bw w w':=by
 have k:=u;have m:=x;obtain⟨⟨A,d,rfl,H,I,J,-⟩,-⟩:=k;obtain⟨⟨t,a,rfl,C,D,E,-⟩,-⟩:=m;by_cases g:xs.length=ys.length
 ·by_cases f:xs=[]
  ·subst f;have n:ys=[]:=List.eq_nil_of_length_eq_zero g.symm;subst n;refine(Tryz.slices_Equal_int_empty A t d 0 a w (by omega)).mono ?_;rintro e w' ⟨rfl,rfl⟩;exact⟨by simp,Below.refl _ _⟩
  have o:ys≠[]:=by intro e;subst e;simp at g;exact f g
  obtain⟨b,s,c,B,-,-,-,F⟩:=u.open_ f;obtain⟨z,h,G,i,-,-,-,j⟩:=x.open_ o;injection B with q1 q2 q3;injection i with q1' q2' q3';subst q1 q1';refine(Tryz.slices_Equal_int b s xs.length d z h ys.length a xs ys w (Nat.le_refl _) (Nat.le_refl _) (by omega) (by omega) F j).mono ?_;rintro e w' ⟨rfl,q,rfl⟩;refine⟨?_,zSn w q⟩;rw[List.take_length,List.take_length];congr 2;by_cases e:xs=ys<;>simp[e]
 refine(Tryz.slices_Equal_int_lens A t xs.length d ys.length a w g).mono ?_;rintro e w' ⟨rfl,rfl⟩;refine⟨?_,Below.refl _ _⟩;rw[decide_eq_false (λe=>g (by rw[e]))]
theorem zRf(Z Z':zD)(a b:zB)(F G:List Value)(w:World)(N:zAY Z w F a)(O:zAY Z' w G b):
  Calls prog 181 #[.agg F.toArray,.agg G.toArray] w λe w'=>e= .returned (.bool (decide (a=b)))/\Bw w w':=by
 obtain⟨z,A,rfl,-,t,u⟩:=N;obtain⟨B,C,rfl,-,v,x⟩:=O;have H:=hid (λW(s:Bw w W)=>zKy Z Z' z B a.cuts b.cuts W (t.keep (.of_below s)) (v.keep (.of_below s)));have I:=hid (λW(s:Bw w W)=>zKy Z Z' A C a.kids b.kids W (u.keep (.of_below s)) (x.keep (.of_below s)));have h:=(zG w (.cells #[.bool a.leaf,.int .i64 a.fact,z,A] 123)).alloc (by simp) (.cells #[.bool b.leaf,.int .i64 b.fact,B,C] 123);have c:=hid h;have i:=hid ((Blk.new w 123 #[.bool a.leaf,.int .i64 a.fact,z,A]).alloc (.cells #[.bool b.leaf,.int .i64 b.fact,B,C] 123));have j:=hid (Blk.new' (w.alloc (.cells #[.bool a.leaf,.int .i64 a.fact,z,A] 123)) 123 #[.bool b.leaf,.int .i64 b.fact,B,C] (n:=w.heap.size+1) (by simp))
 have d:=hid (show decide (a=b)=(decide (a.fact=b.fact)&&decide (a.leaf=b.leaf)&&decide (a.cuts=b.cuts)&&decide (a.kids=b.kids)) from by
  rw[Bool.eq_iff_iff];simp only[decide_eq_true_eq,Bool.and_eq_true];constructor
  ·rintro rfl;simp
  rintro⟨⟨⟨h1,h2⟩,h3⟩,h4⟩
  exact zB.ext' h2 h1 h3 h4)
 clear t u v x h;go_enter func181,ntmps181
 by_cases o:a.fact=b.fact
 ·have L:(a.fact==b.fact)=true:=by simp[o]
  rw[decide_eq_true o]at d;clear o;by_cases q:a.leaf=b.leaf
  ·(have M:(a.leaf==b.leaf)=true:=by simp[q]);rw[decide_eq_true q]at d;clear q;(go_wp2_with fail);refine(H.out _ c.out).mono ?_;rintro e R ⟨rfl,g⟩;have k:=i.out.below g i.out.lt;have m:=j.out.below g j.out.lt;have P:=k.at3;have Q:=m.at3;have J:=k.lt;have K:=m.lt;have y:=c.out.trans (g.mono c.out.size);have f:=hid y;clear k m g y i j c;by_cases D:a.cuts=b.cuts
   ·rw[decide_eq_true D]at d⊢;clear D;(go_wp2_with fail);refine(I.out _ f.out).mono ?_;rintro e T ⟨rfl,h⟩;have E:=f.out.trans (h.mono f.out.size);go_wp2;go_ret;rw[d.out];exact⟨by simp,E⟩
   rw[decide_eq_false D]at d⊢;clear D;go_wp2;go_ret;rw[d.out];exact⟨by simp,f.out⟩
  have M:(a.leaf==b.leaf)=false:=by simp[q]
  rw[decide_eq_false q]at d;clear q;go_wp2;go_ret;rw[d.out];exact⟨by simp,c.out⟩
 have L:(a.fact==b.fact)=false:=by simp[o]
 rw[decide_eq_false o]at d;clear o;go_wp2;go_ret;rw[d.out];exact⟨by simp,c.out⟩
theorem Tryz.egSame1:∀args w,(callFunc 181 args).run prog w= .ok (.enter 181 args) w:=enters_of func181 (by kernel_rfl) rfl
theorem zIy{α:Type}{l m:List α}{k:Nat}(a:k<l.length)(b:k<m.length)(h:l.take k=m.take k)(e:l[k]=m[k]):l.take (k+1)=m.take (k+1):=by
 rw[List.take_succ_eq_append_getElem a,List.take_succ_eq_append_getElem b,h,e]
theorem zMv(Z Z':zD)(v v':Value)(a b:List zB)(w:World)(ha:zK Z w v a)(hb:zK Z' w v' b):
  Calls prog 180 #[v,v',.func (.func 181) #[] #[]] w λe w'=>e= .returned (.bool (decide (a=b)))/\Bw w w':=by
 have eg:=Tryz.egSame1;obtain⟨A,aq,rfl,al,ao,Y⟩:=ha.open_;obtain⟨A',aj,rfl,ah,ai,D⟩:=hb.open_;have HA:=hid Y;have ae:=hid D;clear Y D ha hb;go_enter func180,ntmps180
 by_cases hl:a.length=b.length
 ·have e1:((a.length:Int)!=(b.length:Int))=false:=by simp[hl]
  have HL:=hid hl;clear hl;go_wp2;go_loopw[17] (λi wr=>∃k:Nat,k<=a.length/\i= .int .i64 k/\Bw w wr/\Hid (a.take k=b.take k)) (λi _=>a.length-(intOf i).toNat);case atStart=>exact⟨0,Nat.zero_le _,rfl,Below.refl _ _,by simp[Hid]⟩
  case round=>
   obtain⟨k,hk,rfl,c,Q⟩:=hrel;by_cases P:k<a.length
   ·(have E:k<b.length:=by rw[<-HL.out];exact P);obtain⟨bb,ay,vc,vk,rfl,hz,z,c0,c1,c2,c3,hf,hc,O⟩:=HA.out k P;obtain⟨ag,ap,az,a0,rfl,ax,g,t,I,J,K,ab,N,q⟩:=ae.out k E;obtain⟨VC,C,rfl,-⟩:=hc.form;obtain⟨VK,F,rfl,-⟩:=O.form;obtain⟨V,n,rfl,-⟩:=N.form;obtain⟨X,s,rfl,-⟩:=q.form;have B:∀{p:Nat}{o:Nat}{u:Value},p<w.heap.size->w.cell? ⟨p,o,none⟩=some u->wr.cell? ⟨p,o,none⟩=some u:=λ{p o u} hp h=>brd c h hp;replace c0:=B z c0;replace c1:=B z c1;replace c2:=B z c2;replace c3:=B z c3;replace t:=B g t;replace I:=B g I;replace J:=B g J;replace K:=B g K;have ar:=lt_of_cell c0;have aa:=lt_of_cell t;(have ak:ag<wr.heap.size+1:=by simp at aa;omega);have R:=hid (λW(hW:Bw w W)=>zRf Z Z' a[k] b[k] [.bool a[k].leaf,.int .i64 a[k].fact,.slice VC a[k].cuts.length C,.slice VK a[k].kids.length F] [.bool b[k].leaf,.int .i64 b[k].fact,.slice V b[k].cuts.length n,.slice X b[k].kids.length s] W (zAY.keep ⟨_,_,rfl,hf,hc,O⟩ (.of_below hW)) (zAY.keep ⟨_,_,rfl,ab,N,q⟩ (.of_below hW)));have m:=hid (λe=>zIy P E Q.out e);have G:=hid (show a[k]≠b[k]->a≠b from λh e=>h (by subst e;rfl));(have av:((k:Nat):Int)<(a.length:Int):=by omega);(have aw:((k:Nat):Int)<(b.length:Int):=by omega);(have au:(0:Int)<=((k:Nat):Int):=by omega);have d:=hid ((c.alloc c.size (.cells #[.bool a[k].leaf,.int .i64 a[k].fact,.slice VC a[k].cuts.length C,.slice VK a[k].kids.length F] 123)).alloc (by have:=c.size;simp;omega) (.cells #[.bool b[k].leaf,.int .i64 b[k].fact,.slice V b[k].cuts.length n,.slice X b[k].kids.length s] 123));clear B c hf ab hc N O q;obtain⟨⟨x,ac⟩,⟨y,ad⟩⟩:(∃x,x=a[k])/\(∃y,y=b[k]):=⟨⟨_,rfl⟩,⟨_,rfl⟩⟩;rw[<-ac]at R m G d c0 c1 c2 c3;rw[<-ad]at R m G d t I J K;clear ac ad;by_cases j:x=y
    ·have U:=hid (m.out j);have f:=R.out;rw[decide_eq_true j]at f;have H:=hid f;clear R f j m;(go_wp2_with fail);refine(H.out _ d.out).mono ?_;rintro e w1 ⟨rfl,L⟩;have M:=d.out.trans (L.mono d.out.size);go_wp2;go_roundw;(case rel=>exact⟨k+1,by omega,by go_num,M,U⟩);case measure=>simp[intOf];omega
    have T:=hid (G.out j);have f:=R.out;rw[decide_eq_false j]at f;have H:=hid f;clear R f j m;(go_wp2_with fail);refine(H.out _ d.out).mono ?_;rintro e w1 ⟨rfl,L⟩;have M:=d.out.trans (L.mono d.out.size);go_wp2;go_ret;rw[decide_eq_false T.out];exact⟨rfl,M⟩
   (obtain rfl:k=a.length:=by omega);have af:=hid (show a=b from by have h:=Q.out;rw[List.take_length]at h;rw[h,HL.out,List.take_length]);clear Q;go_wp2;go_ret;rw[decide_eq_true af.out];exact⟨rfl,c⟩
 have e1:((a.length:Int)!=(b.length:Int))=true:=by simp;omega
 have HN:=hid (show a≠b from λe=>hl (by rw[e]));clear hl;go_wp2;go_ret;rw[decide_eq_false HN.out];exact⟨rfl,Below.refl _ _⟩
theorem zRg(Z Z':zD)(v f:Value)(a b:List zB)(w:World)(j:zK Z w v a)(k:zK Z' w f b):
  Calls prog 129 #[.agg #[v],.agg #[f]] w λe w'=>e= .returned (.bool (decide (a=b)))/\Bw w w':=by
 have c:=(zG w (.cells #[v] 74)).alloc (by simp) (.cells #[f] 74);have m:=hid (zMv Z Z' v f a b _ (j.keep (.of_below c)) (k.keep (.of_below c)));have d:=hid c;obtain⟨A,n,rfl,-⟩:=j;obtain⟨o,i,rfl,-⟩:=k;clear c;go_enter func129,ntmps129
 go_wp2_with fail
 refine m.out.mono ?_;rintro e q ⟨rfl,g⟩;have h:=d.out.trans (g.mono d.out.size);go_wp2;go_ret;exact⟨rfl,h⟩
theorem Tryz.egValid1:∀args w,(callFunc 126 args).run prog w= .ok (.enter 126 args) w:=enters_of func126 (by kernel_rfl) rfl
theorem zQQ(Gb Db:Nat)(Z:zD)(d vd:Value)(g:List zB)(ds:List zE)(n:zB)(cs:List Value)(w:World)(v:w.cell? ⟨Gb,0,none⟩=some d)(t:w.cell? ⟨Db,0,none⟩=some vd)
  (j:zK Z w d g)(m:zAY Z w cs n)(i:Facts Z w vd ds):
  Calls prog 126 #[.agg cs.toArray,.pointer (some ⟨Gb,0,none⟩),.pointer (some ⟨Db,0,none⟩)] w λe w'=>e= .returned (.bool (!zAc ds g n))/\Bw w w':=by
 have a:=λo=>zG w o
 have q:=hid (λo=>zQD Z d vd g ds n cs (w.alloc o) (j.keep (.of_below (a o))) (m.keep (.of_below (a o))) (i.keep (.of_below (a o))));have x:=lt_of_cell v;have u:=lt_of_cell t;obtain⟨B,E,rfl,-,h,k⟩:=m;obtain⟨C,y,rfl,-⟩:=h.form;obtain⟨K,z,rfl,-⟩:=k.form;obtain⟨A,s,rfl,-⟩:=j;obtain⟨⟨D,f,rfl,-⟩,-⟩:=i;clear h k;go_enter func126,ntmps126
 go_wp2_with fail
 refine(q.out _).mono ?_;rintro e F ⟨rfl,b⟩;have c:=zC (zG w _) b;go_wp2;go_ret;exact⟨rfl,c⟩
theorem zPV{lo hi:Int}:∀{l:List Int},zAE lo hi l->(l.length:Int)<=hi-lo\/l=[]
 |[],_=>Or.inr rfl
 |c::r,h=>by
  have ih:=zPV h.2.2;have a:=h.1;have b:=h.2.1;left;rcases ih with ih|rfl
  ·simp only[List.length_cons];omega
  simp only[List.length_cons,List.length_nil];omega
theorem zDE(h:zCY f=true):0<=f.lo/\f.lo<=f.hi/\f.hi<=1000000:=by
 unfold zCY at h;simp only[Bool.and_eq_true,Bool.or_eq_true,beq_iff_eq,decide_eq_true_eq]at h;omega
theorem zE8(h:zT ds=true)(a:f∈ds):zCY f=true:=by
 unfold zT at h;simp only[Bool.and_eq_true,List.all_eq_true]at h;exact h.1.1 f a
theorem zTd{i:Int}(a:0<=i)(b:i<ds.length):fAt ds i∈ds:=by
 unfold fAt;rw[List.getD_eq_getElem?_getD,List.getElem?_eq_getElem (by omega)];exact List.getElem_mem _
theorem zQR{g:List zB}{n:zB}(b:zT ds=true)(h:zFe ds g n):n.cuts.length<=1000000/\n.kids.length<=1000001:=by
 rcases h with h|h
 ·rw[h.1,h.2.2];simp
 have c:=zDE (zE8 b (zTd h.f0 h.f1));have a:=h.len;rcases zPV h.asc with e|e
 ·omega
 rw[e]at a⊢;simp at a⊢;omega
def zUG(Z:zD)(w0 wr:World)(M Gb:Nat)(vg:Value)(g:List zB)(k:Nat):Prop:=
 ∃F Z',MkS wr M (g.take k) F Z'/\(∀b,F b->M<=b)/\(∀b,Z' b->Z b/\b<w0.heap.size)/\Bw w0 wr/\wr.cell? ⟨Gb,0,none⟩=some vg/\(g.take k).Nodup
theorem zEO(Z:zD)(vg vd:Value)(g:List zB)(ds:List zE)(w:World)(hg:zK Z w vg g)(hd:Facts Z w vd ds)(aa:zBr w.heap.size w):
  Calls prog 72 #[.agg #[vg],.agg #[vd]] w λe w'=>e= .returned (.bool (zBo ds g))/\Bw w w':=by
 have eg:=Tryz.egValid1;have s:=(zG w (.cells #[vg] 74)).alloc (by simp) (.cells #[vd] 25);have HV:=hid (zDF Z vd ds _ (hd.keep (.of_below s)));have j:=(Blk.new w 74 #[vg]).alloc (.cells #[vd] 25);have E:=Blk.new' (w.alloc (.cells #[vg] 74)) 25 #[vd] (n:=w.heap.size+1) (by simp);have H:=hid s;have ae:=hid j;have ad:=hid E;have HG:=hid hg;have HD:=hid hd;have HT:=hid aa;have d:=hid (show zBo ds g=(zT ds&&decide (g≠[])&&decide (g.length<=4000)&&g.all (zAc ds g)&&decide g.Nodup&&decide (zAr ds g 0=g)) from rfl);obtain⟨A,U,rfl,bj,bm,ax⟩:=hg.open_;obtain⟨D,bi,rfl,-,-,-⟩:=hd.open_;have a5:=hid ax;clear s j E hg hd aa ax;go_enter func72,ntmps72
 by_cases hv:zT ds=true
 ·rw[hv]at HV d;have a8:=hid hv;simp only[Bool.true_and]at d;clear hv;go_wp2_with fail
  refine HV.out.mono ?_;rintro e w1 ⟨rfl,C⟩;have j:=ae.out.below C ae.out.lt;have E:=ad.out.below C ad.out.lt;have g0:=j.at0;have ai:=j.lt;have a9:=E.lt;have I:=hid j;have V:=hid E;have f:=hid (H.out.trans (C.mono H.out.size));clear j E C ae ad H HV;by_cases he:g=[]
  ·(have e1:((g.length:Int)==0)=true:=by simp[he]);rw[decide_eq_false (show ¬g≠[] by simp[he])]at d;simp only[Bool.false_and]at d;clear he;go_wp2;go_ret;rw[d.out];exact⟨rfl,f.out⟩
  have e1:((g.length:Int)==0)=false:=by simp[he]
  rw[decide_eq_true he]at d;simp only[Bool.true_and]at d;have a6:=hid he;clear he;by_cases hl:g.length<=4000
  ·(have e2:decide ((4000:Int)<(g.length:Int))=false:=by simp;omega);(have ba:decide (4000<g.length)=false:=by simp;omega);rw[decide_eq_true hl]at d;simp only[Bool.true_and]at d;have HR:=hid (zAW.imp (R:=zAY Z w) (R':=zAY Z w) (λ_ _ h=>h) (zA.of_below f.out) (λ_ h=>h) (by obtain⟨_,_,e,_,_,_,h⟩:=HG.out;injection e with e1;subst e1;exact h))
   have X:=hid (zIO 126 #[.pointer (some ⟨w.heap.size,0,none⟩),.pointer (some ⟨w.heap.size+1,0,none⟩)] Tryz.egValid1 (zAY Z w) Z g (λi=> !zAc ds g (g.getD i zB9)) A U w1
    (λcs x h=>by obtain⟨a,b,e,_⟩:=h;exact⟨_,_,_,_,e⟩) HR.out (by omega) (λi hi cs bd W u=>by
     have ap:=f.out.trans (u.mono f.out.size);have:=zQQ w.heap.size (w.heap.size+1) Z _ _ g ds g[i] cs W (brd u g0 ai) ((u.cell (p:=⟨w.heap.size+1,0,none⟩) a9).trans (V.out.cell 0)) (HG.out.keep (.of_below ap)) (bd.keep (.of_below ap)) (HD.out.keep (.of_below ap));(have e:g.getD i zB9=g[i]:=by simp[List.getD_eq_getElem?_getD,hi]);show Calls prog 126 _ W λe W'=>e= .returned (.bool (!zAc ds g (g.getD i zB9)))/\Bw W W'
     rw[e];exact this))
   have Y:decide ((0:Int)<=firstIdx (λi=> !zAc ds g (g.getD i zB9)) g.length 0)= !g.all (zAc ds g):=by
    rcases zDe (λi=> !zAc ds g (g.getD i zB9)) g.length 0 with⟨k,h0,h1,h2,B,e⟩|⟨h0,e⟩
    ·rw[e];have hk:k<g.length:=by omega
     have:g.all (zAc ds g)=false:=by
      rw[List.all_eq_false];refine⟨g[k],List.getElem_mem hk,?_⟩;(have e:g.getD k zB9=g[k]:=by simp[List.getD_eq_getElem?_getD,hk]);simp only[e]at h2;simpa using h2
     rw[this];simp
    rw[e]
    have:g.all (zAc ds g)=true:=by
     rw[List.all_eq_true];intro x hx;obtain⟨k,hk,rfl⟩:=List.getElem_of_mem hx;have:=h0 k (Nat.zero_le _) (by omega);(have e:g.getD k zB9=g[k]:=by simp[List.getD_eq_getElem?_getD,hk]);simp only[e]at this;simpa using this
    rw[this];rfl
   rw[Y]at X;clear Y HR
   cases hp:g.all (zAc ds g)with
   |false=>
    rw[hp]at X d;simp only[Bool.not_false,Bool.false_and]at X d;clear hp hl;(go_wp2_with fail);refine X.out.mono ?_;rintro e P ⟨rfl,s⟩;have bc:=f.out.trans (s.mono f.out.size);go_wp2;go_ret;rw[d.out];exact⟨rfl,bc⟩
   |true=>
   rw[hp]at X d;simp only[Bool.not_true,Bool.true_and]at X d;have au:=hid (show ∀n∈g,zFe ds g n from λn hn=>zJc.1 (List.all_eq_true.1 hp n hn));have HL:=hid hl;clear hp hl;(go_wp2_with fail);refine X.out.mono ?_;rintro e P ⟨rfl,s⟩;have j:=I.out.below s I.out.lt;have g0:=j.at0;have ai:=j.lt;have J:=hid (f.out.trans (s.mono f.out.size));clear j s I V f X;go_wp2;have ab:=hid (And.intro g0 (And.intro ai J.out.size));clear g0;go_loopw[38] (λi wr=>∃k:Nat,k<=g.length/\i= .int .i64 k/\zUG Z w wr P.heap.size w.heap.size (.slice A g.length U) g k) (λi _=>g.length-(intOf i).toNat)
   case atStart=>
    exact⟨0,Nat.zero_le _,rfl,λb=>b=P.heap.size,λ_=>False,MkS.new P,λb h=>by omega,λb h=>h.elim,J.out.alloc J.out.size _,zD5 ab.out.1 _,by simp⟩
   case round=>
    obtain⟨k,hk,rfl,F,Z',m,hF,aj,c,v,t⟩:=hrel;by_cases M:k<g.length
    ·obtain⟨b,bh,vc,vk,rfl,hz,K,c0,c1,c2,c3,hf,hc,al⟩:=a5.out k M;obtain⟨VC,aw,rfl,-⟩:=hc.form;obtain⟨VK,a4,rfl,-⟩:=al.form;replace c0:=brd c c0 K;replace c1:=brd c c1 K;replace c2:=brd c c2 K;replace c3:=brd c c3 K;have bn:=lt_of_cell c0;have bg:=zQR a8.out (au.out _ (List.getElem_mem M));have br:=ab.out.2.2
     have HN:=hid (λW(u:Bw wr W)=>zG3 P.heap.size (g.take k) F Z' (λb=>Z b/\b<w.heap.size) g[k] [.bool g[k].leaf,.int .i64 g[k].fact,.slice VC g[k].cuts.length aw,.slice VK g[k].kids.length a4] W (m.below u)
      ⟨⟨_,_,rfl,hf,(hc.live.keep (.of_below (c.trans (u.mono c.size)))),(al.live.keep (.of_below (c.trans (u.mono c.size))))⟩,λb K=>⟨λh=>by have:=hF b h;omega,by have:=c.size;have:=u.size;omega⟩,by omega,by omega⟩
      (by have:=HL.out;rw[List.length_take];omega) ((HT.out.on (c.trans (u.mono c.size))).mono (by have:=c.size;have:=u.size;omega)))
     have ag:=hid (λ(W w':World)(u:Bw wr W)(hN:g[k]∉g.take k)(hP:zC3 W P.heap.size F (λb=>Z' b\/(Z b/\b<w.heap.size)) (zy (g.take k) g[k]) (.returned (.int .i64 (zy (g.take k) g[k]).1)) w')=>
      (show zUG Z w w' P.heap.size w.heap.size (.slice (some ⟨b,bh,none⟩) g.length U) g (k+1) from by
       obtain⟨-,⟨F',h1,h2⟩,B⟩:=hP;rw[show(zy (g.take k) g[k]).2=g.take (k+1) from by unfold zy;rw[if_neg hN,List.take_succ_eq_append_getElem M]]at h1;refine⟨F',_,h1,λb h=> ?_,λb h=> ?_,?_,?_,?_⟩
       ·rcases h2 b h with h|h
        ·exact hF b h
        have:=m.liveF _ m.fM;have:=u.size;omega
       ·rcases h with h|h
        ·exact aj b h
        exact h
       ·have L:=c.trans (u.mono c.size);exact L.trans ⟨B.os,B.tape,B.output,B.size,λb K=>B.block b (by have:=L.size;omega) (λh=>by have:=hF b h;omega)⟩
       ·exact B.cell (p:=⟨w.heap.size,0,none⟩) (λh=>by have h':P.heap.size<=w.heap.size:=hF _ h;have:=ab.out.2.1;omega) (brd u v (lt_of_cell v))
       rw[List.take_succ_eq_append_getElem M,List.nodup_append]
       exact⟨t,by simp,λa ha b K e=>by simp at K;subst K;exact hN (e▸ha)⟩))
     have af:=hid (show g[k]∈g.take k->g.Nodup->False from λhm hn=>by
      (have hd:g[k]∈g.drop k:=by rw[List.drop_eq_getElem_cons M];exact List.mem_cons_self);generalize g[k]=nd at*;rw[<-List.take_append_drop k g,List.nodup_append]at hn
      exact hn.2.2 _ hm nd hd rfl)
     have T:=hid (show(g[k]∈g.take k->(zy (g.take k) g[k]).1=((g.take k).idxOf g[k]:Nat)/\(g.take k).idxOf g[k]<k)/\(g[k]∉g.take k->(zy (g.take k) g[k]).1=(k:Nat)) from
      ⟨λh=>⟨by unfold zy;rw[if_pos h],by have:=List.idxOf_lt_length_of_mem h;rw[List.length_take]at this;omega⟩,λh=>by unfold zy;rw[if_neg h,List.length_take];simp;omega⟩)
     have a7:=hid (λ(W w':World)(u:Bw wr W)(e:Ending)(hP:zC3 W P.heap.size F (λb=>Z' b\/(Z b/\b<w.heap.size)) (zy (g.take k) g[k]) e w')=>(show Bw w w' from by
       obtain⟨-,-,B⟩:=hP;have L:=c.trans (u.mono c.size)
       exact L.trans ⟨B.os,B.tape,B.output,B.size,λb K=>B.block b (by have:=L.size;omega) (λh=>by have:=hF b h;omega)⟩))
     have hM:=m.liveF _ m.fM;(have bp:((k:Nat):Int)<(g.length:Int):=by omega);(have bo:(0:Int)<=((k:Nat):Int):=by omega);have Q:=hid (λo=>zG wr o);clear m hF aj c v t hf hc al K bg;generalize hr:zy (g.take k) g[k]=r at*;by_cases hm:g[k]∈g.take k
     ·have G:=T.out.1 hm;have t:=af.out hm;rw[decide_eq_false (show ¬g.Nodup from λh=>t h)]at d;simp only[Bool.false_and]at d;obtain⟨q,hq,bq⟩:∃q:Nat,r.1=(q:Int)/\q<k:=⟨_,G.1,G.2⟩;(have e5:(r.1 !=(k:Int))=true:=by rw[hq];simp;omega);clear hm G t T af ag hr hq;generalize g[k]=nd at*;(go_wp2_with fail);refine(HN.out _ (Q.out _)).mono ?_;rintro e w3 ⟨rfl,N⟩;have ah:=hid (a7.out _ _ (Q.out _) _ ⟨rfl,N⟩);clear N;go_wp2;go_ret;rw[d.out];exact⟨rfl,ah.out⟩
     have G:=T.out.2 hm;(have e5:(r.1 !=(k:Int))=false:=by rw[G];simp);have ar:=hid (λ(W w':World)(u:Bw wr W) hP=>ag.out W w' u hm hP);clear hm G T af ag hr;generalize g[k]=nd at*;(go_wp2_with fail);refine(HN.out _ (Q.out _)).mono ?_;rintro e w3 ⟨rfl,N⟩;have ah:=hid (ar.out _ _ (Q.out _) ⟨rfl,N⟩);clear N;go_wp2;go_roundw;(case rel=>exact⟨k+1,by omega,by go_num,ah.out⟩);case measure=>simp[intOf];omega
    (obtain rfl:k=g.length:=by omega);rw[List.take_length]at m t;have y:Good ds g:=⟨au.out,t⟩;have O:Rng g 0:=⟨Int.le_refl _,by have:=List.length_pos_iff.2 a6.out;omega⟩;rw[decide_eq_true t]at d;simp only[Bool.true_and]at d;have a2:=(zEI y O).length_le;(have az:zCw ds g 0=(zAr ds g 0,0):=by unfold zCw;rw[if_neg (by have:=HL.out;omega)]);have HF:=hid (zKJ ds g y (by have:=HL.out;omega) P.heap.size F Z' 0 wr O m);rw[az]at HF;have hM:=m.liveF _ m.fM;have aq:=hid (And.intro c v);have a0:=lt_of_cell v;clear t y O a2 az m hF aj c;(go_wp2_with fail);refine HF.out.mono ?_;rintro e w3 ⟨v3,rfl,ao,ak⟩;have bf:=brd ak v a0;have bk:=lt_of_cell bf;have z:=aq.out.1.trans (ak.mono aq.out.1.size);have a1:=ao;obtain⟨A3,av,rfl,-⟩:=a1;have HS:=hid (λo=>zRg _ Z (.slice A3 (zAr ds g 0).length av) (.slice A g.length U) (zAr ds g 0) g (w3.alloc o) (ao.keep ((zA.refl _ _).alloc o)) (HG.out.keep (.of_below (z.alloc z.size o))));have ac:=hid z;clear ao ak z v;(go_wp2_with fail);refine(HS.out _).mono ?_;rintro e w4 ⟨rfl,bb⟩;have ay:=(ac.out.alloc ac.out.size _).trans (bb.mono (by have:=ac.out.size;simp;omega));go_wp2;go_ret;rw[d.out];exact⟨rfl,ay⟩
  have e2:decide ((4000:Int)<(g.length:Int))=true:=by simp;omega
  have ba:decide (4000<g.length)=true:=by simp;omega
  rw[decide_eq_false hl]at d;simp only[Bool.false_and]at d;clear hl;go_wp2;go_ret;rw[d.out];exact⟨rfl,f.out⟩
 have a3:zT ds=false:=by simpa using hv
 rw[a3]at HV d;simp only[Bool.false_and]at d;clear hv a3;go_wp2_with fail
 refine HV.out.mono ?_;rintro e w1 ⟨rfl,C⟩;have f:=hid (H.out.trans (C.mono H.out.size));go_wp2;go_ret;rw[d.out];exact⟨rfl,f.out⟩
theorem Tryz.egLeast1:∀args w,(callFunc 75 args).run prog w= .ok (.enter 75 args) w:=enters_of func75 (by kernel_rfl) rfl
theorem zQS(Gb:Nat)(Z:zD)(t:Value)(g:List zB)(k:Int)(w:World)(x:w.cell? ⟨Gb,0,none⟩=some t)(j:zK Z w t g)(h:Rng g k):
  Calls prog 75 #[.int .i64 k,.pointer (some ⟨Gb,0,none⟩)] w λe w'=>e= .returned (.bool (live g k))/\Bw w w':=by
 have y:=lt_of_cell x;obtain⟨A,u,rfl,i,o,a⟩:=j.open_;obtain⟨n,rfl⟩:=Int.eq_ofNat_of_zero_le h.1;have q:n<g.length:=by have:=h.2;omega
 obtain⟨b,C,G,H,rfl,-,F,E,-,-,c3,-,-,c⟩:=a n q;obtain⟨D,s,rfl,-⟩:=c.form;have d:=hid (show live g (n:Int)=(decide (g[n].kids ≠[])||g[n].leaf) from by unfold live;rw[zCB q]);have B:((n:Nat):Int)<(g.length:Int):=by omega
 have z:(0:Int)<=((n:Nat):Int):=by omega
 clear j a c h;generalize g[n]=m at*;go_enter func75,ntmps75
 by_cases he:m.kids=[]
 ·have v:decide ((0:Int)<(m.kids.length:Int))=false:=by simp[he]
  have f:decide (0<m.kids.length)=false:=by simp[he]
  rw[decide_eq_false (by simp[he]),Bool.false_or]at d;clear he;go_wp2;go_ret;rw[d.out];exact⟨rfl,Below.refl _ _⟩
 have v:decide ((0:Int)<(m.kids.length:Int))=true:=by simp;exact List.length_pos_iff.2 he
 have f:decide (0<m.kids.length)=true:=by simp;exact List.length_pos_iff.2 he
 rw[decide_eq_true he,Bool.true_or]at d;clear he;go_wp2;go_ret;rw[d.out];exact⟨rfl,Below.refl _ _⟩
theorem zLj(p:Int->Bool)(l:List Int)(h:l.findIdx p<l.length):firstIdx (λi=>p (l.getD i 0)) l.length 0=(l.findIdx p:Nat):=by
 refine zCr (λj _ b=> ?_) (Nat.zero_le _) (by omega) ?_
 ·have a:j<l.length:=by omega
  have:=List.not_of_lt_findIdx b;simp only[List.getD_eq_getElem?_getD,List.getElem?_eq_getElem a,Option.getD_some];simpa using this
 have:=List.findIdx_getElem (w:=h);simp only[List.getD_eq_getElem?_getD,List.getElem?_eq_getElem h,Option.getD_some];exact this
def zRh(w:World)(r:Option (List Int))(e:Ending)(w':World):Prop:=
 ∃v,e= .returned (.tuple #[v,.bool r.isSome])/\zO (λb=>w.heap.size<=b) w' v (r.getD [])/\Bw w w'
theorem zOl(g:List zB)(k:Nat)(i:Int)(c:List Int):zCU g (k+1) i c=if(nAt g i).kids =[]then(i,c)
  else zCU g k ((nAt g i).kids.getD ((nAt g i).kids.findIdx (live g)) 0)
   (if 0<(nAt g i).kids.findIdx (live g)then c.set (nAt g i).fact.toNat ((nAt g i).cuts.getD ((nAt g i).kids.findIdx (live g)-1) 0)else c):=rfl
theorem zQT(Z:zD)(vg vd:Value)(g:List zB)(ds:List zE)(w:World)(hg:zK Z w vg g)(hd:Facts Z w vd ds)(au:zBr w.heap.size w):
  Calls prog 37 #[.agg #[vg],.agg #[vd]] w (zRh w (zDS ds g)):=by
 have eg:=Tryz.egLeast1;have B:=(zG w (.cells #[vg] 74)).alloc (by simp) (.cells #[vd] 25);have d:=(Blk.new w 74 #[vg]).alloc (.cells #[vd] 25);have U:=Blk.new' (w.alloc (.cells #[vg] 74)) 25 #[vd] (n:=w.heap.size+1) (by simp);have HV:=hid (zEO Z vg vd g ds _ (hg.keep (.of_below B)) (hd.keep (.of_below B)) ((au.on B).mono B.size));have V:=hid B;have ay:=hid d;have ax:=hid U;have HG:=hid hg;have HD:=hid hd;have HU:=hid (show zDS ds g=if zBo ds g=true then(if(nAt g (zCU g (ds.length+1) 0 (zCG ds)).1).leaf =true then some (zCU g (ds.length+1) 0 (zCG ds)).2 else none)else none from rfl);obtain⟨A,bd,rfl,cm,ab,bh⟩:=hg.open_;obtain⟨D,bf,rfl,-,ca,-⟩:=hd.open_;have b3:=hid bh;clear B d U hg hd au bh;go_enter func37,ntmps37
 by_cases hv:zBo ds g=true
 ·rw[hv]at HV;have b6:=hid (HU.out.trans (if_pos hv));have s:=hid (zD0.1 hv);clear hv HU;go_wp2_with fail
  refine HV.out.mono ?_;rintro e w1 ⟨rfl,T⟩;have d:=ay.out.below T ay.out.lt;have U:=ax.out.below T ax.out.lt;have d0:=U.at0;have b7:=U.lt;have H:=V.out.trans (T.mono V.out.size);have HL:=hid (zMt Z (.slice D ds.length bf) ds w1 (HD.out.keep (.of_below H)));have X:=hid (And.intro d H);clear d U T H HV ay ax V;go_wp2_with fail
  refine HL.out.mono ?_;rintro e w2 ⟨vc,rfl,F,B⟩;have bu:zCG ds=ds.map zE.lo:=zDk s.out.dom;have ac:(zCG ds).length =ds.length:=by rw[bu,List.length_map]
  obtain⟨AC,P,rfl,-,-,-⟩:=Row.of_own F (by decide);rw[ac]at F;have d:=X.out.1.below B X.out.1.lt;have g0:=d.at0;have ak:=d.lt;have ch:=X.out.2.size;have H:=X.out.2.trans (B.mono ch);have al:=hid (And.intro d H);have az:=hid F;have da:=zDh (ds:=ds) (g:=g) 0;clear d0 b7 B HL d H F bu;simp only[ac];go_wp2;clear g0 ak;go_loopw[7] (λa wr=>∃(x:Int)(c:List Int)(m:Nat),a= .int .i64 x/\Rng g x/\zCS ds g x<m/\c.length=ds.length/\wr.ownsRow w1.heap.size 3 1 (.slice AC ds.length P) ds.length (c.map (.int .i64))/\Blk wr w.heap.size 74 #[.slice A g.length bd]/\Bw w wr/\(∀y∈c,I64 y)/\Hid (zCU g (ds.length+1) 0 (zCG ds)=zCU g m x c)) (λa _=>zCS ds g (intOf a))
  case atStart=>
   refine⟨0,zCG ds,ds.length+1,rfl,s.out.rng,by omega,ac,az.out,al.out.1,al.out.2,λy hy=> ?_,rfl⟩;rw[zDk s.out.dom]at hy;obtain⟨f,hf,rfl⟩:=List.mem_map.1 hy;have:=zDE (zE8 s.out.dom hf);constructor<;>omega
  case round=>
   (rename World=>wv);obtain⟨x,c,m,rfl,hx,bv,a1,aq,d,z,bk,ar⟩:=hrel;have g0:=d.at0;have ak:=d.lt;obtain⟨m,rfl⟩:∃m',m=m'+1:=⟨m-1,by omega⟩;have M:=ar.out.trans (zOl g m x c);have aj:=hid (λ(hk:(nAt g x).kids ≠[])=>And.intro (s.out.good.inner hx hk) (And.intro (s.out.good.some_live (zGU s.out.dom) hx hk) (λk cc=>s.out.good.rank_kid hx (k:=k) cc)));obtain⟨n,rfl⟩:=Int.eq_ofNat_of_zero_le hx.1;(have hn:n<g.length:=by have:=hx.2;omega);have ap:=zCB hn;obtain⟨b,ck,de,df,rfl,-,hb,c0,c1,c2,c3,hf,a2,a5⟩:=b3.out n hn;(have cu:b<wv.heap.size:=by have:=z.size;omega);replace c0:=brd z c0 hb;replace c1:=brd z c1 hb;replace c2:=brd z c2 hb;replace c3:=brd z c3 hb;have a8:=hid a2;have a9:=hid a5;obtain⟨VC,ai,rfl,co⟩:=a2.form;obtain⟨VK,ah,rfl,cr⟩:=a5.form;(have cz:((n:Nat):Int)<(g.length:Int):=by omega);(have cy:(0:Int)<=((n:Nat):Int):=by omega);rw[ap]at M aj;have O:=hid M;have t:=hid (And.intro d (And.intro z (And.intro aq (And.intro bk a1))));have bb:=hid bv;clear ar M ap d z aq bk a1 a2 a5 bv hf;by_cases C:g[n].kids =[]
   ·have hr:=O.out;rw[if_pos C]at hr;(have e1:decide ((0:Int)<(g[n].kids.length :Int))=false:=by simp[C]);(have b8:decide (0<g[n].kids.length)=false:=by simp[C]);have J:=hid (show zDS ds g=if g[n].leaf =true then some c else none from by rw[b6.out,hr];simp only;rw[zCB hn]);clear C hr O aj hx;generalize g[n]=nd at*
    cases bt:nd.leaf with
    |true=>
     rw[bt]at J c0;simp only[if_true]at J;go_wp2;refine bodyPost_ret (v:= .tuple #[.slice AC ds.length P,.bool true]) (by simp[results,results37,go_sem]) rfl ?_;rw[J.out];refine⟨_,rfl,?_,t.out.2.1⟩;have ho:=t.out.2.2.1;have bq:=zO.of_own (xs:=c) (by rw[<-t.out.2.2.2.2]at ho;exact ho) t.out.2.2.2.1 (by have:=t.out.2.2.2.2;omega);rw[t.out.2.2.2.2]at bq;exact bq.mono λb hb=>by omega
    |false=>
    rw[bt]at J c0;simp only[Bool.false_eq_true,if_false]at J;go_wp2;refine bodyPost_ret (v:= .tuple #[.slice none 0 0,.bool false]) (by simp[results,results37,go_sem]) rfl ?_;rw[J.out];exact⟨_,rfl,zO.nil _ _,t.out.2.1⟩
   have hr:=O.out;rw[if_neg C]at hr;have I:=aj.out C;(have e1:decide ((0:Int)<(g[n].kids.length :Int))=true:=by simp;exact List.length_pos_iff.2 C);have b8:decide (0<g[n].kids.length)=true:=by simp;exact List.length_pos_iff.2 C
   have HI:=hid (λ(W:World)(hW:Bw wv W)=>zG4 75 #[.pointer (some ⟨w.heap.size,0,none⟩)] Tryz.egLeast1 Z (.slice VK g[n].kids.length ah) g[n].kids (live g) W (a9.out.keep (.of_below (t.out.2.1.trans (hW.mono t.out.2.1.size))))
    (λk hk W2 bg=>zQS w.heap.size Z (.slice (some ⟨b,ck,none⟩) g.length bd) g k W2 ((bg.cell (p:=⟨w.heap.size,0,none⟩) (show w.heap.size<W.heap.size from by have:=hW.size;omega)).trans (brd hW g0 ak)) (HG.out.keep (.of_below (t.out.2.1.trans ((hW.mono t.out.2.1.size).trans (bg.mono (by have:=t.out.2.1.size;have:=hW.size;omega)))))) (I.2.2 k hk).1))
   rw[zLj _ _ I.2.1]at HI;have hq:=I.2.1;have ab:=I.1.len;have cb:=I.1.f0;have cv:=I.1.f1;have bs:=zBa hq;have af:=I.2.2 _ bs;have i:=hid (And.intro af.1 (And.intro af.2 bb.out));have J:=hid hr;clear hr I O aj bb C bs af hx;generalize cg:g[n].kids.findIdx (live g)=q at*;have cf:nAt g ((n:Nat):Int)=g[n]:=zCB hn;have ba:=hid ab;clear cg cf ab;generalize g[n]=nd at*;obtain⟨nl,nf,nc,nk⟩:=nd;simp only at*;obtain⟨G,rfl⟩:=Int.eq_ofNat_of_zero_le cb;(have cw:G<ds.length:=by omega);(have cq:((G:Nat):Int)<(ds.length:Int):=by omega);(have cp:(0:Int)<=((G:Nat):Int):=by omega);(have c9:((q:Nat):Int)<(nk.length:Int):=by omega);(have c8:(0:Int)<=((q:Nat):Int):=by omega);have b4:=hid (λo=>zG wv o);(go_wp2_with fail);refine(HI.out _ (b4.out _)).mono ?_;rintro e w3 ⟨rfl,a0⟩;have ag:=(Blk.new wv 123 #[.bool nl,.int .i64 (G:Int),.slice VC nc.length ai,.slice VK nk.length ah]).below a0 (by simp);have Q:Bw wv w3:=zC (zG wv _) a0;have av:=t.out.2.1.trans (Q.mono t.out.2.1.size);have n1:=ag.at1;have n2:=ag.at2;have n3:=ag.at3;have cj:=ag.lt;obtain⟨kb,aw,rfl,-,br,a4⟩:=a9.out.at_ hq;(have ce:nk.getD q 0=nk[q]:=by simp[List.getD_eq_getElem?_getD,hq]);rw[ce]at J i;have bp:=t.out.1.below Q t.out.1.lt;have ad:w3.ownsRow w1.heap.size 3 1 (.slice AC ds.length P) ds.length (c.map (.int .i64)):=zXL t.out.2.2.1 (zA.of_below (Z:=λ_=>True) Q) (λ_ _=>trivial);(have cn:=λk hk=>t.out.2.2.1.lt k hk);have j:=hid (And.intro bp (And.intro av (And.intro ad ag)));clear c0 c1 c2 c3 g0 ak a0 Q av bp ad HI;generalize nk[q]=kx at*;by_cases ae:0<q
   ·(have e2:decide ((0:Int)<((q:Nat):Int))=true:=by simp;exact ae);(have ct:decide (0<q)=true:=by simp;exact ae);rw[if_pos ae]at J;obtain⟨p,rfl⟩:∃p,q=p+1:=⟨q-1,by omega⟩;rw[Nat.add_sub_cancel]at J;(have a6:p<nc.length:=by have h:=ba.out;omega);obtain⟨ub,R,rfl,-,bx,bz⟩:=a8.out.at_ a6;(have b1:nc.getD p 0=nc[p]:=by simp[List.getD_eq_getElem?_getD,a6]);have b0:=a8.out.fit _ (List.getElem_mem a6);rw[b1]at J;have a7:=brd j.out.2.1 bz bx;have bw:=lt_of_cell a7;(have c7:((p:Nat):Int)<(nc.length:Int):=by omega);(have c6:(0:Int)<=((p:Nat):Int):=by omega);have b9:=hid b0;(have dc:IntKind.i64.wrap ((p:Nat):Int)=((p:Nat):Int):=by rw[IntKind.wrap_i64];omega);clear ae bz b1 bx b0;generalize nc[p]=u at*
    have hA:∃L,AC=some ⟨L,0,none⟩/\w1.heap.size<=L:=by
     rcases j.out.2.2.1.2 with⟨_,h0⟩|⟨L,c',cur',hv,hge,_⟩
     ·omega
     injection hv with hv;exact⟨L,hv,hge⟩
    obtain⟨L,rfl,cx⟩:=hA
    have bn:(c.map (Value.int .i64))[G]? =some (.int .i64 (c.getD G 0)):=by
     have a1:=t.out.2.2.2.2;rw[List.getElem?_map,List.getElem?_eq_getElem (by omega)];simp[List.getD_eq_getElem?_getD,show G<c.length by omega]
    obtain⟨a3,bi⟩:=zMM j.out.2.2.1 bn;have ao:=lt_of_cell a3;have cs:=(t.out.2.2.1.lt L rfl).2;have bc:=hid (zNb (show w3.drew.ownsRow w1.heap.size 3 1 (.slice (some ⟨L,0,none⟩) ds.length P) ds.length (c.map (.int .i64)) from j.out.2.2.1) G (.int .i64 u));have E:zA (λb=>b≠L) w3 (w3.drew.setCell ⟨L,G,none⟩ (.int .i64 u)):=(zA.refl _ _).drew.setCell (λ_ h=>h rfl) _;have db:=j.out.2.1.size;have cl:=X.out.1.lt;have N:=hid (And.intro (j.out.1.keep E (by omega)) (And.intro (show Bw w (w3.drew.setCell ⟨L,G,none⟩ (.int .i64 u)) from j.out.2.1.trans ⟨E.os,E.tape,E.output,E.size,λb hb=>E.block b (by omega) (by omega)⟩) (j.out.2.2.2.keep E (by omega))));(have cd:kb≠L:=by omega);have k3:=E.cell (p:=⟨kb,aw+(p+1),none⟩) cd (brd j.out.2.1 a4 br);have b5:=hid k3;go_wp2;refine zY 10 (λW=>W.cell? ⟨wv.heap.size,1,none⟩=some (.int .i64 (G:Int))/\W.cell? ⟨wv.heap.size,2,none⟩=some (.slice (some ⟨ub,R,none⟩) nc.length ai)/\W.cell? ⟨ub,R+p,none⟩=some (.int .i64 u)) (by kernel_rfl) ?_;have Y:(λW:World=>W.cell? ⟨wv.heap.size,1,none⟩=some (.int .i64 (G:Int))/\W.cell? ⟨wv.heap.size,2,none⟩=some (.slice (some ⟨ub,R,none⟩) nc.length ai)/\W.cell? ⟨ub,R+p,none⟩=some (.int .i64 u)) w3.drew:=⟨n1,n2,a7⟩;have bo:w3.drew.cell? ⟨L,G,none⟩=some (.int .i64 (c.getD G 0)):=a3;have bj:w3.drew.frozen? ⟨L,G,none⟩=false:=bi;have bm:L<w3.drew.heap.size:=ao;clear a3 bi ao n1 n2 n3 cj a7 bw k3 E bn;generalize w3.drew=w6 at*
    (refine tkQ 0 Y ?_;simp only[nr])
    (refine tkQ 1 Y ?_;simp only[nr])
    (refine tkS 2 ?_ Y ?_ ?_;rotate_left;intro w aa;obtain⟨h1,h2,h3⟩:=aa;go_simp;(try with_reducible rfl);simp only[nr])
    (refine tkQ 3 Y ?_;simp only[nr])
    (refine tkS 4 ?_ Y ?_ ?_;rotate_left;intro w aa;obtain⟨h1,h2,h3⟩:=aa;go_simp;(try with_reducible rfl);simp only[nr])
    (refine tkQ 5 Y ?_;simp only[nr])
    (refine tkQ 6 Y ?_;simp only[nr])
    (refine tkQ 7 Y ?_;simp only[nr])
    (refine tkS 8 ?_ Y ?_ ?_;rotate_left;intro w aa;obtain⟨h1,h2,h3⟩:=aa;go_simp;(try with_reducible rfl);simp only[nr])
    (refine tkQ 9 Y ?_;simp only[nr])
    refine wS1 10 (λK hK=> ?_);(go_wp2_with fail);refine hK _ _ (Or.inl rfl) ?_;clear hK K Y bo bj bm
    (try simp only[nr])
    refine wSd ?_ _;have n3:(w6.setCell ⟨L,G,none⟩ (.int .i64 u)).cell? ⟨wv.heap.size,3,none⟩=some (.slice (some ⟨kb,aw,none⟩) nk.length ah):=N.out.2.2.cell 3;have dd:=N.out.2.2.lt;have k3:=b5.out;have ci:=lt_of_cell k3;generalize w6.setCell ⟨L,G,none⟩ (.int .i64 u)=w7 at*;go_wp2;go_roundw
    case rel=>
     refine⟨kx,c.set G u,m,rfl,i.out.1,by have h1:=i.out.2.1;have h2:=i.out.2.2;omega,by rw[List.length_set];exact t.out.2.2.2.2,?_,N.out.1,N.out.2.1,λy hy=> ?_,J⟩
     ·have h:=bc.out;rw[List.map_set];exact h
     rcases List.mem_or_eq_of_mem_set hy with hy|rfl
     ·exact t.out.2.2.2.1 y hy
     exact b9.out
    case measure=>
     have h1:=i.out.2.1;simpa[intOf]using h1
   (obtain rfl:q=0:=by omega);rw[if_neg (by omega)]at J;have k3:=brd j.out.2.1 a4 br;rw[Nat.add_zero]at k3;have ci:=lt_of_cell k3;clear ae a4;go_wp2;go_roundw;case rel=>exact⟨kx,c,m,rfl,i.out.1,by have h1:=i.out.2.1;have h2:=i.out.2.2;omega,t.out.2.2.2.2,j.out.2.2.1,j.out.1,j.out.2.1,t.out.2.2.2.1,J⟩
   case measure=>
    have h1:=i.out.2.1;simpa[intOf]using h1
 have b2:zBo ds g=false:=by simpa using hv
 rw[b2]at HV;have J:=hid (HU.out.trans (if_neg hv));clear hv b2 HU;go_wp2_with fail
 refine HV.out.mono ?_;rintro e w1 ⟨rfl,T⟩;have H:=V.out.trans (T.mono V.out.size);go_wp2;refine bodyPost_ret (v:= .tuple #[.slice none 0 0,.bool false]) (by simp[results,results37,go_sem]) rfl ?_;rw[J.out];exact⟨_,rfl,zO.nil _ _,H⟩
mutual
def zCh:Fm->Int->Int
 | .mk _ _ _ _ kids,n=>zCP kids 1 n
def zCP:List Fm->Int->Int->Int
 |[],out,_=>out
 |k::r,out,n=>if out<=n then zCP r (out+zCh k (n-out)) n else out
end
mutual
theorem zNq:∀(f:Fm)(n:Int),1<=zCh f n/\(zCh f n<=n+1\/zCh f n=1)
 | .mk _ _ _ _ kids,n=>by
  rw[zCh];obtain⟨a,b⟩:=zIz kids 1 n;exact⟨a,by omega⟩
theorem zIz:∀(l:List Fm)(a n:Int),a<=zCP l a n/\(zCP l a n<=n+1\/zCP l a n=a)
 |[],a,n=>by rw[zCP];omega
 |k::r,a,n=>by
  rw[zCP];split
  ·rename_i h;obtain⟨b,c⟩:=zNq k (n-a);obtain⟨d,e⟩:=zIz r (a+zCh k (n-a)) n;omega
  omega
end
mutual
theorem zJA:∀(f:Fm)(n:Int),zCh f n<=n↔(zH f:Int)<=n
 | .mk _ _ _ _ kids,n=>by
  rw[zCh,zH];have:=zKz kids 1 n;rw[this]
  push_cast
  omega
theorem zKz:∀(l:List Fm)(a n:Int),zCP l a n<=n↔a+(zV l:Int)<=n
 |[],a,n=>by rw[zCP,zV];simp
 |k::r,a,n=>by
  rw[zCP,zV];have f:=zCH k;split
  ·rename_i h;have c:=zJA k (n-a);have d:=zKz r (a+zCh k (n-a)) n;have b:=zMX k (n-a);rw[d]
   push_cast
   constructor
   ·intro e;have:=b (by omega);omega
   intro e;have:=b (c.2 (by omega));omega
  push_cast;omega
theorem zMX:∀(f:Fm)(n:Int),zCh f n<=n->zCh f n=zH f
 | .mk _ _ _ _ kids,n,h=>by
  rw[zCh]at h⊢;rw[zH];have:=zLA kids 1 n h;rw[this];push_cast;omega
theorem zLA:∀(l:List Fm)(a n:Int),zCP l a n<=n->zCP l a n=a+zV l
 |[],a,n,_=>by rw[zCP,zV];simp
 |k::r,a,n,h=>by
  rw[zCP]at h⊢;rw[zV];split at h
  ·rename_i ho;rw[if_pos ho];have b:=zLA r (a+zCh k (n-a)) n h;have d:=(zIz r (a+zCh k (n-a)) n).1;have c:=zMX k (n-a) (by omega);rw[b,c];push_cast;omega
  rename_i ho;omega
end
theorem Tryz.egSize:∀args w,(callFunc 99 args).run prog w= .ok (.enter 99 args) w:=enters_of func99 (by kernel_rfl) rfl
theorem zOm:∀(m:Nat)(f:Fm),zH f<=m->∀(Z:zD)(cs:List Value)(n:Int)(w:World),FmR Z w f cs->0<=n->n<=1000000->
  Calls prog 99 #[.agg cs.toArray,.int .i64 n] w λe w'=>e= .returned (.int .i64 (zCh f n))/\Bw w w':=by
 intro m
 induction m with
 |zero=>intro f O;have:=zCH f;omega
 |succ m ih=>
 intro f O Z cs n w U ad ae;have eg:=Tryz.egSize;have Y:=hid ih;clear ih;obtain⟨op,K,G,L,kids⟩:=f;unfold FmR at U;obtain⟨-,-,-,-,A,v,rfl,T,-,ab,J⟩:=U;have X:=hid (zAD.seq J);have ac:kids.length<=2513169434916:=by omega
 have Q:=hid (show zCh (.mk op K G L kids) n=zCP kids 1 n from by rw[zCh]);have c:=Blk.new w 52 #[.int .i64 op,.string K,.int .i64 G,.int .i64 L,.slice A kids.length v];have F:=hid (And.intro (zG w (.cells #[.int .i64 op,.string K,.int .i64 G,.int .i64 L,.slice A kids.length v] 52)) c);have W:=hid O;clear J O c;go_enter func99,ntmps99
 go_wp2;go_loopw[5,6] (λo i wr=>∃(k:Nat)(b:Int),k<=kids.length/\i= .int .i64 k/\o= .int .i64 b/\1<=b/\(b<=n+1\/b=1)/\Blk wr w.heap.size 52 #[.int .i64 op,.string K,.int .i64 G,.int .i64 L,.slice A kids.length v]/\Bw w wr/\Hid (zCP kids 1 n=zCP (kids.drop k) b n)) (λ_ i _=>kids.length-(intOf i).toNat);case atStart=>exact⟨0,1,Nat.zero_le _,rfl,rfl,by omega,Or.inr rfl,F.out.2,F.out.1,rfl⟩
 case round=>
  obtain⟨k,b,hk,rfl,rfl,af,ag,c,d,h⟩:=hrel;have b4:=c.at4;have aa:=c.lt;have D:=hid (And.intro c d);by_cases C:k<kids.length
  ·have y:kids.drop k=kids[k]::kids.drop (k+1):=List.drop_eq_getElem_cons C;have a:=h.out;rw[y,zCP]at a;by_cases s:b<=n
   ·rw[if_pos s]at a;obtain⟨b',P,cs,rfl,hz,H,z⟩:=X.out.at_ C;have B:zA Z w wr:= .of_below d;have t:=FmR.keep B _ _ z;obtain⟨A',R,rfl⟩:=FmR.form z;have N:=zBz C;obtain⟨c0,c1,c2,c3,c4⟩:=zAL (λj u hu=>B.cell (p:=⟨b',P+k*5+j,none⟩) hz (H j u hu));have cl:=lt_of_cell c0;have I:=zCQ (.mk op K G L kids);simp only[Fm.kids]at I;have V:=hid (Y.out kids[k] (by have:=W.out;omega) Z _ (n-b) wr t (by omega) (by omega));have ah:=zNq kids[k] (n-b);have E:=hid a;(have e1:decide (b<=n)=true:=by simpa using s);clear h a y H z t B N c d I;generalize zCh kids[k] (n-b)=q at*;generalize kids[k]=g at*;(go_wp2_with fail);refine V.out.mono ?_;rintro e w1 ⟨rfl,x⟩;have hx:=D.out.1.below x D.out.1.lt;have M:=D.out.2.trans (x.mono D.out.2.size);clear x;go_wp2;go_roundw;(case rel=>exact⟨k+1,b+q,by omega,by go_num,rfl,by omega,by omega,hx,M,E⟩);case measure=>simp[intOf];omega
   rw[if_neg s]at a;(have e1:decide (b<=n)=false:=by simpa using s);have E:=hid a;clear h a y c d;go_wp2;go_ret;rw[Q.out,E.out];exact⟨rfl,D.out.2⟩
  obtain rfl:k=kids.length:=by omega
  have a:=h.out;rw[List.drop_length,zCP]at a;have E:=hid a;clear h a c d;go_wp2;go_ret;rw[Q.out,E.out];exact⟨rfl,D.out.2⟩
theorem zNr(Z:zD)(f:Fm)(cs:List Value)(n:Int)(w:World)(c:FmR Z w f cs)(j:0<=n)(k:n<=1000000):
  Calls prog 55 #[.agg cs.toArray,.int .i64 n] w λe w'=>e= .returned (.bool (decide ((zH f:Int)<=n)))/\Bw w w':=by
 have d:=hid (λo=>zOm (zH f) f (Nat.le_refl _) Z cs n (w.alloc o) (FmR.keep ((zA.refl _ _).alloc o) _ _ c) j k)
 have g:=hid (show decide ((zH f:Int)<=n)=decide (zCh f n<=n) from by
  by_cases h:(zH f:Int)<=n
  ·rw[decide_eq_true h,decide_eq_true ((zJA f n).2 h)]
  rw[decide_eq_false h,decide_eq_false (λe=>h ((zJA f n).1 e))])
 obtain⟨A,i,rfl⟩:=FmR.form c;clear c;go_enter func55,ntmps55
 go_wp2_with fail
 refine(d.out _).mono ?_;rintro e m ⟨rfl,a⟩;have b:=zC (zG w _) a;go_wp2;go_ret;rw[g.out];exact⟨rfl,b⟩
theorem zSo(Z Z':zD)(v J:Value)(xs ys:List Int)(w:World)(B:zO Z w v xs)(C:zO Z' w J ys):
  Calls prog 24 #[v,J] w λe w'=>e= .returned (.bool (decide (xs=ys)))/\Bw w w':=by
 have L:=hid B;have M:=hid C;obtain⟨A,N,rfl,V⟩:=B.form;obtain⟨Y,F,rfl,W⟩:=C.form;clear B C;go_enter func24,ntmps24
 by_cases t:xs.length=ys.length
 ·have O:((xs.length:Int)!=(ys.length:Int))=false:=by simp[t]
  have E:=hid t;clear t;go_wp2;go_loopw[5] (λi wr=>∃k:Nat,k<=xs.length/\i= .int .i64 k/\Bw w wr/\Hid (xs.take k=ys.take k)) (λi _=>xs.length-(intOf i).toNat);case atStart=>exact⟨0,Nat.zero_le _,rfl,Below.refl _ _,by simp[Hid]⟩
  case round=>
   obtain⟨k,hk,rfl,a,d⟩:=hrel;by_cases n:k<xs.length
   ·(have f:k<ys.length:=by rw[<-E.out];exact n);obtain⟨b,X,rfl,-,G,z⟩:=L.out.at_ n;obtain⟨b',I,rfl,-,s,m⟩:=M.out.at_ f;replace z:=brd a z G;replace m:=brd a m s;have Q:=lt_of_cell z;have H:=lt_of_cell m;have j:=hid (λe=>zIy n f d.out e);have g:=hid (show xs[k]≠ys[k]->xs≠ys from λh e=>h (by subst e;rfl));(have T:((k:Nat):Int)<(xs.length:Int):=by omega);(have U:((k:Nat):Int)<(ys.length:Int):=by omega);(have R:(0:Int)<=((k:Nat):Int):=by omega);have D:=hid a;clear a G s d;generalize xs[k]=x at*;generalize ys[k]=y at*;by_cases c:x=y
    ·(have P:(x !=y)=false:=by simp[c]);have q:=hid (j.out c);clear c j g;go_wp2;go_quiet(fail);go_wp2;go_roundw;(case rel=>exact⟨k+1,by omega,by go_num,below_drewN' D.out _,q⟩);case measure=>simp[intOf];omega
    (have P:(x !=y)=true:=by simp[c]);have o:=hid (g.out c);clear c j g;go_wp2;go_quiet(fail);go_wp2;go_ret;rw[decide_eq_false o.out];exact⟨rfl,below_drewN' D.out _⟩
   (obtain rfl:k=xs.length:=by omega);have u:=hid (show xs=ys from by have h:=d.out;rw[List.take_length]at h;rw[h,E.out,List.take_length]);clear d;go_wp2;go_ret;rw[decide_eq_true u.out];exact⟨rfl,a⟩
 have O:((xs.length:Int)!=(ys.length:Int))=true:=by simp;omega
 have K:=hid (show xs≠ys from λe=>t (by rw[e]));clear t;go_wp2;go_ret;rw[decide_eq_false K.out];exact⟨rfl,Below.refl _ _⟩
end Go.Proofs.YtommaegelgilnaaGreatDoor
