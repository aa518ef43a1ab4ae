/- EqualTwice: for every list, scene and number, whatever they are: the law returns true, and the arguments read behind the call as before it. Conditions: the row's own (the listed variables of Go's library read as its text lays them: the card ties them). -/
import Derived.Test.YtommaegelgilnaaGreatDoorM44
import Derived.Test.YtommaegelgilnaaGreatDoorCards
import Derived.Test.YtommaegelgilnaaGreatDoorTie
set_option linter.all false
namespace Go.Proofs.YtommaegelgilnaaGreatDoor
open Go.RowKit Go.Proofs.Tryz
set_option maxHeartbeats 16000000
set_option maxRecDepth 100000
variable {A:Option Addr}{base n:Nat}{e:TypeId}{l:List zF}{w:World}
section each
variable {α:Type} {R R':List Value->α->Prop} {k:Nat}
theorem zB7.of_seq{Z:zD}{w:World}(h:∀cs x,R cs x->cs.length=k):∀{g:List α}{A:Option Addr},zAW R k Z w g A->∃csl,zB7 R k g csl/\∀b a,A=some ⟨b,a,none⟩->∀j u,csl.flatten[j]? =some u->w.cell? ⟨b,a+j,none⟩=some u
 |[],_,_=>⟨[],trivial,λ_ _ _ j u c=>by simp at c⟩
 |f::g,A,⟨b,a,cs,e,hz,hc,h1,h2⟩=>by
  obtain⟨csl,m,n⟩:=zB7.of_seq h h2;refine⟨cs::csl,⟨⟨h1,h _ _ h1⟩,m⟩,λq i d j u c=> ?_⟩;have s:=h _ _ h1;rw[e]at d;injection d with d;injection d with e1 e2;subst e1 e2;rw[List.flatten_cons]at c;by_cases o:j<cs.length
  ·rw[List.getElem?_append_left o]at c;exact hc j u c
  ·rw[List.getElem?_append_right (by omega)]at c;have:=n b (a+k) rfl (j-cs.length) u c;rwa[show a+k+(j-cs.length)=a+j from by omega]at this
end each
section
open Go.ChangeShapes Go.WideShapes Go.ChangeAt
section ops
variable {H:Type} {enc:TypeId × Value->H} {w:World} {held:Bool}
end ops
section args
variable {H:Type} {enc:TypeId × Value->H} {W:World} {v:Value} {d:DataW H} {ps:List MemPlace} {base:Nat}
theorem bounds_u8{n:Int}(h:(Lit.int .u8 n).wf =true):0<=n/\n<=255:=by
 simp[Lit.wf,IntKind.min,IntKind.max,IntKind.signed,IntKind.bits]at h;omega
theorem zXj(g:Value.okWide prog W .any base 5 v)(f:DataW.Trod enc prog W 0 (λ_=>true) true 5 v d ps)(b:zBb prog 5 d):∃n,v= .int .u8 n/\(0<=n/\n<=255):=by
 obtain⟨n,rfl⟩:=okWide_int underlying5 g;obtain⟨a,c⟩:=f;obtain⟨i,e,-,h⟩:=DataW.trod_int underlying5 c;exact⟨i,by simpa[Value.cells]using e,bounds_u8 h⟩
end args
end
section
variable {l a b:List zF} {s:zM} {sg now:Int} {c:List Int}
theorem zXf{m:zF}{i:ByteArray}(B:m∈l)(o:∀x∈l,x.kind=2->(m.kind=1->x.target≠m.id)/\x.target≠i):(zAO l (l++[⟨i,m.auth,m.kind,m.target,m.when_,m.from_,m.until_,m.wind⟩]) s).2.1=false:=
 zRs λD E sg now c=>by
  obtain⟨b,e⟩:∃b:zF,b=⟨i,m.auth,m.kind,m.target,m.when_,m.from_,m.until_,m.wind⟩:=⟨_,rfl⟩;rw[<-e];have w:∀k,zFF s sg now k b=zFF s sg now k m:=λk=>by rw[e];rfl
  have F:b.kind=m.kind:=by rw[e]
  have n:b.auth=m.auth:=by rw[e]
  have v:b.target=m.target:=by rw[e]
  have j:b.when_=m.when_:=by rw[e]
  have hid:b.id=i:=by rw[e]
  have a:∀p:zF->Bool,(p b=true->p m=true)->(l++[b]).any p=l.any p:=λp C=>by
   rw[Bool.eq_iff_iff,List.any_eq_true,List.any_eq_true];constructor
   ·rintro⟨x,f,h1⟩;rcases List.mem_append.1 f with f|f
    ·exact⟨x,f,h1⟩
    ·rw[List.mem_singleton]at f;subst f;exact⟨m,B,C h1⟩
   ·rintro⟨x,f,h1⟩;exact⟨x,List.mem_append_left _ f,h1⟩
  have q:∀x,exB (l++[b]) s sg now c x=exB l s sg now c x:=λx=>a _ λh=>by rw[w,n,v,j]at h;exact h
  have d:∀{k:Int}{x:zF},zFF s sg now k x=true->x.kind=k:=λh=>by
   unfold zFF at h;simp only[Bool.and_eq_true,decide_eq_true_eq]at h;exact h.1.2
  have A:m.kind=1->exB l s sg now c m=false/\exB l s sg now c b=false:=λg=>by
   constructor
   ·unfold exB;rw[List.any_eq_false];intro x f h;simp only[Bool.and_eq_true,decide_eq_true_eq]at h;exact(o x f (d h.1)).1 g h.2.1.2
   ·unfold exB;rw[List.any_eq_false];intro x f h;simp only[Bool.and_eq_true,decide_eq_true_eq]at h;exact(o x f (d h.1)).2 (h.2.1.2.trans hid)
  have t:∀x,fbB (l++[b]) s sg now c x=fbB l s sg now c x:=λx=>by unfold fbB;rw[q]
  have u:fbB l s sg now c b=true->fbB l s sg now c m=true:=λh=>by
   unfold fbB at h⊢;rw[w,j]at h;simp only[Bool.and_eq_true]at h⊢;have g:=d h.1;refine⟨h.1,h.2.1,by rw[(A g).1];rfl⟩
  have z:∀x,blB (l++[b]) s sg now c x=blB l s sg now c x:=λx=>by
   unfold blB;congr 2;rw[show(λy=>decide (y.auth=x.target)&&fbB (l++[b]) s sg now c y)=λy=>decide (y.auth=x.target)&&fbB l s sg now c y from by funext y;rw[t]]
   exact a _ λh=>by
    rw[Bool.and_eq_true,n]at h;rw[Bool.and_eq_true];exact⟨h.1,u h.2⟩
  unfold zHF zFo;rw[show fbB (l++[b]) s sg now c=fbB l s sg now c from funext t,show blB (l++[b]) s sg now c=blB l s sg now c from funext z];exact⟨(a _ u).symm,(a _ λh=>by unfold blB at h⊢;rw[w,j,v]at h;exact h).symm⟩
end
theorem zXi{g base n a:Nat}{cells:Array Value}(h:Blk w g e cells)(c:base<=g)(d:n<=maxLen)(b:cells.size=n*a):w.ownsRow base e a (.slice (some ⟨g,0,none⟩) n n) n cells.toList:=
 ⟨by simpa using b,Or.inr ⟨g,n,cells,rfl,c,h,Nat.le_refl _,d,b,List.take_of_length_le (by rw[Array.length_toList,b];exact Nat.le_refl _)⟩⟩
theorem zXa{P:Program}{o:Oper}{a:Act}{K:Act->World->Prop}{Q:Exit->Act->World->Prop}
  (s x:Operand)(t:TypeId)(E:o.op= .call {callee:= .builtin .append,args:=#[s,x],argTypes:=#[t,t]})
  {b d:Nat}(H:P.underlying t=some (.slice e))(El:zC2 P e b d){v:Value}{xs:List Value}(G:a.eval s=v)(g:w.ownsRow base e b v n xs)
  {m c:Nat}(I:a.eval x= .slice A m c){Zn:zD}{news:List Value}(D:news.length=m*b)(F:Row Zn w A news)(k:∀u∈news,u.oneCell'=true)(j:n+m<=maxLen)(C:(n+m)*d<=140737488355328)(f:base<=w.heap.size)
  (B:∀i w',w'.ownsRow base e b i (n+m) (xs++news)->w.grownBy w' v.ownBlock->(i.ownBlock=v.ownBlock\/i.ownBlock=some w.heap.size)->K (a.put o.dst i) w'):
  Oper.wp P o a w K Q:=by
 obtain⟨i,w',h,q,y,z⟩:=zOZ (ty:=o.type) H El g D F k j C f;unfold Oper.wp execOp;simp only[E,resolve,invoke,builtin,Sem.run_bind,Sem.run_pure,Result.andThen_ok,List.map_toArray,List.map_cons,List.map_nil,G,I];rw[h];exact B _ _ q y z
theorem zXg{Z:zD}{n cap:Nat}(h:zn Z w (.slice A n cap) l):∃csl,zB7 (zBs Z w) 12 l csl/\Row Z w A csl.flatten:=by
 obtain⟨o,d,e,-,-,-,g⟩:=h;injection e with e1 e2 e3;subst e1;obtain⟨csl,f,j⟩:=zB7.of_seq (k:=12) (λi x h=>by obtain⟨_,_,rfl,-⟩:=zBs.form h;rfl) g;refine⟨csl,f,λc=> ?_⟩
 cases l with
 |nil=>
  cases csl with
  |nil=>exact absurd rfl c
  |cons _ _=>exact f.elim
 |cons p r=>
  obtain⟨b,a,i,rfl,m,-⟩:=g;exact⟨b,a,rfl,m,j b a rfl⟩
theorem zXX{Z:zD}{w:World}:∀{d:List zF}{csl:List (List Value)},zB7 (zBs Z w) 12 d csl->∀u∈csl.flatten,u.oneCell'=true
 |[],[],_,_,h=>by simp at h
 |p::ps,c::cs,h,u,a=>by
  rw[List.flatten_cons,List.mem_append]at a;rcases a with a|a
  ·obtain⟨e,b,rfl,-⟩:=zBs.form h.1.1;simp only[List.mem_cons,List.not_mem_nil,or_false]at a;rcases a with rfl|rfl|rfl|rfl|rfl|rfl|rfl|rfl|rfl|rfl|rfl|rfl<;>rfl
  ·exact zXX h.2 u a
 |[],_::_,h,_,_=>h.elim
 | _::_,[],h,_,_=>h.elim
section
open Go.Shelf
def zXW(x:zHQ)(vc p q r t:Value):Array Value:=#[.int .i64 x.signed,.int .i64 x.now,vc,.int .i64 x.a.kind,p,q,.int .i64 x.b.kind,r,t]
structure R11 (u x:World) (n:Nat) (row mx:List Value) (X:zHQ × Bool × Int) (b1 b3 b5 b6 b8 b9 b10 b11 b12 b13 b14 b15 b16:Bool) (v76 v78 v80 v81 v83 v74 v84 v85 v86 v10 v11 v12 vc p q r t:Value):Prop where
 be:Below u.heap.size u x
 m1:b1=true->b3=false->x.ownsRow u.heap.size 54 12 v76 0 []
 u1:b1=false->v76=undef
 m3:b3=true->b1=true/\(b6=false->x.ownsRow u.heap.size 54 12 v78 n row)
 m5:b5=true->b6=false->∃g,v80= .slice (some ⟨g,0,none⟩) 1 1/\Blk x g 54 mx.toArray/\(b3=false->v76.ownBlock≠some g)/\(b3=true->v78.ownBlock≠some g)
 m6:b6=true->b3=true/\b5=true/\(b8=false->x.ownsRow u.heap.size 54 12 v81 (n+1) (row++mx))
 m8:b8=true->b6=true/\v83= .tuple #[.agg (zXW X.1 vc p q r t),.bool X.2.1,.int .i64 X.2.2]/\Sl vc/\Sl p/\Sl q/\Sl r/\Sl t
 m9:b9=true->b8=true/\v74= .tuple #[.agg (zXW X.1 vc p q r t),.bool X.2.1,.int .i64 X.2.2]
 m10:b10=true->b9=true/\v84= .agg (zXW X.1 vc p q r t)
 m11:b11=true->v85= .bool X.2.1
 m12:b12=true->v86= .int .i64 X.2.2
 m13:b13=true->∃B,v10= .pointer (some ⟨B,0,none⟩)/\u.heap.size<=B/\(b14=false->Blk x B 38 #[.int .i64 0,.int .i64 0,.slice none 0 0,.int .i64 0,.slice none 0 0,.slice none 0 0,.int .i64 0,.slice none 0 0,.slice none 0 0]/\(b3=false->v76.ownBlock≠some B)/\(b3=true->b6=false->v78.ownBlock≠some B))
 m14:b14=true->b8=true/\b13=true
 m15:b15=true->v11= .bool X.2.1
def zXb(x:zF)(l:List zF)(k:Nat):Prop:=∀m∈l.take k,m.kind=2->(x.kind=1->m.target≠x.id)/\m.target≠⟨#[97,103,97,105,110]⟩
theorem zXd{x:zF}{k:Nat}(c:k<l.length)(h:zXb x l k)(d:l[k].kind =2->(x.kind=1->l[k].target ≠x.id)/\l[k].target ≠⟨#[97,103,97,105,110]⟩):zXb x l (k+1):=by
 intro m a;rw[zXN c,List.mem_append]at a;rcases a with b|b
 ·exact h m b
 ·obtain rfl:=List.mem_singleton.1 b;exact d
theorem zXc(Z:zD)(vl vd va vz vc:Value)(l:List zF)(s:zM)(aj:Int)(w:World)(hl:zn Z w vl l)(h:zBq Z w vd va vz vc s)(bt:0<=aj/\aj<=255)(hz:∀b,Z b->b<w.heap.size)(ht:zBr w.heap.size w):
  Calls prog 9 #[vl,.agg #[vd,va,vz,vc,.int .i64 s.signed,.int .i64 s.now],.int .u8 aj] w λe w'=>e= .returned (.bool true)/\Below w.heap.size w w':=by
 have df:=hid (λW(hW:Below w.heap.size w W)=>(ht.on hW).mono hW.size);have de:=hid (λW(hW:Below w.heap.size w W)=>h.keep (show zA Z w W from .of_below_lt hW λb _ A=>hz b A));have cw:=hid (λW(hW:Below w.heap.size w W)=>zn.keep hl (show zA Z w W from .of_below_lt hW λb _ A=>hz b A));have HZ:=hid hz;have cz:=hid bt;obtain⟨LA,fp,rfl,gb⟩:=zj.form hl;have cj:=hid (λk(hk:k<l.length)=>zj.at_ hl hk);obtain⟨bh,ar,bu⟩:=zXg hl;have cv:=hid ar.size;have cx:=hid (zXX ar);have cr:=hid ar;have db:=hid (λW(hW:Below w.heap.size w W)=>bu.keep (show zA Z w W from .of_below_lt hW λb _ A=>hz b A));obtain⟨DA,ah,rfl⟩:∃A2 bg,vd= .slice A2 s.dom.length bg:=by obtain⟨⟨A2,bg,e,_⟩,_⟩:=h.d;exact⟨A2,bg,e⟩
 obtain⟨NA,ai,rfl,-,-,gd⟩:=h.a.form;obtain⟨ZA,ak,rfl,gf⟩:=zj.form h.z;obtain⟨CA,ag,rfl,f4⟩:=zj.form h.c;clear hl h hz ht ar bu bt;have bk:=Blk.new w 30 #[.slice DA s.dom.length ah,.slice NA s.auths.length ai,.slice ZA s.zones.length ak,.slice CA s.cases.length ag,.int .i64 s.signed,.int .i64 s.now];have cd:=zG w (.cells #[.slice DA s.dom.length ah,.slice NA s.auths.length ai,.slice ZA s.zones.length ak,.slice CA s.cases.length ag,.int .i64 s.signed,.int .i64 s.now] 30);go_enter func9,ntmps9
 go_upto_region 1 with fail
 generalize w.alloc _=w0 at*;have HX:=hid bk;have HW:=hid cd;clear bk cd;go_wp2_with fail
 refine(zQq w0 (df _ HW)).mono ?_;rintro e w1 ⟨rfl,A⟩;have bc:=hid (zC HW A);have bn:=hid (HX.below A HX.lt);clear A HX HW;obtain⟨q0,fh,q1,fi,q2,fj,q3,fk,q4,fl,q5,fo,ql⟩:=bn.out.d6;go_wp2_with fail
 refine(zSC Z _ _ _ _ _ _ l [] s w1 (cw _ bc) zj.nil (de _ bc) (λb A=>Nat.lt_of_lt_of_le (HZ b A) bc.size)).mono ?_;rintro e w2 ⟨t,rfl,A,bs⟩;have ax:=hid (zC bc A);have bo:=hid (bn.below A bn.lt);have HF:=hid bs;clear A bs bn bc q0 q1 q2 q3 q4 q5 fh fi fj fk fl fo ql
 cases t with
 |false=>
  go_wp2_with fail
  go_ret;exact⟨rfl,ax⟩
 |true=>
  have HP:=hid (HF (by trivial));have ga:=HP.a5;clear HF;by_cases f7:l.length=0
  ·(have ez:((l.length:Nat):Int)=0:=by omega);(go_wp2_with fail);go_ret;exact⟨rfl,ax⟩
  have ez:¬((l.length:Nat):Int)=0:=by omega
  by_cases f8:4<l.length
  ·(have dw:(4:Int)<((l.length:Nat):Int):=by omega);(go_wp2_with fail);go_ret;exact⟨rfl,ax⟩
  have dw:¬(4:Int)<((l.length:Nat):Int):=by omega
  obtain⟨k,hk,du⟩:∃k:Nat,k<l.length/\aj%(l.length:Int)=(k:Int):=⟨(aj%(l.length:Int)).toNat,by have:=Int.emod_lt_of_pos aj (show(0:Int)<(l.length:Int) by omega);have:=Int.emod_nonneg aj (show(l.length:Int)≠0 by omega);omega,by have:=Int.emod_nonneg aj (show(l.length:Int)≠0 by omega);omega⟩;obtain⟨fd,fe⟩:=cz.out;obtain⟨b,gh,cs,rfl,ff,dc,cg⟩:=cj k hk;have dp:b<w.heap.size:=HZ b ff;have bz:=hid (List.getElem_mem hk);have ba:=hid cg;obtain⟨FA,R,rfl,-⟩:=cg.form;obtain⟨c0,c1,c2,c3,c4,c5,c6,c7,c8,c9,b7,ca⟩:=zBQ (λj u hu=>(ax.cell (p:=⟨b,_,none⟩) dp).trans (dc j u hu));have dq:=lt_of_cell c0;have ex:(k:Int)<(l.length:Int):=by omega
  have cd:(((l.length:Nat):Int)==0)=false:=by rw[beq_eq_false_iff_ne];omega
  have f2:decide ((4:Int)<((l.length:Nat):Int))=false:=decide_eq_false (by omega);clear dc cg;obtain⟨y,hy⟩:∃y,y=l[k]:=⟨_,rfl⟩;rw[<-hy]at bz ba c0 c1 c2 c3 c4 c5 c6 c7 c8 c9 b7 ca;clear hy;obtain⟨id,au,kd,tg,⟨op,nm,cm,nu,kids⟩,fr,un,wi⟩:=y;simp only[Fm.op,Fm.name,Fm.cmp,Fm.num,Fm.kids]at ba c0 c1 c2 c3 c4 c5 c6 c7 c8 c9 b7 ca;obtain⟨kl,dt⟩:∃n,n=kids.length:=⟨_,rfl⟩;rw[<-dt]at ba c8;clear dt;obtain⟨m2,bp⟩:∃m2:zF,m2=⟨⟨#[97,103,97,105,110]⟩,au,kd,tg,.mk op nm cm nu kids,fr,un,wi⟩:=⟨_,rfl⟩;have ee:=hid bp;have dg:=hid (λhe=>zXf (l:=l) (s:=s) (m:=⟨id,au,kd,tg,.mk op nm cm nu kids,fr,un,wi⟩) (i:=⟨#[97,103,97,105,110]⟩) bz he)
  have bq:=hid (show zBs Z w [.string ⟨#[97,103,97,105,110]⟩,.string au,.int .i64 kd,.string tg,.int .i64 op,.string nm,.int .i64 cm,.int .i64 nu,.slice FA kl R,.int .i64 fr,.int .i64 un,.int .i64 wi] m2 from by
   obtain⟨fc,h1,h2,-,h4,h5,h6⟩:=ba.out;rw[bp];refine⟨fc,h1,?_,show zB2 ⟨#[97,103,97,105,110]⟩ from by unfold zB2;decide,h4,h5,h6⟩;simp only[List.cons_append,List.nil_append,List.cons.injEq,true_and]at h2⊢
   first|exact h2|exact h2.2|exact⟨rfl,h2.2⟩)
  have bx:=hid (show ∀m∈l,zH m.when_<=1000000 from λm hm=>by have:=HP.fa m hm;omega);have ed:=hid (show zH m2.when_<=1000000 from by rw[bp];have h:=bx _ bz.out;exact h);have ec:=hid (show zB7 (zBs Z w) 12 (l++[m2]) (bh++[[.string ⟨#[97,103,97,105,110]⟩,.string au,.int .i64 kd,.string tg,.int .i64 op,.string nm,.int .i64 cm,.int .i64 nu,.slice FA kl R,.int .i64 fr,.int .i64 un,.int .i64 wi]]) from zM8 bq rfl bh cr);clear ba bq cr bp;go_wp2_with fail
  rw[du];go_wp2_with fail
  have dn:=Blk.new w2 54 #[.string id,.string au,.int .i64 kd,.string tg,.int .i64 op,.string nm,.int .i64 cm,.int .i64 nu,.slice FA kl R,.int .i64 fr,.int .i64 un,.int .i64 wi];have ce:=zG w2 (.cells #[.string id,.string au,.int .i64 kd,.string tg,.int .i64 op,.string nm,.int .i64 cm,.int .i64 nu,.slice FA kl R,.int .i64 fr,.int .i64 un,.int .i64 wi] 54);generalize w2.alloc _=w3 at*;have ay:=hid (zC ax ce);have b2:=hid (bo.below ce bo.lt);have bd:=hid dn;have ew:w.heap.size<w2.heap.size:=bo.lt;have bm:=hid (show(⟨#[97,103,97,105,110]⟩:ByteArray).toList =[97,103,97,105,110] from by first|rfl|decide|simp);clear c0 c1 c2 c3 c4 c5 c6 c7 c8 c9 b7 ca dq ex dn ce bo ax du fd fe dw;generalize w2.heap.size=gX at*;go_loopw[9] (λiv wr=>∃(j:Nat),j<=l.length/\iv= .int .i64 j/\Hid (zXb ⟨id,au,kd,tg,.mk op nm cm nu kids,fr,un,wi⟩ l j)/\Hid (Below w3.heap.size w3 wr)) (λiv _=>l.length-(intOf iv).toNat);case atStart=>exact⟨0,Nat.zero_le _,rfl,hid (λm hm=>by simp at hm),hid (Below.refl _ _)⟩
  case round=>
   obtain⟨j,hj,rfl,bv,ae⟩:=hrel;by_cases az:j<l.length
   ·obtain⟨mb,fs,gg,cc,ey,dz,dv⟩:=cj j az;injection cc with cc;injection cc with h1 h2;subst h1 h2;obtain⟨MA,fq,rfl,-⟩:=dv.form;have b4:=hid (bd.below ae bd.lt);have n0:=b4.at0;have n2:=b4.at2;have nl:=b4.lt;obtain⟨d0,d1,d2,d3,d4,d5,d6,d7,d8,d9,ei,ej⟩:=zBQ (λj u hu=>((zC ay ae).cell (p:=⟨b,_,none⟩) dp).trans (dz j u hu));have dq:=lt_of_cell d0;(have f5:(j:Int)<(l.length:Int):=by omega);have ao:=hid (zXd az bv);clear dz dv ey d0 d1 d4 d5 d6 d7 d8 d9 ei ej;generalize l[j]=z at*;obtain⟨zi,za,zk,zt,zw,zf,zu,zd⟩:=z;simp only at ao d2 d3;by_cases dr:zk=2
    ·subst dr;by_cases he:zt=id
     ·(have e2:(zt.toList==id.toList)=true:=by rw[zBK];simp[he]);by_cases ds:kd=1
      ·go_wp2;go_quiet(fail);(go_wp2_with fail);go_ret;exact⟨rfl,zC ay (below_drewN' ae nq)⟩
      ·(have ek:(kd==1)=false:=by rw[beq_eq_false_iff_ne];exact ds);by_cases ha:zt=⟨#[97,103,97,105,110]⟩
       ·(have e3:(zt.toList==[97,103,97,105,110])=true:=by rw[<-bm.out,zBK];simp[ha]);clear he ha;go_wp2;go_quiet(fail);(go_wp2_with fail);go_ret;exact⟨rfl,zC ay (below_drewN' ae nq)⟩
       ·(have e3:(zt.toList==[97,103,97,105,110])=false:=by rw[<-bm.out,zBK];simp[ha]);have bb:=hid (ao λ_=>⟨λh=>absurd h ds,ha⟩);clear ha ao he;go_wp2;go_quiet(fail);go_wp2;go_roundw;(case rel=>exact⟨j+1,by omega,by go_num,bb,hid (below_drewN' ae nq)⟩);case measure=>simp[intOf];omega
     ·(have e2:(zt.toList==id.toList)=false:=by rw[zBK];simp[he]);by_cases ha:zt=⟨#[97,103,97,105,110]⟩
      ·(have e3:(zt.toList==[97,103,97,105,110])=true:=by rw[<-bm.out,zBK];simp[ha]);clear he ha;go_wp2;go_quiet(fail);(go_wp2_with fail);go_ret;exact⟨rfl,zC ay (below_drewN' ae nq)⟩
      ·(have e3:(zt.toList==[97,103,97,105,110])=false:=by rw[<-bm.out,zBK];simp[ha]);have bb:=hid (ao λ_=>⟨λ_=>he,ha⟩);clear ha ao he;go_wp2;go_quiet(fail);go_wp2;go_roundw;(case rel=>exact⟨j+1,by omega,by go_num,bb,hid (below_drewN' ae nq)⟩);case measure=>simp[intOf];omega
    ·have bb:=hid (ao λh=>absurd h dr);clear ao;go_wp2;go_quiet(fail);go_wp2;go_roundw;(case rel=>exact⟨j+1,by omega,by go_num,bb,hid (below_drewN' ae nq)⟩);case measure=>simp[intOf];omega
   ·(obtain rfl:j=l.length:=by omega);(rename World=>w4);have dh:=hid (zC ay ae);have di:=hid (b2.below ae b2.lt);have bf:=hid (bd.below ae bd.lt)
    have cu:=hid (show(zAO l (l++[m2]) s).2.1=false from by
     rw[ee.out];(refine dg λx hx hk=> ?_);have:=bv x (by rw[List.take_length];exact hx) hk
     exact this)
    clear bv dg ae b2 ay bd hj az;have z0:=bf.at0;have zf:=bf.frozen 0;have zl:=bf.lt;(go_upto_region 11 with fail);clear z0 zf zl;have dj:=hid (show Blk (w4.setCell ⟨gX,0,none⟩ (.string ⟨#[97,103,97,105,110]⟩)) gX 54 #[.string ⟨#[97,103,97,105,110]⟩,.string au,.int .i64 kd,.string tg,.int .i64 op,.string nm,.int .i64 cm,.int .i64 nu,.slice FA kl R,.int .i64 fr,.int .i64 un,.int .i64 wi] from bf.set_ 0 _);obtain⟨gS,cf⟩:∃g,g=w.heap.size:=⟨_,rfl⟩;have dd:=hid (show Blk (w4.setCell ⟨gX,0,none⟩ (.string ⟨#[97,103,97,105,110]⟩)) gS 30 #[.slice DA s.dom.length ah,.slice NA s.auths.length ai,.slice ZA s.zones.length ak,.slice CA s.cases.length ag,.int .i64 s.signed,.int .i64 s.now] from by rw[cf];exact di.far (p:=⟨gX,0,none⟩) (by show w.heap.size≠gX;omega) _);have b0:=hid (show Below w.heap.size w (w4.setCell ⟨gX,0,none⟩ (.string ⟨#[97,103,97,105,110]⟩)) from dh.setCell (p:=⟨gX,0,none⟩) (Nat.le_of_lt ew) _);rw[<-cf] ;clear bf di dh cf;generalize w4.setCell ⟨gX,0,none⟩ (.string ⟨#[97,103,97,105,110]⟩)=u at*;have da:=hid (λx(hx:Below u.heap.size u x)=>db _ (zC b0 hx));clear db;obtain⟨X,hX⟩:∃X,zAO l (l++[m2]) s=X:=⟨_,rfl⟩;rw[hX]at cu;have ef:=hid hX;clear hX
    have HC:=hid (λ(W':World)(hW:Below u.heap.size u W')=>(show(W'.cell? ⟨gX,0,none⟩=some (.string ⟨#[97,103,97,105,110]⟩)/\W'.cell? ⟨gX,1,none⟩=some (.string au)/\W'.cell? ⟨gX,2,none⟩=some (.int .i64 kd)/\W'.cell? ⟨gX,3,none⟩=some (.string tg)/\W'.cell? ⟨gX,4,none⟩=some (.int .i64 op)/\W'.cell? ⟨gX,5,none⟩=some (.string nm)/\W'.cell? ⟨gX,6,none⟩=some (.int .i64 cm)/\W'.cell? ⟨gX,7,none⟩=some (.int .i64 nu)/\W'.cell? ⟨gX,8,none⟩=some (.slice FA kl R)/\W'.cell? ⟨gX,9,none⟩=some (.int .i64 fr)/\W'.cell? ⟨gX,10,none⟩=some (.int .i64 un)/\W'.cell? ⟨gX,11,none⟩=some (.int .i64 wi)/\gX<W'.heap.size)/\(W'.cell? ⟨gS,0,none⟩=some (.slice DA s.dom.length ah)/\W'.cell? ⟨gS,1,none⟩=some (.slice NA s.auths.length ai)/\W'.cell? ⟨gS,2,none⟩=some (.slice ZA s.zones.length ak)/\W'.cell? ⟨gS,3,none⟩=some (.slice CA s.cases.length ag)/\W'.cell? ⟨gS,4,none⟩=some (.int .i64 s.signed)/\W'.cell? ⟨gS,5,none⟩=some (.int .i64 s.now)/\gS<W'.heap.size) from by
     have hA:=dj.below hW dj.lt;have hK:=dd.below hW dd.lt
     exact⟨⟨hA.at0,hA.at1,hA.at2,hA.at3,hA.at4,hA.cell 5,hA.cell 6,hA.cell 7,hA.cell 8,hA.cell 9,hA.cell 10,hA.cell 11,hA.lt⟩,⟨hK.at0,hK.at1,hK.at2,hK.at3,hK.at4,hK.cell 5,hK.lt⟩⟩))
    refine zJb 14 (λW=>Below u.heap.size u W) ?_;have cb:Below u.heap.size u u.drew:=(Below.refl _ _).drew;have hS:(λW=>Below u.heap.size u W) u.drew:=cb;generalize u.drew=x0 at*
    (refine tkQ 0 hS ?_;simp only[nr])
    try simp only[nq]
    (refine tkQ 2 hS ?_;simp only[nr])
    try simp only[nq]
    (refine tkS 4 ?_ hS ?_ ?_;rotate_left;intro w bi;obtain⟨⟨a0,a1,a2,a3,a4,a5,a6,a7,a8,a9,eg,eh,al⟩,⟨k0,k1,k2,k3,k4,k5,fg⟩⟩:=HC _ bi;clear bi;go_simp;(try with_reducible rfl);simp only[nr])
    try simp only[nq]
    (refine tkS 7 ?_ hS ?_ ?_;rotate_left;intro w bi;obtain⟨⟨a0,a1,a2,a3,a4,a5,a6,a7,a8,a9,eg,eh,al⟩,⟨k0,k1,k2,k3,k4,k5,fg⟩⟩:=HC _ bi;clear bi;go_simp;(try with_reducible rfl);simp only[nr])
    (try simp only[nq]);clear hS;(refine wSA λA0 hA=> ?_);refine wSI (λ(L:Array Bool)(a1:Act)(x:World)=>∃(b1 b3 b5 b6 b8 b9 D E F G J H M:Bool)(N Q U V Y ad aa ab ac T O P vc p q r t:Value),L=#[true,b1,true,b3,true,b5,b6,true,b8,b9,D,E,F,G,J,H,M]/\a1=(((((((((((A0.put (some 76) N).put (some 78) Q).put (some 80) U).put (some 81) V).put (some 83) Y).put (some 74) ad).put (some 84) aa).put (some 85) ab).put (some 86) ac).put (some 10) T).put (some 11) O).put (some 12) P/\R11 u x l.length bh.flatten [.string ⟨#[97,103,97,105,110]⟩,.string au,.int .i64 kd,.string tg,.int .i64 op,.string nm,.int .i64 cm,.int .i64 nu,.slice FA kl R,.int .i64 fr,.int .i64 un,.int .i64 wi] X b1 b3 b5 b6 b8 b9 D E F G J H M N Q U V Y ad aa ab ac T O P vc p q r t) ?_ ?_ ?_ ?_ (by kernel_rfl) _ _ _ _ (by decide) ?_
    ·rintro L a1 x ⟨b1,b3,b5,b6,b8,b9,D,E,F,G,J,H,M,N,Q,U,V,Y,ad,aa,ab,ac,T,O,P,vc,p,q,r,t,-,-,h⟩;exact .inr h.be
    ·rintro L a1 x ⟨b1,b3,b5,b6,b8,b9,D,E,F,G,J,H,M,N,Q,U,V,Y,ad,aa,ab,ac,T,O,P,vc,p,q,r,t,rfl,-⟩;rfl
    ·rintro L a1 x ⟨b1,b3,b5,b6,b8,b9,D,E,F,G,J,H,M,N,Q,U,V,Y,ad,aa,ab,ac,T,O,P,vc,p,q,r,t,rfl,rfl,h⟩ br;have dl:H=true:=br 15;have ck:=hid h.be;obtain rfl:=h.m15 dl;clear h br dl HC cb;subst hA;simp only[nr];unfold zK2;dsimp only;rw[cu.out];(go_wp2_with fail);go_ret;exact⟨rfl,zC b0 ck⟩
    ·rintro L a1 x j o ⟨b1,b3,b5,b6,b8,b9,D,E,F,G,J,H,M,N,Q,U,V,Y,ad,aa,ab,ac,T,O,P,vc,p,q,r,t,rfl,rfl,h⟩ I C hd;have hj:j<17:=(Array.getElem?_eq_some_iff.1 I).1;(have hj:j=0\/j=1\/j=2\/j=3\/j=4\/j=5\/j=6\/j=7\/j=8\/j=9\/j=10\/j=11\/j=12\/j=13\/j=14\/j=15\/j=16:=by omega);rcases hj with rfl|rfl|rfl|rfl|rfl|rfl|rfl|rfl|rfl|rfl|rfl|rfl|rfl|rfl|rfl|rfl|rfl
     ·cases C
     ·have C:b1=false:=C;subst C;injection I with I;subst I;(have f3:b3=false:=by cases A:b3 with|false=>rfl|true=>exact absurd (h.m3 A).1 (by simp));have bj:=hid f3;refine⟨rfl,λK hK=> ?_⟩;have v:=hid h;clear h hd;subst hA;simp only[nr];(go_wp2_with fail);(have az:∀g cs tt,Blk x g tt cs->(Value.slice (some ⟨x.heap.size,0,none⟩) 0 0).ownBlock ≠some g:=λg cs tt hg e=>by have:=hg.lt;have e2:x.heap.size=g:=Option.some.inj e;omega);exact hK _ _ ⟨true,b3,b5,b6,b8,b9,D,E,F,G,J,H,M,(.slice (some ⟨x.heap.size,0,none⟩) 0 0),Q,U,V,Y,ad,aa,ab,ac,T,O,P,vc,p,q,r,t,rfl,(by simp only[nr]),⟨(v.be.alloc v.be.size _),(λ_ _=>zXi (Blk.new x 54 #[]) v.be.size (by decide) rfl),(λe=>by cases e),(λe=>absurd (bj.symm.trans e) (by simp)),(λe1 e2=>by obtain⟨g,e,hg,-,-⟩:=v.m5 e1 e2;exact⟨g,e,hg.alloc _,λ_=>az _ _ _ hg,λe=>absurd (bj.symm.trans e) (by simp)⟩),(λe=>absurd (bj.symm.trans (v.m6 e).1) (by simp)),v.m8,v.m9,v.m10,v.m11,v.m12,(λe=>by obtain⟨B,e1,e2,h3⟩:=v.m13 e;exact⟨B,e1,e2,λe=>⟨(h3 e).1.alloc _,λ_=>az _ _ _ (h3 e).1,λe=>absurd (bj.symm.trans e) (by simp)⟩⟩),v.m14,v.m15⟩⟩ trivial
     ·cases C
     ·have C:b3=false:=C;subst C;injection I with I;subst I;have e1:b1=true:=hd ⟨1,.data⟩ (by simp) rfl;have bw:=hid e1;refine⟨rfl,λK hK=> ?_⟩;have v:=hid h;clear h hd;subst hA;simp only[nr];refine zXa (.tmp 76) (.tmp 77) _ rfl underlying22 Tryz.eMeas rfl (v.m1 bw rfl) rfl cv (da _ v.be) cx (by unfold maxLen;omega) (by omega) v.be.size ?_;intro v' x' av hg dm;have aq:=zAs v.be (v.m1 bw rfl) hg v.be.size (Nat.le_refl _);rw[Nat.zero_add,List.nil_append]at av;(have dx:∀g cs tt,Blk x g tt cs->N.ownBlock≠some g->v'.ownBlock≠some g:=λg cs tt A h e=>dm.elim (λh1=>h (h1.symm.trans e)) (λh1=>by rw[h1]at e;injection e with e;have:=A.lt;omega));exact hK _ _ ⟨b1,true,b5,b6,b8,b9,D,E,F,G,J,H,M,N,(v'),U,V,Y,ad,aa,ab,ac,T,O,P,vc,p,q,r,t,rfl,(by first|(simp only[nr];done)|(simp only[nr];rfl)|rfl),⟨(aq),(λ_ e=>by cases e),v.u1,(λ_=>⟨bw.out,λ_=>av⟩),(λe1 e2=>by obtain⟨g,e,A,h1,-⟩:=v.m5 e1 e2;exact⟨g,e,A.grown hg (h1 rfl),λe=>(by cases e),λ_=>dx _ _ _ A (h1 rfl)⟩),(λe=>absurd (v.m6 e).1 (by simp)),v.m8,v.m9,v.m10,v.m11,v.m12,(λe=>by obtain⟨B,e1,e2,h3⟩:=v.m13 e;exact⟨B,e1,e2,λe=>⟨(h3 e).1.grown hg ((h3 e).2.1 rfl),λe=>(by cases e),λ_ _=>dx _ _ _ (h3 e).1 ((h3 e).2.1 rfl)⟩⟩),v.m14,v.m15⟩⟩ trivial
     ·cases C
     ·have C:b5=false:=C;subst C;injection I with I;subst I;(have f6:b6=false:=by cases A:b6 with|false=>rfl|true=>exact absurd (h.m6 A).2.1 (by simp));have ct:=hid f6;refine⟨rfl,λK hK=> ?_⟩;have v:=hid h;clear h hd;subst hA;simp only[nr];(go_wp2_with fail);exact hK _ _ ⟨b1,b3,true,b6,b8,b9,D,E,F,G,J,H,M,N,Q,(.slice (some ⟨x.heap.size,0,none⟩) 1 1),V,Y,ad,aa,ab,ac,T,O,P,vc,p,q,r,t,rfl,(by simp only[nr]),⟨(v.be.alloc v.be.size _),(λe1 e2=>(v.m1 e1 e2).alloc _),v.u1,(λe=>⟨(v.m3 e).1,λe2=>((v.m3 e).2 e2).alloc _⟩),(λ_ _=>⟨_,rfl,Blk.new _ _ _,λe3 e=>by cases A:b1 with|false=>rw[v.u1 A]at e;cases e|true=>have:=((v.m1 A e3).lt _ e).2;omega,λe3 e=>by have:=(((v.m3 e3).2 ct).lt _ e).2;omega⟩),(λe=>absurd (ct.symm.trans e) (by simp)),v.m8,v.m9,v.m10,v.m11,v.m12,(λe=>by obtain⟨B,e1,e2,h3⟩:=v.m13 e;exact⟨B,e1,e2,λe=>⟨(h3 e).1.alloc _,(h3 e).2⟩⟩),v.m14,v.m15⟩⟩ trivial
     ·have C:b6=false:=C;subst C;injection I with I;subst I;have e3:b3=true:=hd ⟨3,.data⟩ (by simp) rfl;have e5:b5=true:=hd ⟨5,.data⟩ (by simp) rfl;have aw:=hid e3;have cp:=hid e5;refine⟨rfl,λK hK=> ?_⟩;have v:=hid h;clear h hd;subst hA;simp only[nr];obtain⟨g5,er,eu,-,gc⟩:=v.m5 cp rfl;subst er;refine zDR (.tmp 78) (.tmp 80) _ rfl underlying22 Tryz.eMeas rfl ((v.m3 aw).2 rfl) rfl (news:=[.string ⟨#[97,103,97,105,110]⟩,.string au,.int .i64 kd,.string tg,.int .i64 op,.string nm,.int .i64 cm,.int .i64 nu,.slice FA kl R,.int .i64 fr,.int .i64 un,.int .i64 wi]) rfl (zNR (cs:=[.string ⟨#[97,103,97,105,110]⟩,.string au,.int .i64 kd,.string tg,.int .i64 op,.string nm,.int .i64 cm,.int .i64 nu,.slice FA kl R,.int .i64 fr,.int .i64 un,.int .i64 wi]) eu) (by simp[Value.oneCell']) (by unfold maxLen;omega) (by omega) v.be.size ?_;intro v' x' av hg dm;have aq:=zAs v.be ((v.m3 aw).2 rfl) hg v.be.size (Nat.le_refl _);exact hK _ _ ⟨b1,b3,b5,true,b8,b9,D,E,F,G,J,H,M,N,Q,(.slice (some ⟨g5,0,none⟩) 1 1),(v'),Y,ad,aa,ab,ac,T,O,P,vc,p,q,r,t,rfl,(by first|(simp only[nr];done)|(simp only[nr];rfl)|rfl),⟨(aq),(λ_ e=>absurd (aw.symm.trans e) (by simp)),v.u1,(λe=>⟨(v.m3 e).1,λe=>by cases e⟩),(λ_ e=>by cases e),(λ_=>⟨aw.out,cp.out,λ_=>av⟩),(λe=>absurd (v.m8 e).1 (by simp)),v.m9,v.m10,v.m11,v.m12,(λe=>by obtain⟨B,e1,e2,h3⟩:=v.m13 e;exact⟨B,e1,e2,λe=>⟨(h3 e).1.grown hg ((h3 e).2.2 aw rfl),λe=>absurd (aw.symm.trans e) (by simp),λ_ e=>by cases e⟩⟩),v.m14,v.m15⟩⟩ trivial
     ·cases C
     ·have C:b8=false:=C;subst C;injection I with I;subst I;have e6:b6=true:=hd ⟨6,.data⟩ (by simp) rfl;(have f9:b9=false:=by cases A:b9 with|false=>rfl|true=>exact absurd (h.m9 A).1 (by simp));(have ep:D=false:=by cases A:D with|false=>rfl|true=>exact absurd ((h.m10 A).1.symm.trans f9) (by simp));subst f9 ep;have af:=hid e6;refine⟨rfl,λK hK=> ?_⟩;have v:=hid h;clear h hd;subst hA;simp only[nr];obtain⟨RA,ea,es,-,-,-⟩:=Row.of_own ((v.m6 af).2.2 rfl) (by decide);subst es;have cy:=hid ((v.m6 af).2.2 rfl);have aq:=v.be;have ap:=hid (zC b0 aq);have eb:=hid (zOE (Z:=λb=>b<x.heap.size) (w:=x) (l:=l++[m2]) (csl:=bh++[[.string ⟨#[97,103,97,105,110]⟩,.string au,.int .i64 kd,.string tg,.int .i64 op,.string nm,.int .i64 cm,.int .i64 nu,.slice FA kl R,.int .i64 fr,.int .i64 un,.int .i64 wi]]) (by simpa using cy.out) (ec.imp λcs f C=>zBs.mono (zBs.keep C (.of_below_lt ap λb _ A=>HZ b A)) λb A=>Nat.lt_of_lt_of_le (HZ b A) ap.size) (by rw[List.length_append];simp;omega) (λb A=>(cy.lt b A).2));(go_wp2_with fail);refine(zFO (λb=>b<x.heap.size) _ _ _ _ _ _ l (l++[m2]) s x (zn.mono (cw _ ap) λb A=>Nat.lt_of_lt_of_le (HZ b A) ap.size) eb ((de _ ap).mono λb A=>Nat.lt_of_lt_of_le (HZ b A) ap.size) (λb A=>A) bx (λm hm=>(List.mem_append.1 hm).elim (λh=>bx m h) (λh=>by obtain rfl:=List.mem_singleton.1 h;exact ed)) (df _ ap)).mono ?_;rintro e x' ⟨wc,p',q',r',t',rfl,ev,ch,ci,A⟩;rw[ef.out]at ch ci⊢;obtain⟨C1,C2,hw,-⟩:=ev.form;obtain⟨P1,P2,e0,-⟩:=ch.at_.1.form;obtain⟨P3,P4,e4,-⟩:=ch.at_.2.form;obtain⟨P5,P6,e7,-⟩:=ci.at_.1.form;obtain⟨P7,P8,fb,-⟩:=ci.at_.2.form;have dy:=And.intro (show Sl wc from⟨_,_,_,hw⟩) (And.intro (show Sl p' from⟨_,_,_,e0⟩) (And.intro (show Sl q' from⟨_,_,_,e4⟩) (And.intro (show Sl r' from⟨_,_,_,e7⟩) (show Sl t' from⟨_,_,_,fb⟩))));simp only[zKX];exact hK _ _ ⟨b1,b3,b5,b6,true,false,false,E,F,G,J,H,M,N,Q,U,(.slice RA (l.length+1) ea),(.tuple #[.agg (zXW X.1 wc p' q' r' t'),.bool X.2.1,.int .i64 X.2.2]),ad,aa,ab,ac,T,O,P,wc,p',q',r',t',rfl,(by simp only[nr,zXW,List.length_cons,List.length_nil,Nat.reduceAdd]<;>rfl),⟨(aq.trans (A.mono aq.size)),(λ_ e=>absurd ((v.m6 af).1.symm.trans e) (by simp)),v.u1,(λe=>⟨(v.m3 e).1,λe=>absurd (af.symm.trans e) (by simp)⟩),(λ_ e=>absurd (af.symm.trans e) (by simp)),(λe=>⟨(v.m6 e).1,(v.m6 e).2.1,λe=>by cases e⟩),(λ_=>⟨af.out,rfl,dy⟩),(λe=>by cases e),(λe=>by cases e),v.m11,v.m12,(λe=>by obtain⟨B,e1,e2,h3⟩:=v.m13 e;exact⟨B,e1,e2,λe=>⟨(h3 e).1.below A (h3 e).1.lt,(h3 e).2⟩⟩),(λe=>absurd (v.m14 e).1 (by simp)),v.m15⟩⟩ trivial
     ·have C:b9=false:=C;subst C;injection I with I;subst I;have e8:b8=true:=hd ⟨8,.data⟩ (by simp) rfl;obtain⟨-,rfl,-⟩:=h.m8 e8;have HM:=hid e8;refine⟨rfl,λK hK=> ?_⟩;have v:=hid h;clear h hd;subst hA;simp only[nr];(go_wp2_with fail);exact hK _ _ ⟨b1,b3,b5,b6,b8,true,D,E,F,G,J,H,M,N,Q,U,V,(.tuple #[.agg (zXW X.1 vc p q r t),.bool X.2.1,.int .i64 X.2.2]),(.tuple #[.agg (zXW X.1 vc p q r t),.bool X.2.1,.int .i64 X.2.2]),aa,ab,ac,T,O,P,vc,p,q,r,t,rfl,(by simp only[nr]),⟨v.be,v.m1,v.u1,v.m3,v.m5,v.m6,(λe=>⟨(v.m8 e).1,rfl,(v.m8 e).2.2⟩),(λ_=>⟨HM.out,rfl⟩),(λe=>⟨rfl,(v.m10 e).2⟩),v.m11,v.m12,v.m13,v.m14,v.m15⟩⟩ trivial
     ·have C:D=false:=C;subst C;injection I with I;subst I;have e9:b9=true:=hd ⟨9,.data⟩ (by simp) rfl;obtain⟨-,rfl⟩:=h.m9 e9;have HM:=hid e9;refine⟨rfl,λK hK=> ?_⟩;have v:=hid h;clear h hd;subst hA;simp only[nr];(go_wp2_with fail);exact hK _ _ ⟨b1,b3,b5,b6,b8,b9,true,E,F,G,J,H,M,N,Q,U,V,Y,(.tuple #[.agg (zXW X.1 vc p q r t),.bool X.2.1,.int .i64 X.2.2]),(.agg (zXW X.1 vc p q r t)),ab,ac,T,O,P,vc,p,q,r,t,rfl,(by simp only[nr]),⟨v.be,v.m1,v.u1,v.m3,v.m5,v.m6,v.m8,(λe=>⟨(v.m9 e).1,rfl⟩),(λ_=>⟨HM.out,rfl⟩),v.m11,v.m12,v.m13,v.m14,v.m15⟩⟩ trivial
     ·have C:E=false:=C;subst C;injection I with I;subst I;have e9:b9=true:=hd ⟨9,.data⟩ (by simp) rfl;obtain⟨-,rfl⟩:=h.m9 e9;have HM:=hid e9;refine⟨rfl,λK hK=> ?_⟩;have v:=hid h;clear h hd;subst hA;simp only[nr];(go_wp2_with fail);exact hK _ _ ⟨b1,b3,b5,b6,b8,b9,D,true,F,G,J,H,M,N,Q,U,V,Y,(.tuple #[.agg (zXW X.1 vc p q r t),.bool X.2.1,.int .i64 X.2.2]),aa,(.bool X.2.1),ac,T,O,P,vc,p,q,r,t,rfl,(by simp only[nr]),⟨v.be,v.m1,v.u1,v.m3,v.m5,v.m6,v.m8,(λe=>⟨(v.m9 e).1,rfl⟩),v.m10,(λ_=>rfl),v.m12,v.m13,v.m14,v.m15⟩⟩ trivial
     ·have C:F=false:=C;subst C;injection I with I;subst I;have e9:b9=true:=hd ⟨9,.data⟩ (by simp) rfl;obtain⟨-,rfl⟩:=h.m9 e9;have HM:=hid e9;refine⟨rfl,λK hK=> ?_⟩;have v:=hid h;clear h hd;subst hA;simp only[nr];(go_wp2_with fail);exact hK _ _ ⟨b1,b3,b5,b6,b8,b9,D,E,true,G,J,H,M,N,Q,U,V,Y,(.tuple #[.agg (zXW X.1 vc p q r t),.bool X.2.1,.int .i64 X.2.2]),aa,ab,(.int .i64 X.2.2),T,O,P,vc,p,q,r,t,rfl,(by simp only[nr]),⟨v.be,v.m1,v.u1,v.m3,v.m5,v.m6,v.m8,(λe=>⟨(v.m9 e).1,rfl⟩),v.m10,v.m11,(λ_=>rfl),v.m13,v.m14,v.m15⟩⟩ trivial
     ·have C:G=false:=C;subst C;injection I with I;subst I;refine⟨rfl,λK hK=> ?_⟩;have v:=hid h;clear h hd;subst hA;simp only[nr];(go_wp2_with fail);exact hK _ _ ⟨b1,b3,b5,b6,b8,b9,D,E,F,true,J,H,M,N,Q,U,V,Y,ad,aa,ab,ac,(.pointer (some ⟨x.heap.size,0,none⟩)),O,P,vc,p,q,r,t,rfl,(by simp only[nr]),⟨(v.be.alloc v.be.size _),(λe1 e2=>(v.m1 e1 e2).alloc _),v.u1,(λe=>⟨(v.m3 e).1,λe2=>((v.m3 e).2 e2).alloc _⟩),(λe1 e2=>by obtain⟨g,e,hg,h⟩:=v.m5 e1 e2;exact⟨g,e,hg.alloc _,h⟩),(λe=>⟨(v.m6 e).1,(v.m6 e).2.1,λe2=>((v.m6 e).2.2 e2).alloc _⟩),v.m8,v.m9,v.m10,v.m11,v.m12,(λ_=>⟨_,rfl,v.be.size,λ_=>⟨Blk.new _ _ _,λe3 e=>by cases A:b1 with|false=>rw[v.u1 A]at e;cases e|true=>have:=((v.m1 A e3).lt _ e).2;omega,λe3 e6 e=>by have:=(((v.m3 e3).2 e6).lt _ e).2;omega⟩⟩),(λe=>absurd (v.m14 e).2 (by simp)),v.m15⟩⟩ trivial
     ·have C:J=false:=C;subst C;injection I with I;subst I;have dk:G=true:=hd ⟨13,.data⟩ (by simp) rfl;have em:D=true:=hd ⟨10,.data⟩ (by simp) rfl;have e8:b8=true:=hd ⟨8,.chain⟩ (by simp) rfl;obtain⟨B,rfl,et,h3⟩:=h.m13 dk;have H3:=hid h3;clear h3;obtain⟨e6,-,⟨A1,n1,y1,rfl⟩,⟨A2,n2,y2,rfl⟩,⟨A3,n3,y3,rfl⟩,⟨A4,n4,y4,rfl⟩,⟨A5,n5,y5,rfl⟩⟩:=h.m8 e8;obtain⟨-,rfl⟩:=h.m10 em;have af:=hid e6;have cq:=hid e8;have co:=hid dk;refine⟨rfl,λK hK=> ?_⟩;have v:=hid h;clear h hd;subst hA;simp only[nr];obtain⟨hB,-,-⟩:=H3 rfl;have cn:=hid hB;clear hB;obtain⟨c0,ft,c1,fu,c2,fv,c3,fw,c4,fx,c5,fy,c6,fz,c7,f0,c8,f1,cl⟩:=cn.out.d9;simp only[zXW];(go_wp2_with fail);have hk:=(zTy [.int .i64 X.1.signed,.int .i64 X.1.now,.slice A1 n1 y1,.int .i64 X.1.a.kind,.slice A2 n2 y2,.slice A3 n3 y3,.int .i64 X.1.b.kind,.slice A4 n4 y4,.slice A5 n5 y5] cn rfl).2;simp only[World.setCells,Nat.reduceAdd,Nat.zero_add]at hk;exact hK _ _ ⟨b1,b3,b5,b6,b8,b9,D,E,F,G,true,H,M,N,Q,U,V,Y,ad,(.agg (zXW X.1 (.slice A1 n1 y1) (.slice A2 n2 y2) (.slice A3 n3 y3) (.slice A4 n4 y4) (.slice A5 n5 y5))),ab,ac,(.pointer (some ⟨B,0,none⟩)),O,P,(.slice A1 n1 y1),(.slice A2 n2 y2),(.slice A3 n3 y3),(.slice A4 n4 y4),(.slice A5 n5 y5),rfl,(by simp only[nr,zXW,List.length_cons,List.length_nil,Nat.reduceAdd]<;>rfl),⟨(v.be.trans (z8 (hk.mono λb _(A:b<u.heap.size)=>by omega) v.be.size)),(λ_ e=>absurd ((v.m6 af).1.symm.trans e) (by simp)),v.u1,(λe=>⟨(v.m3 e).1,λe=>absurd (af.symm.trans e) (by simp)⟩),(λ_ e=>absurd (af.symm.trans e) (by simp)),(λe=>⟨(v.m6 e).1,(v.m6 e).2.1,λe=>absurd (cq.symm.trans e) (by simp)⟩),v.m8,v.m9,v.m10,v.m11,v.m12,(λ_=>⟨B,rfl,et,λe=>by cases e⟩),(λ_=>⟨cq.out,co⟩),v.m15⟩⟩ trivial
     ·have C:H=false:=C;subst C;injection I with I;subst I;have en:E=true:=hd ⟨11,.data⟩ (by simp) rfl;obtain rfl:=h.m11 en;refine⟨rfl,λK hK=> ?_⟩;have v:=hid h;clear h hd;subst hA;simp only[nr];(go_wp2_with fail);exact hK _ _ ⟨b1,b3,b5,b6,b8,b9,D,E,F,G,J,true,M,N,Q,U,V,Y,ad,aa,(.bool X.2.1),ac,T,(.bool X.2.1),P,vc,p,q,r,t,rfl,(by simp only[nr]),⟨v.be,v.m1,v.u1,v.m3,v.m5,v.m6,v.m8,v.m9,v.m10,(λ_=>rfl),v.m12,v.m13,v.m14,(λ_=>rfl)⟩⟩ trivial
     ·have C:M=false:=C;subst C;injection I with I;subst I;have eo:F=true:=hd ⟨12,.data⟩ (by simp) rfl;obtain rfl:=h.m12 eo;refine⟨rfl,λK hK=> ?_⟩;have v:=hid h;clear h hd;subst hA;simp only[nr];(go_wp2_with fail);exact hK _ _ ⟨b1,b3,b5,b6,b8,b9,D,E,F,G,J,H,true,N,Q,U,V,Y,ad,aa,ab,(.int .i64 X.2.2),T,O,(.int .i64 X.2.2),vc,p,q,r,t,rfl,(by simp only[nr]),⟨v.be,v.m1,v.u1,v.m3,v.m5,v.m6,v.m8,v.m9,v.m10,v.m11,(λ_=>rfl),v.m13,v.m14,v.m15⟩⟩ trivial
    ·exact⟨false,false,false,false,false,false,false,false,false,false,false,false,false,undef,undef,undef,undef,undef,undef,undef,undef,undef,undef,undef,undef,undef,undef,undef,undef,undef,rfl,(by subst hA;simp only[nr]),⟨cb,(λe=>by cases e),λ_=>rfl,(λe=>by cases e),(λe=>by cases e),(λe=>by cases e),(λe=>by cases e),(λe=>by cases e),(λe=>by cases e),(λe=>by cases e),(λe=>by cases e),(λe=>by cases e),(λe=>by cases e),(λe=>by cases e)⟩⟩
end
section
open Go.ChangeShapes Go.WideShapes Go.ChangeAt
theorem zXY(os:Os)(c:os.Started)(H:Type)(enc:TypeId × Value->H):
  ReturnsInHanded {} Tryz.checked os 9 .any (λw args=>(Rows.equalTwiceSpec.pre enc prog Tryz.f9 [] false w args/\laidMetH prog zJW w)/\sizedMet enc prog Tryz.f9 (OpenSpec.ofChange Rows.equalTwiceSpec) false w args)
   (Rows.equalTwiceSpec.post enc prog Tryz.f9 false true false false):=by
 refine returnsInHanded_of_change_and (C:=Tryz.checked) (X:=λw _=>laidMetH prog zJW w) (λ_ _ _ L h=>h.of_heap L) own c (by kernel_rfl) func9
  (ChangeSpec.witness_shaped (enc:=enc) (C:=Tryz.checked) (os:=os) (X:=λw _=>laidMetH prog zJW w) false (World.doorLaid prog 62 os) #[.slice none 0 0,.agg #[.slice none 0 0,.slice none 0 0,.slice none 0 0,.slice none 0 0,.int .i64 0,.int .i64 0],.int .u8 0] 8 rfl (World.shaped_of_RefB (by kernel_rfl) (by kernel_rfl)) (by kernel_rfl) (by kernel_rfl) (by kernel_rfl) (zSa os _)) ?_
 intro W base args s E m b u _ f J _;have a:∀(j:Nat) t v,Tryz.f9.params[j]? =some t->args[j]? =some v->Value.okWide prog W .any base t v:=b;have k:=u;obtain⟨p,q,i,K,rfl,-,-⟩:=u;have n:DataW.TrodAll enc prog W 0 (λ_=>true) true Tryz.f9.params.toList args.toList s p:=i;have d:(DataW.weightsEach prog (Tryz.f9.params.toList++Rows.equalTwiceSpec.plain.varTypes prog) (s++E)).all (· <=reachBytes)=true:=f;clear i f b;obtain⟨rfl,rfl⟩:=trodVars_none K;simp only[List.append_nil]at k;have o:=n;rw[params9]at n a d;obtain⟨T,Y,d0,A,p0,q0,g,rfl,rfl,F,O⟩:=trodAll_cons n;obtain⟨U,Z,d1,B,p1,q1,rfl,rfl,rfl,G,P⟩:=trodAll_cons O;obtain⟨V,aa,d2,D,p2,q2,rfl,rfl,rfl,I,Q⟩:=trodAll_cons P;obtain⟨rfl,rfl,rfl⟩:=trodAll_nil Q;obtain rfl:args=#[T,U,V]:=by simpa using congrArg List.toArray g
 obtain⟨M,x⟩:=zSx (a 0 22 _ rfl rfl) F (zRZ d (j:=0) rfl rfl);obtain⟨vd,va,vz,vc,R,rfl,y⟩:=zRm (a 1 30 _ rfl rfl) G (zRZ d (j:=1) rfl rfl);obtain⟨N,rfl,z⟩:=zXj (a 2 5 _ rfl rfl) I (zRZ d (j:=2) rfl rfl);refine(zXc (zCf W) _ _ _ _ _ M R N W x y z (λ_ h=>h) (zOb J)).mono λe W' ⟨he,hb⟩=> ?_
 subst he;exact⟨_,rfl,zSb k o rfl rfl (by kernel_rfl) (by kernel_rfl) hb⟩
theorem zX1:(Rows.equalTwiceRow.inPlace==prog.inPlace 9)=true:=by kernel_rfl
theorem zXZ:(Rows.equalTwiceRow.unfollowed==prog.unfollowed 9)=true:=by kernel_rfl
theorem zX0:(Rows.equalTwiceRow.recurses==prog.recurses 9)=true:=by kernel_rfl
theorem zX2:(Rows.equalTwiceRow.named==prog.varsNamed 9)=true:=by kernel_rfl
theorem zX3:joinedFacts prog 9 Tryz.f9 Rows.equalTwiceSpec Rows.equalTwiceRow=true:=
 zN6 (by kernel_rfl) laidOut zTi (by kernel_rfl) (by kernel_rfl) rfl zTj rfl zTk zX1 zXZ zX0 zX2 (by kernel_rfl) (by kernel_rfl) (by kernel_rfl) (by kernel_rfl) (by kernel_rfl) rfl (by kernel_rfl) (by kernel_rfl) (by kernel_rfl)
  zUH rfl zTl zTm zTn zUI rfl (by kernel_rfl) (by kernel_rfl) (by kernel_rfl)
theorem zX4:Rows.EqualTwiceSaid:=
 OpenClaim.holds_of_wide 9 Tryz.f9 rfl rfl rfl rfl rfl rfl rfl ⟨rfl,rfl,rfl,rfl,rfl⟩ rfl rfl rfl rfl rfl (by kernel_rfl) func9 zX3
  (of_decide_eq_true (by kernel_rfl)) (by unfold Func.isWrapper;rw[if_neg (of_decide_eq_false (by kernel_rfl))];exact⟨rfl,rfl⟩)
  (λb a H enc _=>zXY b a H enc)
theorem zX7:Rows.equalTwiceRow.wfByText (OpenSpec.ofChange Rows.equalTwiceSpec)=true:=by kernel_rfl
theorem zX8:prog.funcNamed "customhouse/customhouselaw33.EqualTwice" =some 9:=by kernel_rfl
theorem zX5:([22,30,5].all λu=> !prog.wantsStandIn u)=true:=by kernel_rfl
theorem zX6:false=Rows.equalTwiceRow.goesBy Tryz.pinned.checked.prog:=by kernel_rfl
theorem equaltwice_card:Rows.EqualTwiceCardSaid:=
 Claim7.holds_tied_plain_at .later [] [.data,.data,.data,.sentinel,.sentinel] true (true,"b7c691893ac5ffd63a8a77a1c3b8b90599a3d2dc70d51f5bf9900650e53e98a9") true
  zX4 (λ_ h=>by cases h) zX7 (λ_ h=>by cases h) equalTwice_row_tie rfl ⟨rfl,rfl⟩ zUJ rfl
  (λf fn hf hfn=>by
   obtain rfl:f=9:=Option.some.inj (zX8.symm.trans hf) |>.symm;obtain rfl:fn=Tryz.f9:=(Option.some.inj (func9.symm.trans hfn)).symm
   exact⟨zTo,λj t ht=>by
    rw[params9]at ht;have hm:t∈[22,30,5]:=by simpa using Array.mem_of_getElem? ht
    exact(show prog.wantsStandIn t=false by simpa using List.all_eq_true.1 zX5 t hm)⟩)
  zX6
end
end Go.Proofs.YtommaegelgilnaaGreatDoor
