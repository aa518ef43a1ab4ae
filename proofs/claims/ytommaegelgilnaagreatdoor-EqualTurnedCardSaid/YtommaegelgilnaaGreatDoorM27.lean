/- Lemmas. -/
import Derived.Test.YtommaegelgilnaaGreatDoorM23
import Derived.Test.YtommaegelgilnaaGreatDoorM25
set_option linter.all false
namespace Go.Proofs.YtommaegelgilnaaGreatDoor
open Go.RowKit Go.Proofs.Tryz
set_option maxHeartbeats 4000000
set_option maxRecDepth 100000
variable {B O:Nat}{K:zD}{w:World}{xs:List Int}
theorem Tryz.egStarts1:∀args w,(callFunc 223 args).run prog w= .ok (.enter 223 args) w:=enters_of func223 (by kernel_rfl) rfl
theorem Tryz.egStarts2:∀args w,(callFunc 225 args).run prog w= .ok (.enter 225 args) w:=enters_of func225 (by kernel_rfl) rfl
def prs(l:List Int):List Int:=l.flatMap λn=>[n,n+1]
theorem zEn(l m:List Int):prs (l++m)=prs l++prs m:=List.flatMap_append
mutual
theorem zMY(nm:ByteArray):∀f,(prs (zAX nm f)).length <=2*zH f
 | .mk op name _ nu kids=>by
  have h:=zFD nm kids;rw[zAX,zEn,List.length_append,zH];by_cases a:op=3/\name=nm
  ·rw[if_pos a];simp[prs]at h⊢;omega
  rw[if_neg a];simp[prs]at h⊢;omega
theorem zFD(nm:ByteArray):∀l,(prs (zAU nm l)).length <=2*zV l
 |[]=>by simp[zAU,prs]
 |k::r=>by
  have a:=zMY nm k;have b:=zFD nm r;rw[zAU,zEn,List.length_append,zV];omega
end
theorem zFa(nm:ByteArray):∀(l:List Fm)(k:Nat)(b:k<l.length),zAU nm (l.take (k+1))=zAU nm (l.take k)++zAX nm l[k]
 |a::r,0,_=>by simp[zAU]
 |a::r,k+1,b=>by
  have:=zFa nm r k (by simpa using b);simp only[List.take_succ_cons,zAU,List.getElem_cons_succ];rw[this,List.append_assoc]
theorem zLB(nm:ByteArray){n:Int}:∀{l:List Fm},(n∈zAU nm l↔∃k∈l,n∈zAX nm k)
 |[]=>by simp[zAU]
 |a::r=>by rw[zAU,List.mem_append,zLB nm (l:=r)];simp
structure StC (w:World) (X O V B:Nat) (K:zD) (x:zE) (Z:zD):Prop where
 x:Blk w X 106 #[.string x.name,.int .i64 x.kind,.int .i64 x.lo,.int .i64 x.hi]
 v:One w V (.func (.func 223) #[] #[.pointer (some ⟨X,0,none⟩),.pointer (some ⟨O,0,none⟩),.pointer (some ⟨V,0,none⟩)])
 off:∀b,(Z b\/b=X\/b=V)->K b
 o:¬K O
 size:B<=w.heap.size
 live:∀b,K b->b<w.heap.size
def StO(w:World)(O B:Nat)(K:zD)(xs:List Int):Prop:=∃vo,One w O vo/\w.ownsRow B 3 1 vo xs.length (xs.map (.int .i64))/\∀k,vo.ownBlock=some k->¬K k/\k≠O
theorem StC.keep{w w':World}{X O V B:Nat}{x:zE}{Z:zD}(h:StC w X O V B K x Z)(a:zA K w w'):StC w' X O V B K x Z:=
 ⟨h.x.keep a (h.off _ (Or.inr (Or.inl rfl))),h.v.keep a (h.off _ (Or.inr (Or.inr rfl))),h.off,h.o,Nat.le_trans h.size a.size,λb c=>Nat.lt_of_lt_of_le (h.live b c) a.size⟩
theorem StO.alloc(h:StO w O B K xs)(o:Obj):StO (w.alloc o) O B K xs:=by
 obtain⟨d,a,b,c⟩:=h;exact⟨d,a.alloc o,b.alloc o,c⟩
theorem zTe{w q i:World}{O B n:Nat}{v a v0:Value}{xs ys:List Int}{zs:List Value}(t:Bw w q)(u:¬K O)(f:∀b,K b->b<w.heap.size)(E:w.ownsRow B 3 1 v n zs)(g:∀k,v.ownBlock=some k->¬K k/\k≠O)(s:One w O v0)(y:q.grownBy i v.ownBlock)
  (x:a.ownBlock=v.ownBlock\/a.ownBlock=some q.heap.size)(o:i.ownsRow B 3 1 a (xs.length+ys.length) (xs.map (.int .i64)++ys.map (.int .i64))):
  One i O v0/\StO (i.setCell ⟨O,0,none⟩ a) O B K (xs++ys)/\zA K w (i.setCell ⟨O,0,none⟩ a)/\∀b,w.heap.size<=b->b<q.heap.size->(i.setCell ⟨O,0,none⟩ a).heap[b]? =q.heap[b]? :=by
 have D:=s.lt;have j:One i O v0:=(s.below t s.lt).of_block (y.block O (Nat.lt_of_lt_of_le s.lt t.size) λe=>(g O e.symm).2 rfl)
 have m:∀k,a.ownBlock=some k->¬K k/\k≠O:=λk d=>by
  rcases x with h|h
  ·exact g k (h▸d)
  rw[h]at d;injection d with d;have:=t.size;exact⟨λC=>by have:=f k C;omega,by omega⟩
 refine⟨j,⟨a,j.set_ a,?_,m⟩,?_,λb F A=> ?_⟩
 ·have:=zXL (Z:=λc=>c≠O) o ((zA.refl _ _).setCell (p:=⟨O,0,none⟩) (λ_ h=>h rfl) a) (λk d=>(m k d).2);simpa using this
 ·exact((zA.of_below t).grown y (λk d _ z=>(g k d).1 z)).setCell (λ_ z=>u z) _
 exact(Below.heap_setCell _ _ _ _ (by show b≠O;omega)).trans (y.block b A λe=>by have:=(E.lt b e.symm).2;omega)
theorem zRi{g:Nat}{u v:Value}(h:w.cell? ⟨g,0,none⟩=some u)(b:w.cell? ⟨g,1,none⟩=some v):∀j x,[u,v][j]? =some x->w.cell? ⟨g,0+j,none⟩=some x:=λj x a=>by
 match j with
 |0=>simp at a;subst a;simpa using h
 |1=>simp at a;subst a;simpa using b
 |j+2=>simp at a
theorem zOn(X O V B:Nat)(K:zD)(x:zE)(Z:zD):∀(m:Nat)(f:Fm),zH f<=m->∀(cs:List Value)(xs:List Int)(w:World),FmR Z w f cs->xs.length+2*zH f<=4000000->(∀n∈zAX x.name f,0<=n/\n<=1000000)->
  StC w X O V B K x Z->StO w O B K xs->
  Calls prog 223 #[.agg cs.toArray,.pointer (some ⟨X,0,none⟩),.pointer (some ⟨O,0,none⟩),.pointer (some ⟨V,0,none⟩)] w λe w'=>
   e= .returned (.tuple #[])/\StO w' O B K (xs++prs (zAX x.name f))/\zA K w w':=by
 intro m
 induction m with
 |zero=>intro f hm;have:=zCH f;omega
 |succ m ih=>
 intro f hm cs xs w hf ap ar hC H;have eg:=Tryz.egStarts1;have IH:=hid ih;clear ih;obtain⟨op,P,T,G,kids⟩:=f;unfold FmR at hf;obtain⟨_,_,_,_,A,t,rfl,a3,_,a5,ax⟩:=hf;have HS:=hid (zAD.seq ax);clear ax;have I:=zCQ (.mk op P T G kids);simp only[Fm.kids]at I;have a6:kids.length<=4000000:=by have h1:=zCA kids;omega
 have a8:xs.length<=4000000:=by omega
 have HL:=hid (And.intro hm (And.intro ap I));have aq:=hid (λk(hk:k∈kids) n(hn:n∈zAX x.name k)=>ar n (by rw[zAX];exact List.mem_append_right _ ((zLB _).2 ⟨k,hk,hn⟩)));have av:op=3/\P=x.name->0<=G/\G<=1000000:=λh=>ar G (by rw[zAX,if_pos h];simp)
 have HT:=hid (show zAX x.name (.mk op P T G kids)=(if op=3/\P=x.name then[G]else[])++zAU x.name kids from by rw[zAX]);obtain⟨vo,R,N,ak⟩:=H;have v1:=hC.v.cell;have v2:=hC.v.lt;have o1:=R.cell;have o2:=R.lt;have x1:=hC.x.at0;have x2:=hC.x.lt;have HC:=hid hC;have a4:=hC.size;clear hm ap I ar;by_cases hT:op=3/\P=x.name
 ·obtain⟨rfl,rfl⟩:=hT;obtain⟨au,a7⟩:=av ⟨rfl,rfl⟩;rw[if_pos ⟨rfl,rfl⟩]at HT;obtain⟨A0,a2,rfl,-,-,-⟩:=Row.of_own N (by decide);have ai:=hid (And.intro R (And.intro N ak));clear R N ak av hC;go_enter func223,ntmps223
  go_upto_region 3 with(at_builtin;refine zh rfl (.tmp 17) (.tmp 23) _ rfl underlying33 Tryz.eInt rfl ((ai.2.1.alloc _).alloc _) rfl (news:=[.int .i64 G,.int .i64 (G+1)]) rfl (zRi (by simp) (by simp)) (by simp[Value.oneCell']) (by unfold maxLen;omega) (by omega) (by simp;omega) ?_;intro v5 w5 Q aw ao;obtain⟨g5,ab,a1⟩:=zBc (n:=xs.length+1) Q;subst a1;have ae:=zTe (ys:=[G,G+1]) (zCX w _ _) HC.o HC.live ai.2.1 ai.2.2 ai.1 aw ao Q;have d0:=ae.1.cell;have d1:=ae.1.free;have d2:=ae.1.lt;have HX:=hid ae.2;clear Q aw ao ae)
  have aj:=hid (show StO (w5.setCell ⟨O,0,none⟩ (.slice (some ⟨g5,0,none⟩) (xs.length+1+1) ab)) O B K (xs++prs [G]) from HX.1);have ah:=hid HX.2.1
  have c4:(w5.setCell ⟨O,0,none⟩ (.slice (some ⟨g5,0,none⟩) (xs.length+1+1) ab)).cell? ⟨w.heap.size,4,none⟩=some (.slice A kids.length t):=by
   rw[World.cell?_of_block (a:=⟨w.heap.size,4,none⟩) (HX.2.2 w.heap.size (Nat.le_refl _) (by simp;omega))];exact((Blk.new w 52 #[.int .i64 3,.string x.name,.int .i64 T,.int .i64 G,.slice A kids.length t]).alloc _).cell 4
  clear HX d0 d1 d2;generalize (w5.setCell ⟨O,0,none⟩ (.slice (some ⟨g5,0,none⟩) (xs.length+1+1) ab))=W at*;have ag:=hid (show(prs [G]).length <=2 from by simp[prs]);generalize [G]=q at*;have aa:=lt_of_cell c4;clear v1 v2 x1 x2;go_wp2;go_loopw[28] (λi wr=>∃k:Nat,k<=kids.length/\i= .int .i64 k/\StO wr O B K (xs++prs (q++zAU x.name (kids.take k)))/\zA K w wr) (λi _=>kids.length-(intOf i).toNat);case atStart=>exact⟨0,Nat.zero_le _,rfl,by simpa[zAU]using aj.out,ah⟩
  case round=>
   clear c4 aa;obtain⟨k,hk,rfl,H,c⟩:=hrel;by_cases d:k<kids.length
   ·obtain⟨b,af,cs,rfl,hz,L,E⟩:=HS.at_ d;have F:zA Z w wr:=c.mono (λb _ hb=>HC.off b (Or.inl hb));have z:=FmR.keep F _ _ E;have HF:=hid z;obtain⟨A',al,rfl⟩:=FmR.form E;have s:=HC.keep c
    have y:(xs++prs (q++zAU x.name (kids.take k))).length +2*zH kids[k]<=4000000:=by
     have ay:=zBX d;have az:=zB3 kids (k+1);have h1:=zFD x.name (kids.take k);have h2:=HL.out;have h3:=ag.out;rw[List.length_append,zEn,List.length_append];omega
    have ac:=zBz d;have ad:=HL.1;have I:=HL.2.2;clear E z;obtain⟨c0,c1,c2,c3,c4⟩:=zAL (λj u hu=>F.cell (p:=⟨b,af+k*5+j,none⟩) hz (L j u hu));clear L;have cl:=lt_of_cell c0;have v1:=s.v.cell;have v2:=s.v.lt;have C:=hid (λo=>IH kids[k] (by omega) _ _ (wr.alloc o) (FmR.keep ((zA.refl Z wr).alloc o) _ _ HF) y (aq kids[k] (List.getElem_mem d)) (s.keep ((zA.refl _ _).alloc o)) (H.alloc o));have Y:=hid (show xs++prs (q++zAU x.name (kids.take (k+1)))=xs++prs (q++zAU x.name (kids.take k))++prs (zAX x.name kids[k]) from by rw[zFa _ _ _ d,<-List.append_assoc,zEn (q++_),List.append_assoc]);have D:=hid c;clear H c s F y ac ad I;generalize kids[k]=g at*;(go_wp2_with fail);refine(C _).mono ?_;rintro e w1 ⟨rfl,J,M⟩;have H9:=hid (And.intro J (D.trans (((zA.refl _ _).alloc _).trans M)));clear J M;go_wp2;go_roundw;(case rel=>exact⟨k+1,by omega,by go_num,by rw[Y.out];exact H9.1,H9.2⟩);case measure=>simp[intOf];omega
   (obtain rfl:k=kids.length:=by omega);rw[List.take_length]at H;have U:=hid H;have D:=hid c;clear H c;go_wp2;go_end0;refine⟨rfl,?_,D⟩;rw[HT.out];exact U.out
 rw[if_neg hT]at HT
 have aj:=hid (show StO (w.alloc (.cells #[.int .i64 op,.string P,.int .i64 T,.int .i64 G,.slice A kids.length t] 52)) O B K (xs++prs []) from by
  have:=StO.alloc (O:=O) (B:=B) (K:=K) (xs:=xs) (w:=w) ⟨vo,R,N,ak⟩ (.cells #[.int .i64 op,.string P,.int .i64 T,.int .i64 G,.slice A kids.length t] 52)
  simpa[prs]using this)
 have ah:=hid (show zA K w (w.alloc (.cells #[.int .i64 op,.string P,.int .i64 T,.int .i64 G,.slice A kids.length t] 52)) from(zA.refl _ _).alloc _);have ag:=hid (show(prs ([]:List Int)).length <=2 from by simp[prs]);have a0:=hid hT;generalize ([]:List Int)=q at*;clear R N ak av hC o1 o2 hT;go_enter func223,ntmps223
 by_cases h3:op=3
 ·have au:P≠x.name:=λh=>a0 ⟨h3,h⟩
  have hn:(P.toList==x.name.toList)=false:=by rw[zBK];simp[au]
  clear au;subst h3;go_upto_region 3 with fail
  have c4:(w.alloc (.cells #[.int .i64 3,.string P,.int .i64 T,.int .i64 G,.slice A kids.length t] 52)).cell? ⟨w.heap.size,4,none⟩=some (.slice A kids.length t):=(Blk.new w 52 #[.int .i64 3,.string P,.int .i64 T,.int .i64 G,.slice A kids.length t]).cell 4;generalize (w.alloc _)=W at*;have aa:=lt_of_cell c4;clear v1 v2 x1 x2;go_wp2;go_loopw[28] (λi wr=>∃k:Nat,k<=kids.length/\i= .int .i64 k/\StO wr O B K (xs++prs (q++zAU x.name (kids.take k)))/\zA K w wr) (λi _=>kids.length-(intOf i).toNat);case atStart=>exact⟨0,Nat.zero_le _,rfl,by simpa[zAU]using aj.out,ah⟩
  case round=>
   clear c4 aa;obtain⟨k,hk,rfl,H,c⟩:=hrel;by_cases d:k<kids.length
   ·obtain⟨b,af,cs,rfl,hz,L,E⟩:=HS.at_ d;have F:zA Z w wr:=c.mono (λb _ hb=>HC.off b (Or.inl hb));have z:=FmR.keep F _ _ E;have HF:=hid z;obtain⟨A',al,rfl⟩:=FmR.form E;have s:=HC.keep c
    have y:(xs++prs (q++zAU x.name (kids.take k))).length +2*zH kids[k]<=4000000:=by
     have ay:=zBX d;have az:=zB3 kids (k+1);have h1:=zFD x.name (kids.take k);have h2:=HL.out;have h3:=ag.out;rw[List.length_append,zEn,List.length_append];omega
    have ac:=zBz d;have ad:=HL.1;have I:=HL.2.2;clear E z;obtain⟨c0,c1,c2,c3,c4⟩:=zAL (λj u hu=>F.cell (p:=⟨b,af+k*5+j,none⟩) hz (L j u hu));clear L;have cl:=lt_of_cell c0;have v1:=s.v.cell;have v2:=s.v.lt;have C:=hid (λo=>IH kids[k] (by omega) _ _ (wr.alloc o) (FmR.keep ((zA.refl Z wr).alloc o) _ _ HF) y (aq kids[k] (List.getElem_mem d)) (s.keep ((zA.refl _ _).alloc o)) (H.alloc o));have Y:=hid (show xs++prs (q++zAU x.name (kids.take (k+1)))=xs++prs (q++zAU x.name (kids.take k))++prs (zAX x.name kids[k]) from by rw[zFa _ _ _ d,<-List.append_assoc,zEn (q++_),List.append_assoc]);have D:=hid c;clear H c s F y ac ad I;generalize kids[k]=g at*;(go_wp2_with fail);refine(C _).mono ?_;rintro e w1 ⟨rfl,J,M⟩;have H9:=hid (And.intro J (D.trans (((zA.refl _ _).alloc _).trans M)));clear J M;go_wp2;go_roundw;(case rel=>exact⟨k+1,by omega,by go_num,by rw[Y.out];exact H9.1,H9.2⟩);case measure=>simp[intOf];omega
   (obtain rfl:k=kids.length:=by omega);rw[List.take_length]at H;have U:=hid H;have D:=hid c;clear H c;go_wp2;go_end0;refine⟨rfl,?_,D⟩;rw[HT.out];exact U.out
 go_upto_region 3 with fail
 have c4:(w.alloc (.cells #[.int .i64 op,.string P,.int .i64 T,.int .i64 G,.slice A kids.length t] 52)).cell? ⟨w.heap.size,4,none⟩=some (.slice A kids.length t):=(Blk.new w 52 #[.int .i64 op,.string P,.int .i64 T,.int .i64 G,.slice A kids.length t]).cell 4;generalize (w.alloc _)=W at*;have aa:=lt_of_cell c4;clear v1 v2 x1 x2;go_wp2;go_loopw[28] (λi wr=>∃k:Nat,k<=kids.length/\i= .int .i64 k/\StO wr O B K (xs++prs (q++zAU x.name (kids.take k)))/\zA K w wr) (λi _=>kids.length-(intOf i).toNat);case atStart=>exact⟨0,Nat.zero_le _,rfl,by simpa[zAU]using aj.out,ah⟩
 case round=>
  clear c4 aa;obtain⟨k,hk,rfl,H,c⟩:=hrel;by_cases d:k<kids.length
  ·obtain⟨b,af,cs,rfl,hz,L,E⟩:=HS.at_ d;have F:zA Z w wr:=c.mono (λb _ hb=>HC.off b (Or.inl hb));have z:=FmR.keep F _ _ E;have HF:=hid z;obtain⟨A',al,rfl⟩:=FmR.form E;have s:=HC.keep c
   have y:(xs++prs (q++zAU x.name (kids.take k))).length +2*zH kids[k]<=4000000:=by
    have ay:=zBX d;have az:=zB3 kids (k+1);have h1:=zFD x.name (kids.take k);have h2:=HL.out;have h3:=ag.out;rw[List.length_append,zEn,List.length_append];omega
   have ac:=zBz d;have ad:=HL.1;have I:=HL.2.2;clear E z;obtain⟨c0,c1,c2,c3,c4⟩:=zAL (λj u hu=>F.cell (p:=⟨b,af+k*5+j,none⟩) hz (L j u hu));clear L;have cl:=lt_of_cell c0;have v1:=s.v.cell;have v2:=s.v.lt;have C:=hid (λo=>IH kids[k] (by omega) _ _ (wr.alloc o) (FmR.keep ((zA.refl Z wr).alloc o) _ _ HF) y (aq kids[k] (List.getElem_mem d)) (s.keep ((zA.refl _ _).alloc o)) (H.alloc o));have Y:=hid (show xs++prs (q++zAU x.name (kids.take (k+1)))=xs++prs (q++zAU x.name (kids.take k))++prs (zAX x.name kids[k]) from by rw[zFa _ _ _ d,<-List.append_assoc,zEn (q++_),List.append_assoc]);have D:=hid c;clear H c s F y ac ad I;generalize kids[k]=g at*;(go_wp2_with fail);refine(C _).mono ?_;rintro e w1 ⟨rfl,J,M⟩;have H9:=hid (And.intro J (D.trans (((zA.refl _ _).alloc _).trans M)));clear J M;go_wp2;go_roundw;(case rel=>exact⟨k+1,by omega,by go_num,by rw[Y.out];exact H9.1,H9.2⟩);case measure=>simp[intOf];omega
  obtain rfl:k=kids.length:=by omega
  rw[List.take_length]at H;have U:=hid H;have D:=hid c;clear H c;go_wp2;go_end0;refine⟨rfl,?_,D⟩;rw[HT.out];exact U.out
end Go.Proofs.YtommaegelgilnaaGreatDoor
