/- Texts W30 W31 W32 W33. -/
import Derived.Test.YthpocbeoanipbaaGreatDoorM17
import Derived.Test.YthpocbeoanipbaaGreatDoorM20
import Derived.Lib.OwnBridge
import Derived.Sort.OwnSortedInts
set_option linter.all false
namespace Go.Proofs.YthpocbeoanipbaaGreatDoor
open Go.RowKit Go.Proofs.Tryz
set_option maxHeartbeats 4000000
set_option maxRecDepth 100000
variable{B O b base cap g n:Nat}{K Z:zE}{bs:List Value}{e:TypeId}{w w':World}{x:zC}{xs ys zs:List Int}
theorem Tryz.egStarts1:∀args w,(callFunc 139 args).run prog w= .ok (.enter 139 args) w:=enters_of func139 (by kernel_rfl) rfl
theorem Tryz.egStarts2:∀args w,(callFunc 141 args).run prog w= .ok (.enter 141 args) w:=enters_of func141 (by kernel_rfl) rfl
def prs(l:List Int):List Int:=l.flatMap λn=>[n,n+1]
theorem zEy(l m:List Int):prs (l++m)=prs l++prs m:=List.flatMap_append
mutual
theorem zNb(nm:ByteArray):∀f,(prs (zAJ nm f)).length <=2*zG f
 | .mk op name _ nu kids=>by
  have h:=zFZ nm kids;rw[zAJ,zEy,List.length_append,zG];by_cases a:op=3/\name=nm
  ·rw[if_pos a];simp[prs]at h⊢;omega
  ·rw[if_neg a];simp[prs]at h⊢;omega
theorem zFZ(nm:ByteArray):∀l,(prs (zAF nm l)).length <=2*zM l
 |[]=>by simp[zAF,prs]
 |k::r=>by
  have a:=zNb nm k;have b:=zFZ nm r;rw[zAF,zEy,List.length_append,zM];omega
end
theorem zGB(nm:ByteArray):∀(l:List Fm)(k:Nat)(b:k<l.length),zAF nm (l.take (k+1))=zAF nm (l.take k)++zAJ nm l[k]
 |a::r,0,_=>by simp[zAF]
 |a::r,k+1,b=>by
  have:=zGB nm r k (by simpa using b);simp only[List.take_succ_cons,zAF,List.getElem_cons_succ];rw[this,List.append_assoc]
theorem zMP(nm:ByteArray){n:Int}:∀{l:List Fm},(n∈zAF nm l↔∃k∈l,n∈zAJ nm k)
 |[]=>by simp[zAF]
 |a::r=>by rw[zAF,List.mem_append,zMP nm (l:=r)];simp
structure StC (w:World) (X O V B:Nat) (K:zE) (x:zC) (Z:zE):Prop where
 x:Blk w X 67 #[.string x.name,.int .i64 x.kind,.int .i64 x.lo,.int .i64 x.hi]
 v:One w V (.func (.func 139) #[] #[.pointer (some ⟨X,0,none⟩),.pointer (some ⟨O,0,none⟩),.pointer (some ⟨V,0,none⟩)])
 off:∀b,(Z b\/b=X\/b=V)->K b
 o:¬K O
 size:B<=w.heap.size
 live:∀b,K b->b<w.heap.size
def StO(w:World)(O B:Nat)(K:zE)(xs:List Int):Prop:=∃vo,One w O vo/\w.ownsRow B 3 1 vo xs.length (xs.map (.int .i64))/\∀k,vo.ownBlock=some k->¬K k/\k≠O
theorem StC.keep{X O V B:Nat}(h:StC w X O V B K x Z)(a:zA K w w'):StC w' X O V B K x Z:=
 ⟨h.x.keep a (h.off _ (Or.inr (Or.inl rfl))),h.v.keep a (h.off _ (Or.inr (Or.inr rfl))),h.off,h.o,Nat.le_trans h.size a.size,λb c=>Nat.lt_of_lt_of_le (h.live b c) a.size⟩
theorem StO.alloc(h:StO w O B K xs)(o:Obj):StO (w.alloc o) O B K xs:=by
 obtain⟨d,a,b,c⟩:=h;exact⟨d,a.alloc o,b.alloc o,c⟩
theorem zVF{w q i:World}{v a v0:Value}{F:List Value}(t:Bw w q)(u:¬K O)(f:∀b,K b->b<w.heap.size)(E:w.ownsRow B 3 1 v n F)(g:∀k,v.ownBlock=some k->¬K k/\k≠O)(s:One w O v0)(y:q.grownBy i v.ownBlock)
  (x:a.ownBlock=v.ownBlock\/a.ownBlock=some q.heap.size)(o:i.ownsRow B 3 1 a (xs.length+ys.length) (xs.map (.int .i64)++ys.map (.int .i64))):
  One i O v0/\StO (i.setCell ⟨O,0,none⟩ a) O B K (xs++ys)/\zA K w (i.setCell ⟨O,0,none⟩ a)/\∀b,w.heap.size<=b->b<q.heap.size->(i.setCell ⟨O,0,none⟩ a).heap[b]? =q.heap[b]? :=by
 have D:=s.lt;have j:One i O v0:=(s.below t s.lt).of_block (y.block O (Nat.lt_of_lt_of_le s.lt t.size) λe=>(g O e.symm).2 rfl)
 have m:∀k,a.ownBlock=some k->¬K k/\k≠O:=λk d=>by
  rcases x with h|h
  ·exact g k (h▸d)
  ·rw[h]at d;injection d with d;have:=t.size;exact⟨λC=>by have:=f k C;omega,by omega⟩
 refine⟨j,⟨a,j.set_ a,?_,m⟩,?_,λb G A=> ?_⟩
 ·have:=zX (Z:=λc=>c≠O) o ((zA.refl _ _).setCell (p:=⟨O,0,none⟩) (λ_ h=>h rfl) a) (λk d=>(m k d).2);simpa using this
 ·exact((zA.of_below t).grown y (λk d _ z=>(g k d).1 z)).setCell (λ_ z=>u z) _
 ·exact(Below.heap_setCell _ _ _ _ (by show b≠O;omega)).trans (y.block b A λe=>by have:=(E.lt b e.symm).2;omega)
theorem zTE{u v:Value}(h:w.cell? ⟨g,0,none⟩=some u)(b:w.cell? ⟨g,1,none⟩=some v):∀j x,[u,v][j]? =some x->w.cell? ⟨g,0+j,none⟩=some x:=λj x a=>by
 match j with
 |0=>simp at a;subst a;simpa using h
 |1=>simp at a;subst a;simpa using b
 |j+2=>simp at a
theorem zPw(X O V B:Nat)(K:zE)(x:zC)(Z:zE):∀(m:Nat)(f:Fm),zG f<=m->∀(cs:List Value)(xs:List Int)(w:World),FmR Z w f cs->xs.length+2*zG f<=4000000->(∀n∈zAJ x.name f,0<=n/\n<=1000000)->
  StC w X O V B K x Z->StO w O B K xs->
  Calls prog 139 #[.agg cs.toArray,.pointer (some ⟨X,0,none⟩),.pointer (some ⟨O,0,none⟩),.pointer (some ⟨V,0,none⟩)] w λe w'=>
   e= .returned (.tuple #[])/\StO w' O B K (xs++prs (zAJ x.name f))/\zA K w w':=by
 intro m
 induction m with
 |zero=>intro f hm;have:=zBk f;omega
 |succ m ih=>
 intro f hm cs xs w hf ao aq hC G;have eg:=Tryz.egStarts1;have IH:=hid ih;clear ih;obtain⟨op,N,R,F,kids⟩:=f;unfold FmR at hf;obtain⟨_,_,_,_,A,cap,rfl,a2,_,a4,aw⟩:=hf;have HS:=hid (zi.seq aw);clear aw;have H:=zBy (.mk op N R F kids);simp only[Fm.kids]at H;have a5:kids.length<=4000000:=by have h1:=zBi kids;omega
 have a7:xs.length<=4000000:=by omega
 have HL:=hid (And.intro hm (And.intro ao H));have ap:=hid (λk(hk:k∈kids) n(hn:n∈zAJ x.name k)=>aq n (by rw[zAJ];exact List.mem_append_right _ ((zMP _).2 ⟨k,hk,hn⟩)));have au:op=3/\N=x.name->0<=F/\F<=1000000:=λh=>aq F (by rw[zAJ,if_pos h];simp)
 have HT:=hid (show zAJ x.name (.mk op N R F kids)=(if op=3/\N=x.name then[F]else[])++zAF x.name kids from by rw[zAJ]);obtain⟨vo,Q,M,aj⟩:=G;have v1:=hC.v.cell;have v2:=hC.v.lt;have o1:=Q.cell;have o2:=Q.lt;have x1:=hC.x.at0;have x2:=hC.x.lt;have HC:=hid hC;have a3:=hC.size;clear hm ao H aq;by_cases hT:op=3/\N=x.name
 ·obtain⟨rfl,rfl⟩:=hT;obtain⟨ar,a6⟩:=au ⟨rfl,rfl⟩;rw[if_pos ⟨rfl,rfl⟩]at HT;obtain⟨A0,a1,rfl,-,-,-⟩:=Row.of_own M (by decide);have ah:=hid (And.intro Q (And.intro M aj));clear Q M aj au hC;go_enter func139,ntmps139
  go_upto_region 3 with(at_builtin;refine z6 rfl (.tmp 17) (.tmp 23) _ rfl underlying28 Tryz.eInt rfl ((ah.out.2.1.alloc _).alloc _) rfl (news:=[.int .i64 F,.int .i64 (F+1)]) rfl (zTE (by simp) (by simp)) (by simp[Value.oneCell']) (by unfold maxLen;omega) (by omega) (by simp;omega) ?_;intro v5 w5 P av al;obtain⟨g5,aa,a0⟩:=zAm (n:=xs.length+1) P;subst a0;have ad:=zVF (ys:=[F,F+1]) (zDG w _ _) HC.out.o HC.out.live ah.out.2.1 ah.out.2.2 ah.out.1 av al P;have d0:=ad.1.cell;have d1:=ad.1.free;have d2:=ad.1.lt;have HX:=hid ad.2;clear P av al ad)
  have ai:=hid (show StO (w5.setCell ⟨O,0,none⟩ (.slice (some ⟨g5,0,none⟩) (xs.length+1+1) aa)) O B K (xs++prs [F]) from HX.out.1);have ag:=hid HX.out.2.1
  have c4:(w5.setCell ⟨O,0,none⟩ (.slice (some ⟨g5,0,none⟩) (xs.length+1+1) aa)).cell? ⟨w.heap.size,4,none⟩=some (.slice A kids.length cap):=by
   rw[World.cell?_of_block (a:=⟨w.heap.size,4,none⟩) (HX.out.2.2 w.heap.size (Nat.le_refl _) (by simp;omega))];exact((Blk.new w 40 #[.int .i64 3,.string x.name,.int .i64 R,.int .i64 F,.slice A kids.length cap]).alloc _).cell 4
  clear HX d0 d1 d2;generalize (w5.setCell ⟨O,0,none⟩ (.slice (some ⟨g5,0,none⟩) (xs.length+1+1) aa))=W at*;have af:=hid (show(prs [F]).length <=2 from by simp[prs]);generalize [F]=q at*;have Y:=lt_of_cell c4;clear v1 v2 x1 x2;go_wp2;go_loopw[28] (λi wr=>∃k:Nat,k<=kids.length/\i= .int .i64 k/\StO wr O B K (xs++prs (q++zAF x.name (kids.take k)))/\zA K w wr) (λi _=>kids.length-(intOf i).toNat);case atStart=>exact⟨0,Nat.zero_le _,rfl,by simpa[zAF]using ai.out,ag.out⟩
  case round=>
   clear c4 Y;obtain⟨k,hk,rfl,G,c⟩:=hrel;by_cases d:k<kids.length
   ·obtain⟨b,ae,cs,rfl,hz,J,D⟩:=HS.out.at_ d;have E:zA Z w wr:=c.mono (λb _ hb=>HC.out.off b (Or.inl hb));have y:=FmR.keep E _ _ D;have HF:=hid y;obtain⟨A',ak,rfl⟩:=FmR.form D;have s:=HC.out.keep c
    have t:(xs++prs (q++zAF x.name (kids.take k))).length +2*zG kids[k]<=4000000:=by
     have ax:=zBE d;have ay:=zBH kids (k+1);have h1:=zFZ x.name (kids.take k);have h2:=HL.out;have h3:=af.out;rw[List.length_append,zEy,List.length_append];omega
    have ab:=zBh d;have ac:=HL.out.1;have H:=HL.out.2.2;clear D y;obtain⟨c0,c1,c2,c3,c4⟩:=zx (λj u hu=>E.cell (p:=⟨b,ae+k*5+j,none⟩) hz (J j u hu));clear J;have cl:=lt_of_cell c0;have v1:=s.v.cell;have v2:=s.v.lt;have z:=hid (λo=>IH.out kids[k] (by omega) _ _ (wr.alloc o) (FmR.keep ((zA.refl Z wr).alloc o) _ _ HF.out) t (ap.out kids[k] (List.getElem_mem d)) (s.keep ((zA.refl _ _).alloc o)) (G.alloc o));have U:=hid (show xs++prs (q++zAF x.name (kids.take (k+1)))=xs++prs (q++zAF x.name (kids.take k))++prs (zAJ x.name kids[k]) from by rw[zGB _ _ _ d,<-List.append_assoc,zEy (q++_),List.append_assoc]);have C:=hid c;clear G c s E t ab ac H;generalize kids[k]=g at*;(go_wp2_with fail);refine(z.out _).mono ?_;rintro e w1 ⟨rfl,I,L⟩;have H9:=hid (And.intro I (C.out.trans (((zA.refl _ _).alloc _).trans L)));clear I L;go_wp2;go_roundw;(case rel=>exact⟨k+1,by omega,by go_num,by rw[U.out];exact H9.out.1,H9.out.2⟩);case measure=>simp[intOf];omega
   ·(obtain rfl:k=kids.length:=by omega);rw[List.take_length]at G;have T:=hid G;have C:=hid c;clear G c;go_wp2;go_end0;refine⟨rfl,?_,C.out⟩;rw[HT.out];exact T.out
 ·rw[if_neg hT]at HT
  have ai:=hid (show StO (w.alloc (.cells #[.int .i64 op,.string N,.int .i64 R,.int .i64 F,.slice A kids.length cap] 40)) O B K (xs++prs []) from by
   have:=StO.alloc (O:=O) (B:=B) (K:=K) (xs:=xs) (w:=w) ⟨vo,Q,M,aj⟩ (.cells #[.int .i64 op,.string N,.int .i64 R,.int .i64 F,.slice A kids.length cap] 40)
   simpa[prs]using this)
  have ag:=hid (show zA K w (w.alloc (.cells #[.int .i64 op,.string N,.int .i64 R,.int .i64 F,.slice A kids.length cap] 40)) from(zA.refl _ _).alloc _);have af:=hid (show(prs ([]:List Int)).length <=2 from by simp[prs]);have az:=hid hT;generalize ([]:List Int)=q at*;clear Q M aj au hC o1 o2 hT;go_enter func139,ntmps139
  by_cases h3:op=3
  ·(have ar:N≠x.name:=λh=>az.out ⟨h3,h⟩);(have hn:(N.toList==x.name.toList)=false:=by rw[zAh];simp[ar]);clear ar;subst h3;(go_upto_region 3 with fail);have c4:(w.alloc (.cells #[.int .i64 3,.string N,.int .i64 R,.int .i64 F,.slice A kids.length cap] 40)).cell? ⟨w.heap.size,4,none⟩=some (.slice A kids.length cap):=(Blk.new w 40 #[.int .i64 3,.string N,.int .i64 R,.int .i64 F,.slice A kids.length cap]).cell 4;generalize (w.alloc (.cells #[.int .i64 3,.string N,.int .i64 R,.int .i64 F,.slice A kids.length cap] 40))=W at*;have Y:=lt_of_cell c4;clear v1 v2 x1 x2;go_wp2;go_loopw[28] (λi wr=>∃k:Nat,k<=kids.length/\i= .int .i64 k/\StO wr O B K (xs++prs (q++zAF x.name (kids.take k)))/\zA K w wr) (λi _=>kids.length-(intOf i).toNat);case atStart=>exact⟨0,Nat.zero_le _,rfl,by simpa[zAF]using ai.out,ag.out⟩
   case round=>
    clear c4 Y;obtain⟨k,hk,rfl,G,c⟩:=hrel;by_cases d:k<kids.length
    ·obtain⟨b,ae,cs,rfl,hz,J,D⟩:=HS.out.at_ d;have E:zA Z w wr:=c.mono (λb _ hb=>HC.out.off b (Or.inl hb));have y:=FmR.keep E _ _ D;have HF:=hid y;obtain⟨A',ak,rfl⟩:=FmR.form D;have s:=HC.out.keep c
     have t:(xs++prs (q++zAF x.name (kids.take k))).length +2*zG kids[k]<=4000000:=by
      have ax:=zBE d;have ay:=zBH kids (k+1);have h1:=zFZ x.name (kids.take k);have h2:=HL.out;have h3:=af.out;rw[List.length_append,zEy,List.length_append];omega
     have ab:=zBh d;have ac:=HL.out.1;have H:=HL.out.2.2;clear D y;obtain⟨c0,c1,c2,c3,c4⟩:=zx (λj u hu=>E.cell (p:=⟨b,ae+k*5+j,none⟩) hz (J j u hu));clear J;have cl:=lt_of_cell c0;have v1:=s.v.cell;have v2:=s.v.lt;have z:=hid (λo=>IH.out kids[k] (by omega) _ _ (wr.alloc o) (FmR.keep ((zA.refl Z wr).alloc o) _ _ HF.out) t (ap.out kids[k] (List.getElem_mem d)) (s.keep ((zA.refl _ _).alloc o)) (G.alloc o));have U:=hid (show xs++prs (q++zAF x.name (kids.take (k+1)))=xs++prs (q++zAF x.name (kids.take k))++prs (zAJ x.name kids[k]) from by rw[zGB _ _ _ d,<-List.append_assoc,zEy (q++_),List.append_assoc]);have C:=hid c;clear G c s E t ab ac H;generalize kids[k]=g at*;(go_wp2_with fail);refine(z.out _).mono ?_;rintro e w1 ⟨rfl,I,L⟩;have H9:=hid (And.intro I (C.out.trans (((zA.refl _ _).alloc _).trans L)));clear I L;go_wp2;go_roundw;(case rel=>exact⟨k+1,by omega,by go_num,by rw[U.out];exact H9.out.1,H9.out.2⟩);case measure=>simp[intOf];omega
    ·(obtain rfl:k=kids.length:=by omega);rw[List.take_length]at G;have T:=hid G;have C:=hid c;clear G c;go_wp2;go_end0;refine⟨rfl,?_,C.out⟩;rw[HT.out];exact T.out
  ·(go_upto_region 3 with fail);have c4:(w.alloc (.cells #[.int .i64 op,.string N,.int .i64 R,.int .i64 F,.slice A kids.length cap] 40)).cell? ⟨w.heap.size,4,none⟩=some (.slice A kids.length cap):=(Blk.new w 40 #[.int .i64 op,.string N,.int .i64 R,.int .i64 F,.slice A kids.length cap]).cell 4;generalize (w.alloc (.cells #[.int .i64 op,.string N,.int .i64 R,.int .i64 F,.slice A kids.length cap] 40))=W at*;have Y:=lt_of_cell c4;clear v1 v2 x1 x2;go_wp2;go_loopw[28] (λi wr=>∃k:Nat,k<=kids.length/\i= .int .i64 k/\StO wr O B K (xs++prs (q++zAF x.name (kids.take k)))/\zA K w wr) (λi _=>kids.length-(intOf i).toNat);case atStart=>exact⟨0,Nat.zero_le _,rfl,by simpa[zAF]using ai.out,ag.out⟩
   case round=>
    clear c4 Y;obtain⟨k,hk,rfl,G,c⟩:=hrel;by_cases d:k<kids.length
    ·obtain⟨b,ae,cs,rfl,hz,J,D⟩:=HS.out.at_ d;have E:zA Z w wr:=c.mono (λb _ hb=>HC.out.off b (Or.inl hb));have y:=FmR.keep E _ _ D;have HF:=hid y;obtain⟨A',ak,rfl⟩:=FmR.form D;have s:=HC.out.keep c
     have t:(xs++prs (q++zAF x.name (kids.take k))).length +2*zG kids[k]<=4000000:=by
      have ax:=zBE d;have ay:=zBH kids (k+1);have h1:=zFZ x.name (kids.take k);have h2:=HL.out;have h3:=af.out;rw[List.length_append,zEy,List.length_append];omega
     have ab:=zBh d;have ac:=HL.out.1;have H:=HL.out.2.2;clear D y;obtain⟨c0,c1,c2,c3,c4⟩:=zx (λj u hu=>E.cell (p:=⟨b,ae+k*5+j,none⟩) hz (J j u hu));clear J;have cl:=lt_of_cell c0;have v1:=s.v.cell;have v2:=s.v.lt;have z:=hid (λo=>IH.out kids[k] (by omega) _ _ (wr.alloc o) (FmR.keep ((zA.refl Z wr).alloc o) _ _ HF.out) t (ap.out kids[k] (List.getElem_mem d)) (s.keep ((zA.refl _ _).alloc o)) (G.alloc o));have U:=hid (show xs++prs (q++zAF x.name (kids.take (k+1)))=xs++prs (q++zAF x.name (kids.take k))++prs (zAJ x.name kids[k]) from by rw[zGB _ _ _ d,<-List.append_assoc,zEy (q++_),List.append_assoc]);have C:=hid c;clear G c s E t ab ac H;generalize kids[k]=g at*;(go_wp2_with fail);refine(z.out _).mono ?_;rintro e w1 ⟨rfl,I,L⟩;have H9:=hid (And.intro I (C.out.trans (((zA.refl _ _).alloc _).trans L)));clear I L;go_wp2;go_roundw;(case rel=>exact⟨k+1,by omega,by go_num,by rw[U.out];exact H9.out.1,H9.out.2⟩);case measure=>simp[intOf];omega
    ·(obtain rfl:k=kids.length:=by omega);rw[List.take_length]at G;have T:=hid G;have C:=hid c;clear G c;go_wp2;go_end0;refine⟨rfl,?_,C.out⟩;rw[HT.out];exact T.out
theorem zKn(X:Nat)(x:zC)(n:Int)(w:World)(h:Blk w X 67 #[.string x.name,.int .i64 x.kind,.int .i64 x.lo,.int .i64 x.hi]):
  Calls prog 141 #[.int .i64 n,.pointer (some ⟨X,0,none⟩)] w λe w'=>e= .returned (.bool (decide (n<x.lo)||decide (x.hi<n)))/\w'=w:=by
 have c2:=h.at2;have c3:=h.at3;have d:=h.lt;generalize x.lo=lo at*;generalize x.hi=c at*;clear h;go_enter func141,ntmps141
 by_cases a:n<lo
 ·go_wp2;exact bodyPost_ret (v:= .bool true) (by simp[results,results141,go_sem]) rfl ⟨by simp[a],rfl⟩
 ·by_cases b:c<n
  ·go_wp2;exact bodyPost_ret (v:= .bool true) (by simp[results,results141,go_sem]) rfl ⟨by simp,rfl⟩
  ·go_wp2;exact bodyPost_ret (v:= .bool false) (by simp[results,results141,go_sem]) rfl ⟨by simp[a,b],rfl⟩
open Go.Sort in
theorem zJp(d:Array Int)(os:Array Obj):zA (λb=>b≠g) w (grow (putRow (Value.int .i64) (Sort.ahead w n) g 0 d) os):=by
 have h:=grownBy_sortedI (w:=w) (g:=g) (n:=n) (os:=os) d;exact(zA.refl _ _).grown h (λk a _ c=>c (Option.some.inj a).symm)
open Go.Sort in
theorem zJq(h:w.ownsRow base e 1 (.slice (some ⟨g,0,none⟩) n cap) n (zs.map (.int .i64))):
  base<=g/\g<w.heap.size/\n<=cap/\cap<=maxLen/\zs.length=n/\Holds (Value.int .i64) w g 0 zs.toArray:=by
 obtain⟨k,a,e,b,c,d,f,i,j⟩:=Lib.holds_of_ownsRow h (by simp);injection e with e1 e2 e3;injection e1 with e1;injection e1 with e1;subst e1 e3;exact⟨b,c,d,f,i,j⟩
theorem zPI(h:w.ownsRow base 3 1 (.slice (some ⟨g,0,none⟩) n cap) n (zs.map (.int .i64)))(f:n<4611686018427387904):
  Calls prog 111 #[.slice (some ⟨g,0,none⟩) n cap] w λe w'=>e= .returned (.tuple #[])/\w'.ownsRow base 3 1 (.slice (some ⟨g,0,none⟩) n cap) n ((zs.mergeSort λx y=>decide (x<=y)).map (.int .i64))/\zA (λb=>b≠g) w w':=by
 obtain⟨i,a,j,k,c,d⟩:=zJq h;subst c;refine(Tryz.slices_Sort_int g 0 cap zs w d a f).mono ?_;rintro e w' ⟨rfl,q,m,rfl⟩;refine⟨rfl,?_,zJp _ _⟩;rcases h.2 with⟨e0,_⟩|⟨g',cap',cur,e0,hb,hg,hn',hm,hs,ht⟩
 ·cases e0
 ·injection e0 with e1 _ e3;injection e1 with e1;injection e1 with e1;subst e1 e3;exact ownsRow_sortedI (ss:=zs) (by simp) hb hg hn' hm hs
theorem zQ4{base g n a q:Nat}{m:Nat}(h:w.ownsRow base e 1 (.slice (some ⟨g,0,none⟩) n a) n (zs.map (.int .i64)))(c:ys.length+m=n):
  (Sort.putRow (Value.int .i64) (Sort.ahead w q) g 0 (ys++List.replicate m 0).toArray).ownsRow base e 1 (.slice (some ⟨g,0,none⟩) ys.length a) ys.length (ys.map (.int .i64))/\zA (λb=>b≠g) w (Sort.putRow (Value.int .i64) (Sort.ahead w q) g 0 (ys++List.replicate m 0).toArray):=by
 refine⟨?_,?_⟩
 ·have:=Lib.ownsRow_putRow (q:=q) (k:=ys.length) (ys:=ys++List.replicate m 0) h (by simp;omega) (by omega);simpa using this
 ·have:=zJp (w:=w) (g:=g) (n:=q) (ys++List.replicate m 0).toArray #[];rwa[Sort.grow_empty]at this
theorem zRf{base g n a X:Nat}(h:w.ownsRow base 3 1 (.slice (some ⟨g,0,none⟩) n a) n (zs.map (.int .i64)))(c:Blk w X 67 #[.string x.name,.int .i64 x.kind,.int .i64 x.lo,.int .i64 x.hi])(d:X≠g):
  Calls prog 140 #[.slice (some ⟨g,0,none⟩) n a,.func (.func 141) #[] #[.pointer (some ⟨X,0,none⟩)]] w λe w'=>
   ∃ys,ys=zs.filter (λn=> !(decide (n<x.lo)||decide (x.hi<n)))/\e= .returned (.slice (some ⟨g,0,none⟩) ys.length a)/\w'.ownsRow base 3 1 (.slice (some ⟨g,0,none⟩) ys.length a) ys.length (ys.map (.int .i64))/\zA (λb=>b≠g) w w':=by
 obtain⟨B,C,i,j,k,o⟩:=zJq h;have v:a<=9223372036854775807:=by simpa[maxLen]using j
 subst k
 have t:=Tryz.slices_DeleteFunc (Value.int .i64) (λ_=>rfl) (λn=>decide (n<x.lo)||decide (x.hi<n)) 141 #[.pointer (some ⟨X,0,none⟩)] Tryz.egStarts2 0 Tryz.zeroInt g 0 a zs.toArray w
  (λW n s=>(zKn X x n W (c.below s c.lt)).mono λe w' h=>⟨h.1,0,h.2⟩)
  (λm y f n _=>(zKn X x n _ (c.keep (zJp f y) d)).mono λe w' h=>⟨h.1,0,h.2⟩) o (by simp;omega) (by simpa using i)
 refine t.mono ?_;rintro e w' ⟨rfl,q,rfl⟩;have u:(zs.filter (λn=> !(decide (n<x.lo)||decide (x.hi<n)))).length <=zs.length:=List.length_filter_le _ _;obtain⟨z,A⟩:=zQ4 (q:=q) (ys:=zs.filter (λn=> !(decide (n<x.lo)||decide (x.hi<n)))) (m:=zs.length-(zs.filter (λn=> !(decide (n<x.lo)||decide (x.hi<n)))).length) h (by omega);exact⟨_,rfl,rfl,z,A⟩
theorem zKo(h:w.ownsRow base 3 1 (.slice (some ⟨g,0,none⟩) n cap) n (zs.map (.int .i64))):
  Calls prog 112 #[.slice (some ⟨g,0,none⟩) n cap] w λe w'=>
   ∃ys,ys=Lib.compact zs/\e= .returned (.slice (some ⟨g,0,none⟩) ys.length cap)/\w'.ownsRow base 3 1 (.slice (some ⟨g,0,none⟩) ys.length cap) ys.length (ys.map (.int .i64))/\zA (λb=>b≠g) w w':=by
 obtain⟨s,t,a,c,d,f⟩:=zJq h;have j:cap<=9223372036854775807:=by simpa[maxLen]using c
 subst d;refine(Tryz.slices_Compact_int g 0 cap zs w f (by omega) a).mono ?_;rintro e w' ⟨rfl,q,rfl⟩;have i:=Lib.compact_length_le zs;obtain⟨k,o⟩:=zQ4 (q:=q) (ys:=Lib.compact zs) (m:=zs.length-(Lib.compact zs).length) h (by omega);exact⟨_,rfl,rfl,k,o⟩
def zGj(w:World)(fc:Array Value)(x:zC):World:=
 ((((w.alloc (.cells fc 40)).alloc (.cells #[.string x.name,.int .i64 x.kind,.int .i64 x.lo,.int .i64 x.hi] 67)).alloc (.cells #[.int .i64 x.lo] 3)).alloc (.cells #[.slice (some ⟨w.heap.size+1+1,0,none⟩) 1 1] 28)).alloc
  (.cells #[.func (.func 139) #[] #[.pointer (some ⟨w.heap.size+1,0,none⟩),.pointer (some ⟨w.heap.size+1+1+1,0,none⟩),.pointer (some ⟨w.heap.size+1+1+1+1,0,none⟩)]] 219)
def zGk(w:World):zE:=λb=>b<w.heap.size\/b=w.heap.size+1\/b=w.heap.size+1+1+1+1
theorem zPJ{fc:Array Value}(e:∀b,Z b->b<w.heap.size):
  StC (zGj w fc x) (w.heap.size+1) (w.heap.size+1+1+1) (w.heap.size+1+1+1+1) (w.heap.size+1+1) (zGk w) x Z/\StO (zGj w fc x) (w.heap.size+1+1+1) (w.heap.size+1+1) (zGk w) [x.lo]/\Bw w (zGj w fc x):=by
 have a:Bw w (zGj w fc x):=(((((Below.refl _ _).alloc (Nat.le_refl _) _).alloc (by simp) _).alloc (by simp;omega) _).alloc (by simp;omega) _).alloc (by simp;omega) _;have f:(zGj w fc x).heap.size =w.heap.size+1+1+1+1+1:=by simp[zGj]
 refine⟨⟨?_,?_,λb a=> ?_,?_,by omega,λb a=> ?_⟩,⟨.slice (some ⟨w.heap.size+1+1,0,none⟩) 1 1,?_,?_,λk d=> ?_⟩,a⟩
 ·have:=(((Blk.new (w.alloc (.cells fc 40)) 67 #[.string x.name,.int .i64 x.kind,.int .i64 x.lo,.int .i64 x.hi]).alloc (.cells #[.int .i64 x.lo] 3)).alloc (.cells #[.slice (some ⟨w.heap.size+1+1,0,none⟩) 1 1] 28)).alloc
   (.cells #[.func (.func 139) #[] #[.pointer (some ⟨w.heap.size+1,0,none⟩),.pointer (some ⟨w.heap.size+1+1+1,0,none⟩),.pointer (some ⟨w.heap.size+1+1+1+1,0,none⟩)]] 219)
  simp only[World.size_alloc]at this;exact this
 ·exact zGy _ _ _ (by simp)
 ·rcases a with h|rfl|rfl
  ·exact Or.inl (e b h)
  ·exact Or.inr (Or.inl rfl)
  ·exact Or.inr (Or.inr rfl)
 ·unfold zGk;omega
 ·unfold zGk at a;omega
 ·exact(zGy _ _ _ (by simp)).alloc _
 ·have h:=Blk.new ((w.alloc (.cells fc 40)).alloc (.cells #[.string x.name,.int .i64 x.kind,.int .i64 x.lo,.int .i64 x.hi] 67)) 3 #[.int .i64 x.lo];simp only[World.size_alloc]at h
  have c:=(h.alloc (.cells #[.slice (some ⟨w.heap.size+1+1,0,none⟩) 1 1] 28)).alloc
   (.cells #[.func (.func 139) #[] #[.pointer (some ⟨w.heap.size+1,0,none⟩),.pointer (some ⟨w.heap.size+1+1+1,0,none⟩),.pointer (some ⟨w.heap.size+1+1+1+1,0,none⟩)]] 219)
  exact⟨rfl,Or.inr ⟨w.heap.size+1+1,1,_,rfl,Nat.le_refl _,c,Nat.le_refl _,by decide,rfl,rfl⟩⟩
 ·have:w.heap.size+1+1=k:=Option.some.inj d;unfold zGk;omega
theorem zRg(Z:zE)(f:Fm)(x:zC)(cs:List Value)(w:World)(hf:FmR Z w f cs)(hz:∀b,Z b->b<w.heap.size)(hs:zG f<=1000000)(U:∀n∈zAJ x.name f,0<=n/\n<=1000000)(D:x.fit)(hx:x.lo<=x.hi):
  Calls prog 106 #[.agg cs.toArray,.agg #[.string x.name,.int .i64 x.kind,.int .i64 x.lo,.int .i64 x.hi]] w λe w'=>
   ∃v,e= .returned v/\w'.ownsRow w.heap.size 3 1 v (zO f x).length ((zO f x).map (.int .i64))/\Bw w w':=by
 have af:=Tryz.egStarts1;have ag:=Tryz.egStarts2;obtain⟨A,cap,rfl⟩:=FmR.form hf;have HF:=hid hf;have HX:=hid (And.intro D (And.intro hx (And.intro hs U)));clear hf D hx hs U;go_enter func106,ntmps106
 have Q:=hid (zPJ (w:=w) (fc:=#[.int .i64 f.op,.string f.name,.int .i64 f.cmp,.int .i64 f.num,.slice A f.kids.length cap]) (x:=x) hz);go_wp2_with fail
 refine(zPw _ _ _ _ (zGk w) x Z (zG f) f (Nat.le_refl _) _ [x.lo] _ (FmR.keep (.of_below (Q.out.2.2)) _ _ HF.out) (by have:=HX.out.2.2.1;simp;omega) HX.out.2.2.2 Q.out.1 Q.out.2.1).mono ?_;rintro e w1 ⟨rfl,ac,J⟩
 have ae:([x.lo]++prs (zAJ x.name f)).length <=4000000:=by
  have h1:=zNb x.name f;have:=HX.out.2.2.1;rw[List.length_append];simp;omega
 obtain⟨vo,B,a,E⟩:=ac;have u:([x.lo]++prs (zAJ x.name f)).length =(prs (zAJ x.name f)).length +1:=by simp
 have c:=a;rw[u]at c;obtain⟨g,c1,hv⟩:=zAm c;rw[<-u]at hv;subst hv;have hg:=E g rfl;have R:=Q.out.1.keep J;have T:=zHx ((zFw Q.out.2.2).trans (J.mono λb _ hb=>Or.inl hb)) (Nat.le_refl _);have d:=hid (zRd (f:=f) HX.out.2.1 (λn=>decide (n<x.lo)||decide (x.hi<n)) (λn=>by simp));have HQ:=hid (show[x.lo]++prs (zAJ x.name f)=x.lo::(zAJ x.name f).flatMap λn=>[n,n+1] from rfl);rw[<-HQ.out]at d;clear c u;generalize [x.lo]++prs (zAJ x.name f)=zs at*;have F:=hid (And.intro B (And.intro a (And.intro R.x (And.intro hg T))));have M:=B.cell;have N:=B.lt;have V:=zPI a (by omega);have P:=hid V;clear B a R hg T V HQ E J;go_wp2_with fail
 refine P.out.mono ?_;rintro e w2 ⟨rfl,o,z⟩;have G:w.heap.size+1+1+1≠g:=λe=>F.out.2.2.2.1.2 e.symm
 have H:w.heap.size+1≠g:=λe=>F.out.2.2.2.1.1 (Or.inr (Or.inl e.symm))
 have C:=F.out.1.keep z G;have Y:=F.out.2.2.1.keep z H;have I:w.heap.size<=g:=Nat.le_of_not_lt λh=>F.out.2.2.2.1.1 (Or.inl h)
 have i:Bw w w2:=zd F.out.2.2.2.2 z I F.out.2.2.2.2.size;clear M N P;have M:=C.cell;have N:=C.lt;have HD:=hid (zRf (X:=w.heap.size+1) o Y H);have H2:=hid (And.intro C i);have HG:=hid (And.intro G I);clear G H C Y I i o z;go_wp2_with fail
 refine HD.out.mono ?_;rintro e w3 ⟨ys,aa,rfl,q,K⟩;have m:=H2.out.1.keep K HG.out.1;have j:Bw w w3:=zd H2.out.2 K HG.out.2 H2.out.2.size;clear M N HD;have M:=m.cell;have N:=m.lt;have o3:=m.free
 have s:=zX q ((zA.refl (λb=>b≠w.heap.size+1+1+1) _).setCell (p:=⟨w.heap.size+1+1+1,0,none⟩) (λ_ h=>h rfl) (.slice (some ⟨g,0,none⟩) ys.length c1)) (λk hk=>by
  have:g=k:=Option.some.inj hk;have:=HG.out.1
  omega)
 have HC:=hid (zKo s);have O:=hid (j.setCell (p:=⟨w.heap.size+1+1+1,0,none⟩) (by show w.heap.size<=w.heap.size+1+1+1;omega) (.slice (some ⟨g,0,none⟩) ys.length c1));have HO:=hid (m.set_ (.slice (some ⟨g,0,none⟩) ys.length c1));rw[<-aa]at d;clear m j q K aa s;go_upto_region 7 with fail
 generalize (w3.setCell ⟨w.heap.size+1+1+1,0,none⟩ (.slice (some ⟨g,0,none⟩) ys.length c1))=w4 at*;clear M N o3;have M:=HO.out.cell;have N:=HO.out.lt;go_wp2_with fail
 refine HC.out.mono ?_;rintro e w5 ⟨y,ab,rfl,t,W⟩;have L:y=zO f x:=ab.trans d.out;have HP:=hid (show w5.ownsRow w.heap.size 3 1 (.slice (some ⟨g,0,none⟩) y.length c1) y.length (y.map (.int .i64))/\Bw w w5 from⟨zFk t (by omega),zd O.out W HG.out.2 O.out.size⟩);rw[L]at HP;clear t W ab M N HC HO;have ad:=hid L;clear L;go_wp2;refine bodyPost_ret (v:= .slice (some ⟨g,0,none⟩) y.length c1) (by simp[results,results106,go_sem]) rfl ⟨_,rfl,?_,HP.out.2⟩;rw[ad.out];exact HP.out.1
theorem Tryz.egTested:∀args w,(callFunc 103 args).run prog w= .ok (.enter 103 args) w:=enters_of func103 (by kernel_rfl) rfl
theorem zW.alloc{κ:Type}[DecidableEq κ]{enc:κ->Value}{a:List (κ × Value)}(h:zW enc w b a)(o:Obj):zW enc (w.alloc o) b a:=h.of_block (Below.heap_alloc _ _ _ h.lt)
def zBq(kv:List (ByteArray × Value))(l:List ByteArray):List (ByteArray × Value):=l.foldl (λkv n=>zAU kv n (.bool true)) kv
theorem zKp(a:List (ByteArray × Value))(l m:List ByteArray):zBq a (l++m)=zBq (zBq a l) m:=List.foldl_append
theorem zHN:∀(l:List Fm)(k:Nat)(b:k<l.length),zAH (l.take (k+1))=zAH (l.take k)++zA0 l[k]
 |a::r,0,_=>by simp[zAH]
 |a::r,k+1,b=>by
  have:=zHN r k (by simpa using b);simp only[List.take_succ_cons,zAH,List.getElem_cons_succ];rw[this,List.append_assoc]
theorem zRh(q:Nat)(Z:zE)(hZ:¬Z q):∀(m:Nat)(f:Fm),zG f<=m->∀(cs:List Value)(G:List (ByteArray × Value))(w:World),FmR Z w f cs->zG f<=4000000->zW encS w q G->
  Calls prog 103 #[.agg cs.toArray,.map (some q)] w λe w'=>
   e= .returned (.map (some q))/\zW encS w' q (zBq G (zA0 f))/\zA (λb=>b≠q) w w':=by
 intro m
 induction m with
 |zero=>intro f hm;have:=zBk f;omega
 |succ m ih=>
 intro f hm cs G w hf J hM;have eg:=Tryz.egTested;have IH:=hid ih;clear ih;obtain⟨op,C,H,I,kids⟩:=f;unfold FmR at hf;obtain⟨_,_,_,_,A,cap,rfl,ae,_,af,ab⟩:=hf;have HS:=hid (zi.seq ab);clear ab;have z:=zBy (.mk op C H I kids);simp only[Fm.kids]at z;have ag:kids.length<=4000000:=by have h1:=zBi kids;omega
 have U:=hid (And.intro hm (And.intro J z));have HT:=hid (show zA0 (.mk op C H I kids)=(if op=3 then[C]else[])++zAH kids from by rw[zA0]);have HM:=hid (hM.alloc (.cells #[.int .i64 op,.string C,.int .i64 H,.int .i64 I,.slice A kids.length cap] 40));have ah:=hM.lt;clear hm J z hM;by_cases h3:op=3
 ·subst h3;rw[if_pos rfl]at HT;go_enter func103,ntmps103
  go_upto_region 3 with(at_mapUpdate;refine zCB rfl (.tmp 10) (.tmp 12) _ rfl (zBb (P:=prog) (k:=9) underlying9) (e:=4) underlying123 rfl HM.out C rfl ?_;intro W ac c ad Y aa)
  have N:=hid (show zW encS W q (zBq G [C]) from ac);have K:=hid (((zA.refl (λb=>b≠q) w).alloc (.cells #[.int .i64 3,.string C,.int .i64 H,.int .i64 I,.slice A kids.length cap] 40)).trans c);have c4:W.cell? ⟨w.heap.size,4,none⟩=some (.slice A kids.length cap):=((Blk.new w 40 #[.int .i64 3,.string C,.int .i64 H,.int .i64 I,.slice A kids.length cap]).keep c (by show w.heap.size≠q;omega)).cell 4;clear ac c ad Y aa;generalize [C]=x at*;have O:=lt_of_cell c4;go_wp2;go_loopw[16] (λi wr=>∃k:Nat,k<=kids.length/\i= .int .i64 k/\zW encS wr q (zBq G (x++zAH (kids.take k)))/\zA (λb=>b≠q) w wr) (λi _=>kids.length-(intOf i).toNat);case atStart=>exact⟨0,Nat.zero_le _,rfl,by simpa[zAH]using N.out,K.out⟩
  case round=>
   clear c4 O;obtain⟨k,hk,rfl,D,a⟩:=hrel;by_cases d:k<kids.length
   ·obtain⟨b,T,cs,rfl,hz,F,y⟩:=HS.out.at_ d;have B:zA Z w wr:=a.mono (λb _ hb e=>hZ (e▸hb));have n:=FmR.keep B _ _ y;have HF:=hid n;obtain⟨A',X,rfl⟩:=FmR.form y
    have h:zG kids[k]<=4000000:=by
     have:=zBh d;have:=U.out;omega
    have Q:=zBh d;have R:=U.out.1;have z:=U.out.2.2;clear y n;obtain⟨c0,c1,c2,c3,c4⟩:=zx (λj u hu=>B.cell (p:=⟨b,T+k*5+j,none⟩) hz (F j u hu));clear F;have cl:=lt_of_cell c0;have s:=hid (λo=>IH.out kids[k] (by omega) _ _ (wr.alloc o) (FmR.keep ((zA.refl Z wr).alloc o) _ _ HF.out) h (D.alloc o));have M:=hid (show zBq G (x++zAH (kids.take (k+1)))=zBq (zBq G (x++zAH (kids.take k))) (zA0 kids[k]) from by rw[zHN _ _ d,<-List.append_assoc,zKp]);have t:=hid a;clear D a B h Q R z;generalize kids[k]=g at*;(go_wp2_with fail);refine(s.out _).mono ?_;rintro e w1 ⟨rfl,E,c⟩;have V:=hid (And.intro E (t.out.trans (((zA.refl _ _).alloc _).trans c)));clear E c;go_wp2;go_roundw;(case rel=>exact⟨k+1,by omega,by go_num,by rw[M.out];exact V.out.1,V.out.2⟩);case measure=>simp[intOf];omega
   ·(obtain rfl:k=kids.length:=by omega);rw[List.take_length]at D;have L:=hid D;have t:=hid a;clear D a;go_wp2;refine bodyPost_ret (v:= .map (some q)) (by simp[results,results103,go_sem]) rfl ⟨rfl,?_,t.out⟩;rw[HT.out];exact L.out
 ·rw[if_neg h3]at HT;have N:=hid (show zW encS (w.alloc (.cells #[.int .i64 op,.string C,.int .i64 H,.int .i64 I,.slice A kids.length cap] 40)) q (zBq G []) from HM.out);have K:=hid ((zA.refl (λb=>b≠q) w).alloc (.cells #[.int .i64 op,.string C,.int .i64 H,.int .i64 I,.slice A kids.length cap] 40));generalize ([]:List ByteArray)=x at*;go_enter func103,ntmps103
  go_upto_region 3 with fail
  have c4:(w.alloc (.cells #[.int .i64 op,.string C,.int .i64 H,.int .i64 I,.slice A kids.length cap] 40)).cell? ⟨w.heap.size,4,none⟩=some (.slice A kids.length cap):=(Blk.new w 40 #[.int .i64 op,.string C,.int .i64 H,.int .i64 I,.slice A kids.length cap]).cell 4;clear HM;generalize (w.alloc (.cells #[.int .i64 op,.string C,.int .i64 H,.int .i64 I,.slice A kids.length cap] 40))=W at*;have O:=lt_of_cell c4;go_wp2;go_loopw[16] (λi wr=>∃k:Nat,k<=kids.length/\i= .int .i64 k/\zW encS wr q (zBq G (x++zAH (kids.take k)))/\zA (λb=>b≠q) w wr) (λi _=>kids.length-(intOf i).toNat);case atStart=>exact⟨0,Nat.zero_le _,rfl,by simpa[zAH]using N.out,K.out⟩
  case round=>
   clear c4 O;obtain⟨k,hk,rfl,D,a⟩:=hrel;by_cases d:k<kids.length
   ·obtain⟨b,T,cs,rfl,hz,F,y⟩:=HS.out.at_ d;have B:zA Z w wr:=a.mono (λb _ hb e=>hZ (e▸hb));have n:=FmR.keep B _ _ y;have HF:=hid n;obtain⟨A',X,rfl⟩:=FmR.form y
    have h:zG kids[k]<=4000000:=by
     have:=zBh d;have:=U.out;omega
    have Q:=zBh d;have R:=U.out.1;have z:=U.out.2.2;clear y n;obtain⟨c0,c1,c2,c3,c4⟩:=zx (λj u hu=>B.cell (p:=⟨b,T+k*5+j,none⟩) hz (F j u hu));clear F;have cl:=lt_of_cell c0;have s:=hid (λo=>IH.out kids[k] (by omega) _ _ (wr.alloc o) (FmR.keep ((zA.refl Z wr).alloc o) _ _ HF.out) h (D.alloc o));have M:=hid (show zBq G (x++zAH (kids.take (k+1)))=zBq (zBq G (x++zAH (kids.take k))) (zA0 kids[k]) from by rw[zHN _ _ d,<-List.append_assoc,zKp]);have t:=hid a;clear D a B h Q R z;generalize kids[k]=g at*;(go_wp2_with fail);refine(s.out _).mono ?_;rintro e w1 ⟨rfl,E,c⟩;have V:=hid (And.intro E (t.out.trans (((zA.refl _ _).alloc _).trans c)));clear E c;go_wp2;go_roundw;(case rel=>exact⟨k+1,by omega,by go_num,by rw[M.out];exact V.out.1,V.out.2⟩);case measure=>simp[intOf];omega
   ·(obtain rfl:k=kids.length:=by omega);rw[List.take_length]at D;have L:=hid D;have t:=hid a;clear D a;go_wp2;refine bodyPost_ret (v:= .map (some q)) (by simp[results,results103,go_sem]) rfl ⟨rfl,?_,t.out⟩;rw[HT.out];exact L.out
section
open Go.Shelf
theorem Tryz.egSpell:∀args w,(callFunc 105 args).run prog w= .ok (.enter 105 args) w:=enters_of func105 (by kernel_rfl) rfl
abbrev IsB(B b:Nat)(bs:List Value)(w:World):Prop:=Lib.IsBuilderF 110 5 B b bs w
theorem zNc{T e:TypeId}{p:Value}(h:Lib.BuilderAtF T e B b p bs w)(i:Bw w w'):Lib.BuilderAtF T e B b p bs w':=by
 obtain⟨o,v,d,f,q⟩:=h;refine⟨o,v,(i.block b (lt_of_block d)).trans d,⟨f.1,?_⟩,q⟩;rcases f.2 with h|⟨g,cap,a,n,j,k,c,m⟩
 ·exact Or.inl h
 ·exact Or.inr ⟨g,cap,a,n,j,k,(i.block g (lt_of_block c)).trans c,m⟩
theorem zDH(h:IsB B b bs w)(a:Bw w w'):IsB B b bs w':=h.imp (zNc · a) (zNc · a)
theorem zJr{b:Option Nat}(a:Bw w w'):Lib.OthersKept e b w w':=λk c h _ _=>(a.block k (lt_of_block h)).trans h
theorem zPx(w:World)(k:Nat)(os:Array Obj):Bw w (Sort.grow (w.drewN k) os):=below_grown w k os
theorem zEC(n:Int)(w:World)(a:I64 n)(b:zAD B w):Calls prog 89 #[.int .i64 n] w λe w'=>e= .returned (.string ⟨(Lib.itoa n).toArray⟩)/\Bw w w':=by
 refine(Tryz.strconv_Itoa n a.1 a.2 w b.here).mono ?_;rintro e w' ⟨rfl,k,c,rfl⟩;exact⟨rfl,zPx w k c⟩
def zF0(f:Fm):List UInt8:=Lib.itoa f.op++f.name.data.toList++44::(Lib.itoa f.cmp++44::(Lib.itoa f.num++[40]))
theorem zTF(f:Fm):zAs f=zF0 f++(zAM f.kids++[41]):=by
 obtain⟨op,b,a,c,kids⟩:=f;unfold zAs zF0 Fm.op Fm.name Fm.cmp Fm.num Fm.kids;simp
theorem zJs:∀(l:List Fm)(k:Nat)(b:k<l.length),zAM (l.take (k+1))=zAM (l.take k)++zAs l[k]
 |a::r,0,_=>by simp[zAM]
 |a::r,k+1,b=>by
  have:=zJs r k (by simpa using b);simp only[List.take_succ_cons,zAM,List.getElem_cons_succ];rw[this,List.append_assoc]
theorem zMQ:∀(l:List Fm)(k:Nat),(zAM (l.take k)).length <=(zAM l).length
 |[],k=>by simp
 |a::r,0=>by simp[zAM]
 |a::r,k+1=>by
  have:=zMQ r k;simp only[List.take_succ_cons,zAM,List.length_append];omega
theorem zTG(B b:Nat)(Z:zE)(hZ:∀z,Z z->z<B):∀(m:Nat)(f:Fm),zG f<=m->∀(cs:List Value)(bs:List Value)(w:World),FmR Z w f cs->zG f<=4000000->bs.length+(zAs f).length <=140737488355328->zAD B w->IsB B b bs w->B<=w.heap.size->
  Calls prog 105 #[.pointer (some ⟨b,0,none⟩),.agg cs.toArray] w λe w'=>
   e= .returned (.tuple #[])/\IsB B b (bs++Lib.byteCells (zAs f)) w'/\Below B w w'/\Lib.OthersKept 5 (some b) w w':=by
 intro m
 induction m with
 |zero=>intro f hm;have:=zBk f;omega
 |succ m ih=>
 intro f hm cs bs w hf af aq C hB D;have eg:=Tryz.egSpell;have IH:=hid ih;clear ih;have Q:=hid (zTF f);obtain⟨op,q,d,n,kids⟩:=f;unfold FmR at hf;obtain⟨V,bv,R,T,A,cap,rfl,bq,_,bt,bc⟩:=hf;have HS:=hid (zi.seq bc);clear bc;have M:=zBy (.mk op q d n kids);simp only[Fm.kids]at M;have bu:kids.length<=4000000:=by have K:=zBi kids;omega
 have HL:=hid (And.intro hm (And.intro af (And.intro M aq)));obtain⟨t1,X,bw⟩:∃t:ByteArray,t=⟨(Lib.itoa op).toArray⟩/\t.size<=30:=⟨_,rfl,by have:=Lib.itoa_length_le op V.1 V.2;simp[ByteArray.size];omega⟩;obtain⟨t2,Y,bx⟩:∃t:ByteArray,t=⟨(Lib.itoa d).toArray⟩/\t.size<=30:=⟨_,rfl,by have:=Lib.itoa_length_le d R.1 R.2;simp[ByteArray.size];omega⟩;obtain⟨t3,aa,bz⟩:∃t:ByteArray,t=⟨(Lib.itoa n).toArray⟩/\t.size<=30:=⟨_,rfl,by have:=Lib.itoa_length_le n T.1 T.2;simp[ByteArray.size];omega⟩;have a1:=hid (λW hb=>zEC op W V (C.on (w':=W) hb));have a2:=hid (λW hb=>zEC d W R (C.on (w':=W) hb));have a3:=hid (λW hb=>zEC n W T (C.on (w':=W) hb));rw[<-X]at a1;rw[<-Y]at a2;rw[<-aa]at a3;have br:=hid (And.intro X (And.intro Y aa));have a:∀(x y:ByteArray),x.size+y.size<=9223372036854775807->∃u:ByteArray,u=x++y/\∀W,(Op.stringOp .add x y).run prog W= .ok (.string u) W:=λx y h=>⟨_,rfl,λW=>run_string_add_sum W x y h⟩
 obtain⟨u1,E,e1⟩:=a t1 q (by omega);obtain⟨u2,I,e2⟩:=a u1 ⟨#[44]⟩ (by rw[E,ByteArray.size_append];show _+1<=_;omega);obtain⟨u3,O,e3⟩:=a u2 t2 (by rw[I,E];simp only[ByteArray.size_append];show _+_+1+_<=_;omega);obtain⟨u4,ab,e4⟩:=a u3 ⟨#[44]⟩ (by rw[O,I,E];simp only[ByteArray.size_append];show _+_+1+_+1<=_;omega);obtain⟨u5,ay,e5⟩:=a u4 t3 (by rw[ab,O,I,E];simp only[ByteArray.size_append];show _+_+1+_+1+_<=_;omega);obtain⟨u6,bf,e6⟩:=a u5 ⟨#[40]⟩ (by rw[ay,ab,O,I,E];simp only[ByteArray.size_append];show _+_+1+_+1+_+1<=_;omega)
 have HU:=hid (show Lib.strCells u6=Lib.byteCells (zF0 (.mk op q d n kids)) from by
  rw[bf,ay,ab,O,I,E,X,Y,aa];unfold Lib.strCells Lib.byteCells zF0
  simp[Fm.op,Fm.name,Fm.cmp,Fm.num])
 clear X Y aa E I O ab ay bf a;have HW:=hid (λW s K(h2:B<=W.heap.size)(h:IsB B b bs W)=>zDq B b bs s W h K h2);have a5:=hid C;have HB:=hid hB;clear hm af M C hB V R T aq;go_enter func105,ntmps105
 go_wp2
 have bi:=hid (show bs.length+u6.size<=140737488355328 from by
  have K:=HL.out.2.2.2;have h2:=congrArg List.length HU.out;rw[Lib.strCells_length,Lib.byteCells_length]at h2;rw[Q.out,List.length_append]at K
  omega)
 have aq:=HB.out.elim Lib.BuilderAtF.lt Lib.BuilderAtF.lt
 go_region_held3(λw'=>w'.cell? ⟨w.heap.size,0,none⟩=some (.int .i64 op)/\w'.cell? ⟨w.heap.size,1,none⟩=some (.string q)/\w'.cell? ⟨w.heap.size,2,none⟩=some (.int .i64 d)/\w'.cell? ⟨w.heap.size,3,none⟩=some (.int .i64 n)) (first|exact⟨p0,p1,p2,p3⟩|exact⟨q0,q1,q2,q3⟩|(refine⟨?_,?_,?_,?_⟩<;>go_keep))
  (first
   |(go_at_call 89;refine(a1.out _ ((zF w _).drew.mono D)).mono ?_;rintro e w1 ⟨rfl,al⟩;have F:=(Blk.new w 40 #[.int .i64 op,.string q,.int .i64 d,.int .i64 n,.slice A kids.length cap]).drew.below al (by simp);have az:=zD (zF w _).drew al (by simp);have q0:w1.cell? ⟨w.heap.size,0,none⟩=some (.int .i64 op):=F.cell 0;have q1:w1.cell? ⟨w.heap.size,1,none⟩=some (.string q):=F.cell 1;have q2:w1.cell? ⟨w.heap.size,2,none⟩=some (.int .i64 d):=F.cell 2;have q3:w1.cell? ⟨w.heap.size,3,none⟩=some (.int .i64 n):=F.cell 3)
   |(go_at_call 89;refine(a2.out _ (az.mono D)).mono ?_;rintro e w2 ⟨rfl,ao⟩;have G:=F.below ao F.lt;have a0:=zD az ao;have q0:w2.cell? ⟨w.heap.size,0,none⟩=some (.int .i64 op):=G.cell 0;have q1:w2.cell? ⟨w.heap.size,1,none⟩=some (.string q):=G.cell 1;have q2:w2.cell? ⟨w.heap.size,2,none⟩=some (.int .i64 d):=G.cell 2;have q3:w2.cell? ⟨w.heap.size,3,none⟩=some (.int .i64 n):=G.cell 3)
   |(go_at_call 89;refine(a3.out _ (a0.mono D)).mono ?_;rintro e w3 ⟨rfl,ap⟩;have J:=G.below ap G.lt;have P:=zD a0 ap;have q0:w3.cell? ⟨w.heap.size,0,none⟩=some (.int .i64 op):=J.cell 0;have q1:w3.cell? ⟨w.heap.size,1,none⟩=some (.string q):=J.cell 1;have q2:w3.cell? ⟨w.heap.size,2,none⟩=some (.int .i64 d):=J.cell 2;have q3:w3.cell? ⟨w.heap.size,3,none⟩=some (.int .i64 n):=J.cell 3)
   |(go_at_call 52;refine(HW.out _ _ bi.out (Nat.le_trans D P.size) (zDH HB.out P)).mono ?_;rintro e w4 ⟨rfl,aj,a8,aw⟩;have H:Blk w4 w.heap.size 40 _:=aw w.heap.size _ J (by intro e;injection e with e;omega) (by intro c fz e;injection e with _ e;exact absurd e (by decide));have p0:w4.cell? ⟨w.heap.size,0,none⟩=some (.int .i64 op):=H.cell 0;have p1:w4.cell? ⟨w.heap.size,1,none⟩=some (.string q):=H.cell 1;have p2:w4.cell? ⟨w.heap.size,2,none⟩=some (.int .i64 d):=H.cell 2;have p3:w4.cell? ⟨w.heap.size,3,none⟩=some (.int .i64 n):=H.cell 3))
 rw[HU.out]at aj;have c4:=H.at4;have bl:=H.lt;have ad:Below B w w4:=(P.mono D).trans a8;have ah:Lib.OthersKept 5 (some b) w w4:=(zJr P).trans aw;have bg:=hid (show IsB B b (bs++Lib.byteCells (zF0 (.mk op q d n kids))) w4 from Or.inr aj);have a4:=hid (And.intro ad ah);clear aj a8 aw H P ap J a0 ao G az al F p0 p1 p2 p3 q0 q1 q2 q3 ad ah e1 e2 e3 e4 e5 e6;go_wp2;go_loopw[28] (λi wr=>∃k:Nat,k<=kids.length/\i= .int .i64 k/\IsB B b (bs++Lib.byteCells (zF0 (.mk op q d n kids)++zAM (kids.take k))) wr/\Below B w wr/\Lib.OthersKept 5 (some b) w wr) (λi _=>kids.length-(intOf i).toNat);case atStart=>exact⟨0,Nat.zero_le _,rfl,by simpa[zAM]using bg.out,a4.out.1,a4.out.2⟩
 case round=>
  clear c4 bl;obtain⟨k,hk,rfl,hO,v,U⟩:=hrel;by_cases av:k<kids.length
  ·obtain⟨b',bo,cs,rfl,hz,ba,ar⟩:=HS.out.at_ av;have au:zA Z w wr:=zA.of_below_lt v (λz _ hz=>hZ z hz);have ae:=FmR.keep au _ _ ar;have HF:=hid ae;obtain⟨A',bp,rfl⟩:=FmR.form ar;have bm:=zBh av;(have ac:zG kids[k]<=4000000:=by have:=HL.out;omega);have bn:=HL.out.1;have M:=HL.out.2.2.1;have ax:=zJs kids k av
   have N:(bs++Lib.byteCells (zF0 (.mk op q d n kids)++zAM (kids.take k))).length +(zAs kids[k]).length <=140737488355328:=by
    have K:=HL.out.2.2.2;have h2:=zMQ kids (k+1);rw[ax]at h2;rw[Q.out]at K;simp only[List.length_append,Lib.byteCells_length]at K h2⊢;simp only[Fm.kids]at K;omega
   clear ar ae;obtain⟨c0,c1,c2,c3,c4⟩:=zx (λj u hu=>au.cell (p:=⟨b',bo+k*5+j,none⟩) hz (ba j u hu));clear ba;have cl:=lt_of_cell c0;have ak:=Nat.le_trans D v.size;have ai:=hid (λo=>IH.out kids[k] (by omega) _ _ (wr.alloc o) (FmR.keep ((zA.refl Z wr).alloc o) _ _ HF.out) ac N (a5.out.on (v.alloc ak o)) (hO.alloc o) (by simp;omega));have bj:=hid (show bs++Lib.byteCells (zF0 (.mk op q d n kids)++zAM (kids.take (k+1)))=bs++Lib.byteCells (zF0 (.mk op q d n kids)++zAM (kids.take k))++Lib.byteCells (zAs kids[k]) from by rw[ax];simp[Lib.byteCells]);have L:=hid (And.intro v U);have bh:=hid ak;clear hO v U au ac bm bn M N ax ak;generalize kids[k]=g at*;(go_wp2_with fail);refine(ai.out _).mono ?_;rintro e w5 ⟨rfl,a7,bb,ag⟩;have H9:=hid (And.intro a7 (And.intro ((L.out.1.alloc bh.out _).trans bb) ((L.out.2.trans (zJr (zF wr _))).trans ag)));clear a7 bb ag;go_wp2;go_roundw;(case rel=>exact⟨k+1,by omega,by go_num,by rw[bj.out];exact H9.out.1,H9.out.2.1,H9.out.2.2⟩);case measure=>simp[intOf];omega
  ·(obtain rfl:k=kids.length:=by omega);rw[List.take_length]at hO
   have N:(bs++Lib.byteCells (zF0 (.mk op q d n kids)++zAM kids)).length +1<=140737488355328:=by
    have K:=HL.out.2.2.2;rw[Q.out]at K;simp only[List.length_append,Lib.byteCells_length,List.length_cons,List.length_nil]at K⊢;simp only[Fm.kids]at K;omega
   have bk:=hid (zOH B b _ 41 wr hO N (Nat.le_trans D v.size));have L:=hid (And.intro v U);clear hO v U N;(go_wp2_with fail);refine bk.out.mono ?_;rintro e w5 ⟨rfl,a6,a9,bd⟩
   have HP:=hid (show IsB B b (bs++Lib.byteCells (zAs (.mk op q d n kids))) w5/\Below B w w5/\Lib.OthersKept 5 (some b) w w5 from by
    refine⟨Or.inr ?_,L.out.1.trans a9,L.out.2.trans bd⟩;have e:bs++Lib.byteCells (zAs (.mk op q d n kids))=bs++Lib.byteCells (zF0 (.mk op q d n kids)++zAM kids)++[.int .u8 41]:=by rw[Q.out];simp[Lib.byteCells,Fm.kids]
    rw[e];exact a6)
   clear a6 a9 bd;go_wp2;go_end0;exact⟨rfl,HP.out⟩
end
end Go.Proofs.YthpocbeoanipbaaGreatDoor
