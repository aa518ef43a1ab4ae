/- TariffDiffers: for every two tariffs and case, whatever they are: the law returns true, and the arguments read behind the call as before it. Conditions: the row's own (the listed variables of Go's library read as its text lays them: the card ties them). -/
import Derived.Test.YthpocbeoanipbaaGreatDoorM39
import Derived.Test.YthpocbeoanipbaaGreatDoorM41
import Derived.Test.YthpocbeoanipbaaGreatDoorCards
import Derived.Test.YthpocbeoanipbaaGreatDoorTie
import Derived.SevenTiedAt
set_option linter.all false
namespace Go.Proofs.YthpocbeoanipbaaGreatDoor
open Go.RowKit Go.Proofs.Tryz
set_option maxHeartbeats 16000000
set_option maxRecDepth 100000
variable{Z:zE}{csl:List (List Value)}{fs:List Fm}
section
open Go.Shelf
structure zGU (Z:zE) (w wr:World) (vd vl vd2 vl2:Value) (fs:List Fm) (v:Value) (csl:List (List Value)):Prop where
 fb:Blk wr (w.heap.size+1+1+1) 40 #[.int .i64 5,.string ⟨#[]⟩,.int .i64 0,.int .i64 0,v]
 db:Blk wr w.heap.size 24 #[vd]
 tb:Blk wr (w.heap.size+1) 27 #[vd,vl]
 zb:Blk wr (w.heap.size+1+1) 27 #[vd2,vl2]
 own:wr.ownsRow w.heap.size 40 5 v fs.length csl.flatten
 each:zc (λcs f=>FmR Z w f cs) 5 fs csl
 ne:v.ownBlock≠some (w.heap.size+1+1+1)
 be:Below w.heap.size w wr
theorem zGU.push{w wr q:World}{vd u g i v c:Value}{f:Fm}{cs:List Value}{o:Obj}(h:zGU Z w wr vd u g i fs v csl)(d:(wr.alloc o).drew.grownBy q v.ownBlock)
  (C:q.ownsRow w.heap.size 40 5 c (fs.length+1) (csl.flatten++cs))(m:c.ownBlock=v.ownBlock\/c.ownBlock=some (wr.alloc o).drew.heap.size)(t:FmR Z w f cs):
  zGU Z w (q.setCell ⟨w.heap.size+1+1+1,4,none⟩ c) vd u g i (fs++[f]) c (csl++[cs]):=by
 have D:=h.db.lt;have hF:=h.fb.lt;have n:(wr.alloc o).drew.heap.size =wr.heap.size+1:=by show(wr.alloc o).heap.size =_;simp
 have a:c.ownBlock≠some (w.heap.size+1+1+1):=by
  rcases m with e|e
  ·rw[e];exact h.ne
  ·rw[e,n];intro s;injection s with s;omega
 have B:cs.length=5:=by obtain⟨A,x,rfl⟩:=FmR.form t;rfl
 refine⟨((h.fb.alloc o).drew.grown d h.ne).set_ 4 _,((h.db.alloc o).drew.grown d (zDD h.db h.own (by decide))).far (by show w.heap.size≠w.heap.size+1+1+1;omega) _,((h.tb.alloc o).drew.grown d (zDD h.tb h.own (by decide))).far (by show w.heap.size+1≠w.heap.size+1+1+1;omega) _,
  ((h.zb.alloc o).drew.grown d (zDD h.zb h.own (by decide))).far (by show w.heap.size+1+1≠w.heap.size+1+1+1;omega) _,?_,h.each.append (zc.one t B),a,?_⟩
 ·have j:=zX (Z:=λb=>b≠w.heap.size+1+1+1) C ((zA.refl _ _).setCell (p:=⟨w.heap.size+1+1+1,4,none⟩) (λ_ h=>h rfl) c) (λk z e=>a (by rw[z,e]));simpa using j
 ·have j:Below w.heap.size w (wr.alloc o).drew :=(h.be.alloc h.be.size o).drew;have y:(wr.alloc o).drew.ownsRow w.heap.size 40 5 v fs.length csl.flatten:=h.own.alloc o;exact(ze j y d j.size (Nat.le_refl _)).setCell (p:=⟨w.heap.size+1+1+1,4,none⟩) (by show w.heap.size<=w.heap.size+1+1+1;omega) c
theorem zGU.fm{w wr:World}{vd s g i v:Value}(h:zGU Z w wr vd s g i fs v csl)(x:∀b,Z b->b<w.heap.size)(u:fs.length<=1000):
  ∃A a,v= .slice A fs.length a/\FmR (λb=>Z b\/w.heap.size<=b) wr (.mk 5 ⟨#[]⟩ 0 0 fs) [.int .i64 5,.string ⟨#[]⟩,.int .i64 0,.int .i64 0,.slice A fs.length a]:=by
 obtain⟨A,a,rfl,j,k,m⟩:=Row.of_own h.own (by decide);refine⟨A,a,rfl,?_⟩;unfold FmR;refine⟨by unfold I64;omega,by decide,by unfold I64;omega,by unfold I64;omega,A,a,rfl,j,by simpa[maxLen]using k,by omega,zi.of_seq ?_⟩
 cases fs with
 |nil=>unfold zm;trivial
 |cons p r=>
  have d:csl.flatten≠[]:=by
   intro e;have:=h.each.size;rw[e]at this;simp at this
  obtain⟨b,q,rfl,c,n⟩:=m d;exact zc.rows (Or.inr c) (h.each.imp λt f o=>FmR.mono (λ_ c=>Or.inl c) _ _ (FmR.keep (zA.of_below h.be) _ _ o)) n
theorem zOV(Z:zE)(vd vl E ap:Value)(t u:zY)(w:World)(ht:zAA Z w vd vl t)(hu:zAA Z w E ap u)(hz:∀b,Z b->b<w.heap.size)(h8:t.lines.length<=8)(ak:∀x∈t.lines,zG x.when_<=40)(k8:u.lines.length<=8)(ao:∀x∈u.lines,zG x.when_<=40):
  Calls prog 19 #[.agg #[vd],.agg #[vd,vl],.agg #[E,ap]] w (zRi w):=by
 obtain⟨⟨A,F,rfl,-,-,-,hs⟩⟩:=ht.l;obtain⟨⟨U,y,rfl,-,-,-,al⟩⟩:=hu.l;have HS:=hid (And.intro hs hz);have ai:=hid (And.intro al hz);have HT:=hid ht;have af:=hid (And.intro ak ao);have HZ:=hid hz;clear hs al ht hu ak ao hz;go_enter func19,ntmps19
 go_upto_region 2 with fail
 have HC:=hid (show zGU Z w ((((w.alloc (.cells #[vd] 24)).alloc (.cells #[vd,.slice A t.lines.length F] 27)).alloc (.cells #[E,.slice U u.lines.length y] 27)).alloc (.cells #[.int .i64 5,.string ⟨#[]⟩,.int .i64 0,.int .i64 0,.slice none 0 0] 40)) vd (.slice A t.lines.length F) E (.slice U u.lines.length y) [] (.slice none 0 0) [] from
  ⟨Blk.new' _ _ _ (by simp),(((Blk.new w _ _).alloc _).alloc _).alloc _,((Blk.new' _ _ _ (by simp)).alloc _).alloc _,(Blk.new' _ _ _ (by simp)).alloc _,World.ownsRow_nil _ _ _ _,trivial,λh=>(by cases h),((((Below.refl _ _).alloc (Nat.le_refl _) _).alloc (by simp) _).alloc (by simp;omega) _).alloc (by simp;omega) _⟩)
 generalize ((((w.alloc (.cells #[vd] 24)).alloc (.cells #[vd,.slice A t.lines.length F] 27)).alloc (.cells #[E,.slice U u.lines.length y] 27)).alloc (.cells #[.int .i64 5,.string ⟨#[]⟩,.int .i64 0,.int .i64 0,.slice none 0 0] 40))=w0 at*;go_wp2_with fail
 go_loopw[8] (λiv wr=>∃(k:Nat)(v:Value)(csl:List (List Value)),k<=t.lines.length/\iv= .int .i64 k/\zGU Z w wr vd (.slice A t.lines.length F) E (.slice U u.lines.length y) ((t.lines.take k).map zI.when_) v csl) (λiv _=>t.lines.length-(intOf iv).toNat);case atStart=>exact⟨0,_,[],Nat.zero_le _,rfl,HC.out⟩
 case round=>
  obtain⟨k,v,csl,hk,rfl,c⟩:=hrel;obtain⟨O,j,hv,-,-,-⟩:=Row.of_own c.own (by decide);subst hv;have i:((t.lines.take k).map zI.when_).length =k:=by simp;omega
  have C:=hid c;have b1:=c.tb.at1;have bl:=c.tb.lt;by_cases K:k<t.lines.length
  ·obtain⟨b,B,cs,rfl,ae,hc,hR⟩:=HS.out.1.at_ K;obtain⟨Q,m,rfl,G⟩:=hR.form;have ab:=HS.out.2 b ae;have z:=zBV c.be ab hc;have c0:wr.cell? ⟨b,B+k*7,none⟩=_:=z 0 _ rfl;have c1:wr.cell? ⟨b,B+k*7+1,none⟩=_:=z 1 _ rfl;have c2:wr.cell? ⟨b,B+k*7+2,none⟩=_:=z 2 _ rfl;have c3:wr.cell? ⟨b,B+k*7+3,none⟩=_:=z 3 _ rfl;have c4:wr.cell? ⟨b,B+k*7+4,none⟩=_:=z 4 _ rfl;have cl:=lt_of_cell c0;have f4:=c.fb.at4;have fl:=c.fb.lt;have W:=hid (show wr.drew.ownsRow w.heap.size 40 5 (.slice O (k) j) (k) csl.flatten from by have h:=c.own;rw[i]at h;exact h)
   have V:=hid (show ∀(M:World)(L:Value)(o:Obj),(wr.alloc o).drew.grownBy M (Value.slice O (k) j).ownBlock ->M.ownsRow w.heap.size 40 5 L (k+1) (csl.flatten++[.int .i64 t.lines[k].when_.op,.string t.lines[k].when_.name,.int .i64 t.lines[k].when_.cmp,.int .i64 t.lines[k].when_.num,.slice Q t.lines[k].when_.kids.length m])->
     (L.ownBlock=(Value.slice O (k) j).ownBlock \/L.ownBlock=some (wr.alloc o).drew.heap.size)->∃D,zGU Z w (M.setCell ⟨w.heap.size+1+1+1,4,none⟩ L) vd (.slice (some ⟨b,B,none⟩) t.lines.length F) E (.slice U u.lines.length y) ((t.lines.take (k+1)).map zI.when_) L D from λM L o hg ho aa=>by
    rw[zAu K,List.map_append];have hh:=C.out;rw[i]at hh
    exact⟨_,C.out.push (by rw[i];exact hg) (by rw[i];exact ho) (by rw[i];exact aa) G⟩)
   have X:=hid (λ(M:World)(o:Obj)(hg:(wr.alloc o).drew.grownBy M (Value.slice O (k) j).ownBlock)=>(c.fb.alloc o).drew.grown hg (by have h:=c.ne;rw[i]at h;exact h));clear c hc z hR G C HC i;generalize t.lines[k]=x at*;obtain⟨⟨op,nm,Y,nu,kids⟩,au,av⟩:=x;dsimp only[Fm.op,Fm.name,Fm.cmp,Fm.num,Fm.kids]at*;go_wp2;go_region_law(refine zEH rfl (.tmp 19) (.tmp 26) _ rfl underlying38 Tryz.eFmC rfl (W.out.alloc _) rfl (news:=[.int .i64 op,.string nm,.int .i64 Y,.int .i64 nu,.slice Q kids.length m]) rfl (zIZ (cs:=[.int .i64 op,.string nm,.int .i64 Y,.int .i64 nu,.slice Q kids.length m]) (t:=40) (g:=wr.heap.size) (by have:=Blk.new wr 40 #[.int .i64 op,.string nm,.int .i64 Y,.int .i64 nu,.slice Q kids.length m];exact this.drew)) (by simp[Value.oneCell']) (by unfold maxLen;omega) (by omega) (by show w.heap.size<=(wr.alloc _).heap.size;simp;omega) ?_;intro L M s J H;obtain⟨g5,aj,ad⟩:=zAm s;subst ad;have I:=X.out _ _ J;have d4:=I.at4;have d5:=I.frozen 4;have d6:=I.lt)
   all_goals
    obtain⟨D,P⟩:=V.out _ _ _ J s H;have HN:=hid P;clear P s J H;(go_wp2_with fail);go_roundw;(case rel=>exact⟨k+1,_,D,by omega,by go_num,HN.out⟩);case measure=>simp[intOf];omega
  ·(obtain rfl:k=t.lines.length:=by omega);(rename World=>w1);have a:=hid (show zGU Z w w1 vd (.slice A t.lines.length F) E (.slice U u.lines.length y) (t.lines.map zI.when_) (.slice O t.lines.length j) csl from by have h:=C.out;rw[List.take_length]at h;simpa using h);clear c C HC i K hk;have z1:=a.out.zb.at1;have zl:=a.out.zb.lt;obtain⟨N,R⟩:∃N,N=t.lines.map zI.when_:=⟨_,rfl⟩;(have T:N.length=t.lines.length:=by rw[R,List.length_map]);rw[<-R]at a;have ar:=hid R.symm;clear R;(go_wp2_with fail);clear z1 zl b1 bl;go_loopw[9] (λiv wr=>∃(k:Nat)(v:Value)(csl:List (List Value)),k<=u.lines.length/\iv= .int .i64 k/\zGU Z w wr vd (.slice A t.lines.length F) E (.slice U u.lines.length y) (N++(u.lines.take k).map zI.when_) v csl) (λiv _=>u.lines.length-(intOf iv).toNat);case atStart=>exact⟨0,_,csl,Nat.zero_le _,rfl,by simpa using a.out⟩
   case round=>
    clear a csl;obtain⟨k,v,csl,hk,rfl,c⟩:=hrel;obtain⟨O,j,hv,-,-,-⟩:=Row.of_own c.own (by decide);subst hv;(have i:(N++(u.lines.take k).map zI.when_).length =t.lines.length+k:=by rw[List.length_append,List.length_map,List.length_take,T];omega);have C:=hid c;have b1:=c.zb.at1;have bl:=c.zb.lt;by_cases K:k<u.lines.length
    ·obtain⟨b,B,cs,rfl,ae,hc,hR⟩:=ai.out.1.at_ K;obtain⟨Q,m,rfl,G⟩:=hR.form;have ab:=ai.out.2 b ae;have z:=zBV c.be ab hc;have c0:wr.cell? ⟨b,B+k*7,none⟩=_:=z 0 _ rfl;have c1:wr.cell? ⟨b,B+k*7+1,none⟩=_:=z 1 _ rfl;have c2:wr.cell? ⟨b,B+k*7+2,none⟩=_:=z 2 _ rfl;have c3:wr.cell? ⟨b,B+k*7+3,none⟩=_:=z 3 _ rfl;have c4:wr.cell? ⟨b,B+k*7+4,none⟩=_:=z 4 _ rfl;have cl:=lt_of_cell c0;have f4:=c.fb.at4;have fl:=c.fb.lt;have W:=hid (show wr.drew.ownsRow w.heap.size 40 5 (.slice O (t.lines.length+k) j) (t.lines.length+k) csl.flatten from by have h:=c.own;rw[i]at h;exact h)
     have V:=hid (show ∀(M:World)(L:Value)(o:Obj),(wr.alloc o).drew.grownBy M (Value.slice O (t.lines.length+k) j).ownBlock ->M.ownsRow w.heap.size 40 5 L (t.lines.length+k+1) (csl.flatten++[.int .i64 u.lines[k].when_.op,.string u.lines[k].when_.name,.int .i64 u.lines[k].when_.cmp,.int .i64 u.lines[k].when_.num,.slice Q u.lines[k].when_.kids.length m])->
       (L.ownBlock=(Value.slice O (t.lines.length+k) j).ownBlock \/L.ownBlock=some (wr.alloc o).drew.heap.size)->∃D,zGU Z w (M.setCell ⟨w.heap.size+1+1+1,4,none⟩ L) vd (.slice A t.lines.length F) E (.slice (some ⟨b,B,none⟩) u.lines.length y) (N++(u.lines.take (k+1)).map zI.when_) L D from λM L o hg ho aa=>by
      rw[zAu K,List.map_append,<-List.append_assoc];have hh:=C.out;rw[i]at hh
      exact⟨_,C.out.push (by rw[i];exact hg) (by rw[i];exact ho) (by rw[i];exact aa) G⟩)
     have X:=hid (λ(M:World)(o:Obj)(hg:(wr.alloc o).drew.grownBy M (Value.slice O (t.lines.length+k) j).ownBlock)=>(c.fb.alloc o).drew.grown hg (by have h:=c.ne;rw[i]at h;exact h));clear c hc z hR G C i;generalize u.lines[k]=x at*;obtain⟨⟨op,nm,Y,nu,kids⟩,au,av⟩:=x;dsimp only[Fm.op,Fm.name,Fm.cmp,Fm.num,Fm.kids]at*;go_wp2;go_region_law(refine zEH rfl (.tmp 37) (.tmp 44) _ rfl underlying38 Tryz.eFmC rfl (W.out.alloc _) rfl (news:=[.int .i64 op,.string nm,.int .i64 Y,.int .i64 nu,.slice Q kids.length m]) rfl (zIZ (cs:=[.int .i64 op,.string nm,.int .i64 Y,.int .i64 nu,.slice Q kids.length m]) (t:=40) (g:=wr.heap.size) (by have:=Blk.new wr 40 #[.int .i64 op,.string nm,.int .i64 Y,.int .i64 nu,.slice Q kids.length m];exact this.drew)) (by simp[Value.oneCell']) (by unfold maxLen;omega) (by omega) (by show w.heap.size<=(wr.alloc _).heap.size;simp;omega) ?_;intro L M s J H;obtain⟨g5,aj,ad⟩:=zAm s;subst ad;have I:=X.out _ _ J;have d4:=I.at4;have d5:=I.frozen 4;have d6:=I.lt)
     all_goals
      obtain⟨D,P⟩:=V.out _ _ _ J s H;have HN:=hid P;clear P s J H;(go_wp2_with fail);go_roundw;(case rel=>exact⟨k+1,_,D,by omega,by go_num,HN.out⟩);case measure=>simp[intOf];omega
    ·(obtain rfl:k=u.lines.length:=by omega);(rename World=>w2);have a:=hid (show zGU Z w w2 vd (.slice A t.lines.length F) E (.slice U u.lines.length y) (N++u.lines.map zI.when_) (.slice O (t.lines.length+u.lines.length) j) csl from by have h:=C.out;rw[i]at h;rw[List.take_length]at h;exact h);clear c C i K hk;obtain⟨Q,m,hv,G⟩:=a.out.fm HZ.out (by rw[List.length_append,List.length_map,T];omega);(have ac:(N++u.lines.map zI.when_).length =t.lines.length+u.lines.length:=by rw[List.length_append,List.length_map,T]);rw[ac]at hv G;injection hv with q1 _ q2;subst q1 q2
     have aq:=hid (zJd (λb=>Z b\/w.heap.size<=b) Z (Fm.mk 5 ⟨#[]⟩ 0 0 (N++u.lines.map zI.when_)) _ vd t.dom 2000 w2 G (HT.out.d.keep (zA.of_below a.out.be)) (by
      show zG (Fm.mk 5 ⟨#[]⟩ 0 0 (N++u.lines.map zI.when_))<=1000;rw[zG]
      have h1:=zNn (l:=N++u.lines.map zI.when_) (n:=40) (λf hf=>by
       rcases List.mem_append.1 hf with hf|hf
       ·rw[<-ar.out]at hf;obtain⟨x,hx,rfl⟩:=List.mem_map.1 hf;exact af.out.1 x hx
       ·obtain⟨x,hx,rfl⟩:=List.mem_map.1 hf;exact af.out.2 x hx)
      rw[ac]at h1
      omega) (by decide) (by decide))
     have f0:=a.out.fb.at0;have f1:=a.out.fb.at1;have f2:=a.out.fb.at2;have f3:=a.out.fb.at3;have f4:=a.out.fb.at4;have fl:=a.out.fb.lt;have d0:=a.out.db.at0;have dl:=a.out.db.lt;have ah:=hid a.out.be;generalize zGE (Fm.mk 5 ⟨#[]⟩ 0 0 (N++u.lines.map zI.when_)) 2000 t.dom 1=q at*;clear G ac T;(go_wp2_with fail);refine aq.out.mono ?_;rintro e w3 ⟨rfl,hb⟩;clear f0 f1 f2 f3 f4 fl d0 dl b1 bl;have ag:=hid (ah.out.trans (hb.mono ah.out.size));by_cases hq:q<=2000
     ·(go_wp2_with fail);go_ret;exact⟨_,rfl,ag.out⟩
     ·(go_wp2_with fail);go_ret;exact⟨_,rfl,ag.out⟩
end
theorem zMe(Z Z2 Zc:zE)(vd vl bt bu vc:Value)(t u:zY)(c:List Int)(w:World)(h:zAA Z w vd vl t)(h2:zAA Z2 w bt bu u)(hc:zK Zc w vc c)(hz:∀b,Z b->b<w.heap.size)(c8:∀b,Z2 b->b<w.heap.size)(c9:∀b,Zc b->b<w.heap.size)(b5:zAD w.heap.size w):
  Calls prog 6 #[.agg #[vd,vl],.agg #[bt,bu],vc] w λe w'=>e= .returned (.bool true)/\Below w.heap.size w w':=by
 have a3:=hid (λW(hW:Below w.heap.size w W)=>(show zAD W.heap.size W from(b5.on hW).mono hW.size));have N:=hid (λW(hW:Below w.heap.size w W)=>(show zAA (λb=>b<W.heap.size) W vd vl t from(h.keep (.of_below hW)).mono λb f=>Nat.lt_of_lt_of_le (hz b f) hW.size));have ai:=hid (λW(hW:Below w.heap.size w W)=>(show zAA (λb=>b<W.heap.size) W bt bu u from(h2.keep (.of_below hW)).mono λb f=>Nat.lt_of_lt_of_le (c8 b f) hW.size));have au:=hid (λW(hW:Below w.heap.size w W)=>(show zK (λb=>b<W.heap.size) W vc c from(hc.keep (.of_below hW)).mono λb f=>Nat.lt_of_lt_of_le (c9 b f) hW.size));obtain⟨D,ag,di⟩:∃A2 i,vd= .slice A2 t.dom.length i:=by obtain⟨⟨A2,i,e,_⟩,_⟩:=h.d;exact⟨A2,i,e⟩
 obtain⟨LA,ah,dj⟩:∃A2 i,vl= .slice A2 t.lines.length i:=by obtain⟨⟨A2,i,e,_⟩⟩:=h.l;exact⟨A2,i,e⟩
 obtain⟨D2,K,cy⟩:∃A2 i,bt= .slice A2 u.dom.length i:=by obtain⟨⟨A2,i,e,_⟩,_⟩:=h2.d;exact⟨A2,i,e⟩
 obtain⟨aw,L,cz⟩:∃A2 i,bu= .slice A2 u.lines.length i:=by obtain⟨⟨A2,i,e,_⟩⟩:=h2.l;exact⟨A2,i,e⟩
 obtain⟨CA,dm,dh⟩:∃A2 i,vc= .slice A2 c.length i:=by obtain⟨⟨A2,i,e,_⟩,_⟩:=hc;exact⟨A2,i,e⟩
 subst di dj cy cz dh;have ak:=hid (λ(ha:z7 t=true)(f:z7 u=true)(hd:t.dom=u.dom)=>zSN ha f hd);have ad:=hid (λh=>zSO (a:=t) (b:=u) h);clear h h2 hc hz c8 c9 b5;obtain⟨dn,cn⟩:∃n,n=t.dom.length:=⟨_,rfl⟩;obtain⟨dn2,b0⟩:∃n,n=u.dom.length:=⟨_,rfl⟩;obtain⟨nl,ct⟩:∃n,n=t.lines.length:=⟨_,rfl⟩;obtain⟨ax,b2⟩:∃n,n=u.lines.length:=⟨_,rfl⟩;rw[<-cn,<-ct]at N⊢;rw[<-b0,<-b2]at ai⊢;clear cn b0 ct b2;have ba:=hid ((Blk.new w 27 #[.slice D dn ag,.slice LA nl ah]).alloc (.cells #[.slice D2 dn2 K,.slice aw ax L] 27));have bk:=hid (Blk.new' (w.alloc (.cells #[.slice D dn ag,.slice LA nl ah] 27)) 27 #[.slice D2 dn2 K,.slice aw ax L] (n:=w.heap.size+1) (by simp));have b6:=hid ((zF w (.cells #[.slice D dn ag,.slice LA nl ah] 27)).alloc (by simp) (.cells #[.slice D2 dn2 K,.slice aw ax L] 27));go_enter func6,ntmps6
 go_upto_region 1 with fail
 generalize (w.alloc (.cells #[.slice D dn ag,.slice LA nl ah] 27)).alloc (.cells #[.slice D2 dn2 K,.slice aw ax L] 27)=w1 at*;have oq:=ba.out.lt;have R:=bk.out.lt;go_wp2_with fail
 refine(zEU _ (a3.out _ b6.out)).mono ?_;rintro e w2 ⟨rfl,f⟩;have bb:=hid (ba.out.below f ba.out.lt);have bl:=hid (bk.out.below f bk.out.lt);have a7:=hid (zD b6.out f);clear f ba bk b6 oq R;obtain⟨O,j,P,k,Q⟩:=bb.out.c2;have R:=bl.out.lt;go_wp2_with fail
 refine(zEp _ _ _ _ _ t c _ (N.out _ a7.out) (au.out _ a7.out) (λ_ h=>h)).mono ?_;rintro e w3 ⟨b,rfl,f,al⟩;have bc:=hid (bb.out.below f bb.out.lt);have bm:=hid (bl.out.below f bl.out.lt);have a8:=hid (zD a7.out f);have a2:=hid al;clear al;clear f bb bl a7 O P j k Q R;cases b
 ·go_wp2_with fail
  go_ret;exact⟨rfl,a8.out⟩
 ·obtain⟨cq,b4,-⟩:=a2.out (by first|exact rfl|trivial);have cd:=hid (And.intro cq b4);clear cq b4 a2;have oq:=bc.out.lt;obtain⟨q0,B,q1,C,ql⟩:=bm.out.c2;go_wp2_with fail
  refine(zEp _ (λ_=>False) _ _ _ u [] _ (ai.out _ a8.out) (zK.nil _ _) (λ_ h=>h)).mono ?_;rintro e w4 ⟨b,rfl,f,al⟩;have bd:=hid (bc.out.below f bc.out.lt);have bn:=hid (bm.out.below f bm.out.lt);have az:=hid (zD a8.out f);have a2:=hid al;clear al;clear f bc bm a8 oq q0 q1 B C ql;cases b
  ·(go_wp2_with fail);go_ret;exact⟨rfl,az.out⟩
  ·obtain⟨cp,b1,-⟩:=a2.out (by first|exact rfl|trivial);have HS:=hid (And.intro cd.out.2 b1);have cm:=hid cp;clear cp b1 a2;obtain⟨O,j,P,k,Q⟩:=bd.out.c2;obtain⟨q0,B,q1,C,ql⟩:=bn.out.c2;(go_wp2_with fail);refine(zOV _ _ _ _ _ t u _ (N.out _ az.out) (ai.out _ az.out) (λ_ h=>h) cd.out.1 HS.out.1 cm.out HS.out.2).mono ?_;rintro e w5 ⟨b,rfl,f⟩;have bf:=hid (bd.out.below f bd.out.lt);have bo:=hid (bn.out.below f bn.out.lt);have ar:=hid (zD az.out f);clear f bd bn az O P j k Q q0 q1 B C ql;cases b
   ·(go_wp2_with fail);go_ret;exact⟨rfl,ar.out⟩
   ·clear cd cm;obtain⟨O,j,P,k,Q⟩:=bf.out.c2;obtain⟨q0,B,q1,C,ql⟩:=bo.out.c2;(go_wp2_with fail);refine(zDn _ _ _ _ _ _ t u _ (N.out _ ar.out) (ai.out _ ar.out) (λ_ h=>h) (λ_ h=>h) (λx hx=>Nat.le_trans (HS.out.1 x hx) (by decide)) (λx hx=>Nat.le_trans (HS.out.2 x hx) (by decide)) (a3.out _ ar.out)).mono ?_;rintro e w6 ⟨v1,rfl,hi,f⟩;have bg:=hid (bf.out.below f bf.out.lt);have bp:=hid (bo.out.below f bo.out.lt);have a0:=hid (zD ar.out f);have g:=hid (hi.live.mono (Z':=λb=>b<w6.heap.size) λb h=>h.2);clear hi;clear f bf bo ar O P j k Q q0 q1 B C ql;obtain⟨O,j,P,k,Q⟩:=bg.out.c2;obtain⟨q0,B,q1,C,ql⟩:=bp.out.c2;(go_wp2_with fail);refine(zDn _ _ _ _ _ _ u t _ (ai.out _ a0.out) (N.out _ a0.out) (λ_ h=>h) (λ_ h=>h) (λx hx=>Nat.le_trans (HS.out.2 x hx) (by decide)) (λx hx=>Nat.le_trans (HS.out.1 x hx) (by decide)) (a3.out _ a0.out)).mono ?_;rintro e w7 ⟨v2,rfl,hi,f⟩;have bh:=hid (bg.out.below f bg.out.lt);have bq:=hid (bp.out.below f bp.out.lt);have b7:=hid (zD a0.out f);replace g:=hid ((g.out.keep (.of_below f)).mono (Z':=λb=>b<w7.heap.size) λb h=>Nat.lt_of_lt_of_le h f.size);have J:=hid (hi.live.mono (Z':=λb=>b<w7.heap.size) λb h=>h.2);clear hi;clear f bg bp a0 O P j k Q q0 q1 B C ql;generalize zS t u=R1 at*;generalize zS u t=R2 at*;obtain⟨r1,e1⟩:=R1;obtain⟨r2,e2⟩:=R2;dsimp only at ak g J;obtain⟨O,j,P,k,Q⟩:=bh.out.c2;have R:=bq.out.lt;(go_wp2_with fail);refine(zBX _ _ _ t _ (N.out _ b7.out) (λ_ h=>h) (λx hx=>Nat.le_trans (HS.out.1 x hx) (by decide))).mono ?_;rintro e w8 ⟨rfl,f⟩;have bi:=hid (bh.out.below f bh.out.lt);have br:=hid (bq.out.below f bq.out.lt);have a9:=hid (zD b7.out f);replace g:=hid ((g.out.keep (.of_below f)).mono (Z':=λb=>b<w8.heap.size) λb h=>Nat.lt_of_lt_of_le h f.size);replace J:=hid ((J.out.keep (.of_below f)).mono (Z':=λb=>b<w8.heap.size) λb h=>Nat.lt_of_lt_of_le h f.size);clear f bh bq b7 O P j k Q R;obtain⟨de,cg,rfl,-⟩:=g.out.is;obtain⟨dq,dk,rfl,-⟩:=J.out.is;obtain⟨vt,c0⟩:∃vt,vt=z7 t:=⟨_,rfl⟩;rw[<-c0]at ak ad⊢;clear c0;cases vt
    ·obtain⟨aa,ab⟩:=ad.out (.inl rfl);injection aa with aa hb3;injection ab with ab hb4;subst aa ab hb3 hb4;(go_wp2_with fail);go_ret;exact⟨rfl,a9.out⟩
    ·skip
     have oq:=bi.out.lt;obtain⟨q0,B,q1,C,ql⟩:=br.out.c2;(go_wp2_with fail);refine(zBX _ _ _ u _ (ai.out _ a9.out) (λ_ h=>h) (λx hx=>Nat.le_trans (HS.out.2 x hx) (by decide))).mono ?_;rintro e w9 ⟨rfl,f⟩;have bj:=hid (bi.out.below f bi.out.lt);have bs:=hid (br.out.below f br.out.lt);have a1:=hid (zD a9.out f);replace g:=hid ((g.out.keep (.of_below f)).mono (Z':=λb=>b<w9.heap.size) λb h=>Nat.lt_of_lt_of_le h f.size);replace J:=hid ((J.out.keep (.of_below f)).mono (Z':=λb=>b<w9.heap.size) λb h=>Nat.lt_of_lt_of_le h f.size);clear f bi br a9 oq q0 q1 B C ql;obtain⟨vu,c6⟩:∃vu,vu=z7 u:=⟨_,rfl⟩;rw[<-c6]at ak ad⊢;clear c6;cases vu
     ·obtain⟨aa,ab⟩:=ad.out (.inr (.inl rfl));injection aa with aa hb3;injection ab with ab hb4;subst aa ab hb3 hb4;(go_wp2_with fail);go_ret;exact⟨rfl,a1.out⟩
     ·skip
      obtain⟨O,j,P,k,Q⟩:=bj.out.c2;obtain⟨q0,B,q1,C,ql⟩:=bs.out.c2;(go_wp2_with fail);refine(zRM _ _ _ _ t.dom u.dom _ (N.out _ a1.out).d (ai.out _ a1.out).d).mono ?_;rintro e ch ⟨rfl,f⟩;have ap:=hid (bj.out.below f bj.out.lt);have aq:=hid (bs.out.below f bs.out.lt);have ac:=hid (zD a1.out f);replace g:=hid ((g.out.keep (.of_below f)).mono (Z':=λb=>b<ch.heap.size) λb h=>Nat.lt_of_lt_of_le h f.size);replace J:=hid ((J.out.keep (.of_below f)).mono (Z':=λb=>b<ch.heap.size) λb h=>Nat.lt_of_lt_of_le h f.size);clear f bj bs a1 O P j k Q q0 q1 B C ql;by_cases hd:t.dom=u.dom
      ·have HL:=hid (ak.out (by first|exact rfl|trivial) (by first|exact rfl|trivial) hd);have a4:decide (t.dom=u.dom)=true:=decide_eq_true hd;have dp:=hid hd;clear ak ad hd;rw[a4];clear a4;by_cases he:e1=0/\e2=0
       ·obtain⟨df,dg⟩:=he;subst df dg;obtain⟨hr,hs,cu⟩:=HL.out.2.2 (by first|exact rfl|trivial) (by first|exact rfl|trivial);subst hr;have ce:=hid hs;have cb:=hid cu;clear hs cu HL;have b8:=hid (zLW _ _ _ _ _ _ ch g.out J.out);have cv:decide (r2.getD []=r2.getD [])=true:=decide_eq_true rfl;rw[cv]at b8;clear cv;have oq:=ap.out.lt;have R:=aq.out.lt;(go_wp2_with fail);refine(b8.out).mono ?_;rintro e da ⟨rfl,f⟩;have ae:=hid (ap.out.below f ap.out.lt);have af:=hid (aq.out.below f aq.out.lt);have aj:=hid (zD ac.out f);replace g:=hid ((g.out.keep (.of_below f)).mono (Z':=λb=>b<da.heap.size) λb h=>Nat.lt_of_lt_of_le h f.size);replace J:=hid ((J.out.keep (.of_below f)).mono (Z':=λb=>b<da.heap.size) λb h=>Nat.lt_of_lt_of_le h f.size);clear f ap aq ac b8 oq R;(go_upto_if 124 with fail);go_cut[] from 124 to 169 (λwx=>Blk wx w.heap.size 27 #[.slice D dn ag,.slice LA nl ah]/\Blk wx (w.heap.size+1) 27 #[.slice D2 dn2 K,.slice aw ax L]/\Below w.heap.size w wx/\(fits t.dom c=true->outT t c=outT u c))
        case first=>
         cases r2 with
         |none=>
          (go_wp2_with fail);go_meet;exact⟨ae.out,af.out,aj.out,λh=>cb.out (by first|exact rfl|trivial) c h⟩
         |some q=>
          obtain⟨co,a6,cr⟩:=ce.out q (by first|exact rfl|trivial);have b9:=hid co;have cl:=hid a6;have dc:=hid cr;clear co a6 cr ce cb J;dsimp only[Option.getD,Option.isSome]at g⊢;obtain⟨O,j,P,k,Q⟩:=ae.out.c2;have R:=af.out.lt;(go_wp2_with fail);refine(zEj _ _ _ _ _ t q _ (N.out _ aj.out) g.out (λ_ h=>h) (λ_ h=>h) (λx hx=>Nat.le_trans (HS.out.1 x hx) (by decide))).mono ?_;rintro e ci ⟨rfl,f⟩;have m:=hid (ae.out.below f ae.out.lt);have o:=hid (af.out.below f af.out.lt);have A:=hid (zD aj.out f);replace g:=hid ((g.out.keep (.of_below f)).mono (Z':=λb=>b<ci.heap.size) λb h=>Nat.lt_of_lt_of_le h f.size);clear f ae af aj O P j k Q R;have oq:=m.out.lt;obtain⟨q0,B,q1,C,ql⟩:=o.out.c2;(go_wp2_with fail);refine(zEj _ _ _ _ _ u q _ (ai.out _ A.out) g.out (λ_ h=>h) (λ_ h=>h) (λx hx=>Nat.le_trans (HS.out.2 x hx) (by decide))).mono ?_;rintro e bv ⟨rfl,f⟩;have y:=hid (m.out.below f m.out.lt);have z:=hid (o.out.below f o.out.lt);have s:=hid (zD A.out f);replace g:=hid ((g.out.keep (.of_below f)).mono (Z':=λb=>b<bv.heap.size) λb h=>Nat.lt_of_lt_of_le h f.size);clear f m o A oq q0 q1 B C ql;(go_upto_region 15 with fail);go_cut[158] from 139 to 158 (λv wx=>v= .bool false/\Blk wx w.heap.size 27 #[.slice D dn ag,.slice LA nl ah]/\Blk wx (w.heap.size+1) 27 #[.slice D2 dn2 K,.slice aw ax L]/\Below w.heap.size w wx/\zK (λb=>b<wx.heap.size) wx (.slice de q.length cg) q)
          case first=>
           have ca:=hid (zCX _ _ _ t.dom q bv (N.out _ s.out).d g.out);rw[b9.out]at ca;obtain⟨O,j,P,k,Q⟩:=y.out.c2;have R:=z.out.lt;(go_wp2_with fail);refine(ca.out).mono ?_;rintro e cj ⟨rfl,f⟩;have V:=hid (y.out.below f y.out.lt);have Y:=hid (z.out.below f z.out.lt);have T:=hid (zD s.out f);replace g:=hid ((g.out.keep (.of_below f)).mono (Z':=λb=>b<cj.heap.size) λb h=>Nat.lt_of_lt_of_le h f.size);clear f y z s ca b9 O P j k Q R;generalize outT t q=X1 at*;generalize outT u q=X2 at*;obtain⟨⟨s1,c1⟩,m1⟩:=X1;obtain⟨⟨s2,c2⟩,m2⟩:=X2;have a6:=cl.out;dsimp only at a6;by_cases cx:s1=s2
           ·subst cx;(have dr:(c1==c2)=false:=by simpa using λh:c1=c2=>a6 (by rw[h]));(have cw:(s1.toList==s1.toList)=true:=by simp);(go_wp2_with fail);go_meet;exact⟨rfl,V.out,Y.out,T.out,g.out⟩
           ·(have cw:(s1.toList==s2.toList)=false:=by rw[zAh];exact decide_eq_false cx);(go_wp2_with fail);go_meet;exact⟨rfl,V.out,Y.out,T.out,g.out⟩
          case rest=>
           obtain⟨rfl,hT,hU,hB,hI⟩:=hcut;(rename World=>db);have E:=hid hT;have G:=hid hU;have M:=hid hB;clear y z s hT hU hB cl b9;replace g:=hid hI;clear hI;have dd:=hid (dc.out c);have I:=hid (zCX _ _ _ t.dom c db (N.out _ M.out).d (au.out _ M.out));by_cases ao:fits t.dom c=true
           ·rw[ao]at I;obtain⟨O,j,P,k,Q⟩:=E.out.c2;have R:=G.out.lt;(go_wp2_with fail);refine(I.out).mono ?_;rintro e ck ⟨rfl,f⟩;have F:=hid (E.out.below f E.out.lt);have H:=hid (G.out.below f G.out.lt);have U:=hid (zD M.out f);replace g:=hid ((g.out.keep (.of_below f)).mono (Z':=λb=>b<ck.heap.size) λb h=>Nat.lt_of_lt_of_le h f.size);clear f E G M I O P j k Q R;have av:=hid (zLx _ _ _ _ c q ck (au.out _ U.out) g.out);by_cases cf:zC9 c q=true
            ·rw[cf]at av;have oq:=F.out.lt;have R:=H.out.lt;(go_wp2_with fail);refine(av.out).mono ?_;rintro e dl ⟨rfl,f⟩;have bx:=hid (F.out.below f F.out.lt);have bz:=hid (H.out.below f H.out.lt);have ay:=hid (zD U.out f);clear f F H U av oq R;(go_wp2_with fail);go_meet;exact⟨bx.out,bz.out,ay.out,λ_=>dd.out ao cf⟩
            ·(have cs:zC9 c q=false:=by simpa using cf);rw[cs]at av;have oq:=F.out.lt;have R:=H.out.lt;(go_wp2_with fail);refine(av.out).mono ?_;rintro e dl ⟨rfl,f⟩;have bx:=hid (F.out.below f F.out.lt);have bz:=hid (H.out.below f H.out.lt);have ay:=hid (zD U.out f);clear f F H U av oq R;(go_wp2_with fail);go_ret;exact⟨rfl,ay.out⟩
           ·(have a5:fits t.dom c=false:=by simpa using ao);rw[a5]at I;obtain⟨O,j,P,k,Q⟩:=E.out.c2;have R:=G.out.lt;(go_wp2_with fail);refine(I.out).mono ?_;rintro e ck ⟨rfl,f⟩;have F:=hid (E.out.below f E.out.lt);have H:=hid (G.out.below f G.out.lt);have U:=hid (zD M.out f);clear f E G M I O P j k Q R;(go_wp2_with fail);go_ret;exact⟨rfl,U.out⟩
        case rest=>
         obtain⟨hT,hU,hB,b3⟩:=hcut;(rename World=>ci);have m:=hid hT;have o:=hid hU;have A:=hid hB;have bw:=hid b3;clear ae af aj hT hU hB b3 g J ce cb;have I:=hid (zCX _ _ _ t.dom c ci (N.out _ A.out).d (au.out _ A.out));by_cases ao:fits t.dom c=true
         ·rw[ao]at I;obtain⟨O,j,P,k,Q⟩:=m.out.c2;have R:=o.out.lt;(go_wp2_with fail);refine(I.out).mono ?_;rintro e bv ⟨rfl,f⟩;have y:=hid (m.out.below f m.out.lt);have z:=hid (o.out.below f o.out.lt);have s:=hid (zD A.out f);clear f m o A I O P j k Q R;obtain⟨O,j,P,k,Q⟩:=y.out.c2;have R:=z.out.lt;(go_wp2_with fail);refine(zEj _ _ _ _ _ t c _ (N.out _ s.out) (au.out _ s.out) (λ_ h=>h) (λ_ h=>h) (λx hx=>Nat.le_trans (HS.out.1 x hx) (by decide))).mono ?_;rintro e cj ⟨rfl,f⟩;have V:=hid (y.out.below f y.out.lt);have Y:=hid (z.out.below f z.out.lt);have T:=hid (zD s.out f);clear f y z s O P j k Q R;have cc:=hid (zEj _ _ _ _ _ u c cj (ai.out _ T.out) (au.out _ T.out) (λ_ h=>h) (λ_ h=>h) (λx hx=>Nat.le_trans (HS.out.2 x hx) (by decide)));rw[<-bw.out ao]at cc;have oq:=V.out.lt;obtain⟨q0,B,q1,C,ql⟩:=Y.out.c2;(go_wp2_with fail);refine(cc.out).mono ?_;rintro e db ⟨rfl,f⟩;have E:=hid (V.out.below f V.out.lt);have G:=hid (Y.out.below f Y.out.lt);have M:=hid (zD T.out f);clear f V Y T cc bw oq q0 q1 B C ql;generalize outT t c=X at*;obtain⟨⟨s1,c1⟩,m1⟩:=X;(have cw:(s1.toList==s1.toList)=true:=by simp);(have ds:(c1==c1)=true:=by simp);(have dt:(m1==m1)=true:=by simp);(go_wp2_with fail);go_ret;exact⟨rfl,M.out⟩
         ·(have a5:fits t.dom c=false:=by simpa using ao);rw[a5]at I;obtain⟨O,j,P,k,Q⟩:=m.out.c2;have R:=o.out.lt;(go_wp2_with fail);refine(I.out).mono ?_;rintro e bv ⟨rfl,f⟩;have y:=hid (m.out.below f m.out.lt);have z:=hid (o.out.below f o.out.lt);have s:=hid (zD A.out f);clear f m o A I O P j k Q R;(go_wp2_with fail);go_ret;exact⟨rfl,s.out⟩
       ·obtain⟨ha,f,-⟩:=HL.out;rcases ha with rfl|rfl<;>rcases f with rfl|rfl
        ·exact absurd ⟨rfl,rfl⟩ he
        ·(go_wp2_with fail);go_ret;exact⟨rfl,ac.out⟩
        ·(go_wp2_with fail);go_ret;exact⟨rfl,ac.out⟩
        ·(go_wp2_with fail);go_ret;exact⟨rfl,ac.out⟩
      ·have a4:decide (t.dom=u.dom)=false:=decide_eq_false hd;rw[a4];clear a4;obtain⟨aa,ab⟩:=ad.out (.inr (.inr hd));injection aa with aa hb3;injection ab with ab hb4;subst aa ab hb3 hb4;(go_wp2_with fail);go_ret;exact⟨rfl,ac.out⟩
section
open Go.ChangeShapes Go.WideShapes Go.ChangeAt
theorem zIV(os:Os)(c:os.Started)(H:Type)(enc:TypeId × Value->H):
  ReturnsInHanded {} Tryz.checked os 6 .any (λw args=>(Rows.tariffDiffersSpec.pre enc prog Tryz.f6 [] false w args/\laidMetH prog zCV w)/\sizedMet enc prog Tryz.f6 (OpenSpec.ofChange Rows.tariffDiffersSpec) false w args)
   (Rows.tariffDiffersSpec.post enc prog Tryz.f6 false true false false):=by
 refine returnsInHanded_of_change_and (C:=Tryz.checked) (X:=λw _=>laidMetH prog zCV w) (λ_ _ _ N h=>h.of_heap N) own c (by kernel_rfl) func6
  (ChangeSpec.witness_shaped (enc:=enc) (C:=Tryz.checked) (os:=os) (X:=λw _=>laidMetH prog zCV w) false (World.doorLaid prog 62 os) #[.agg #[.slice none 0 0,.slice none 0 0],.agg #[.slice none 0 0,.slice none 0 0],.slice none 0 0] 8 rfl (World.shaped_of_RefB (by kernel_rfl) (by kernel_rfl)) (by kernel_rfl) (by kernel_rfl) (by kernel_rfl) (zFd os _)) ?_
 intro W i args x G n b y _ f L _;have a:∀(j:Nat) t v,Tryz.f6.params[j]? =some t->args[j]? =some v->Value.okWide prog W .any i t v:=b;have m:=y;obtain⟨p,q,k,M,rfl,-,-⟩:=y;have o:DataW.TrodAll enc prog W 0 (λ_=>true) true Tryz.f6.params.toList args.toList x p:=k;have d:(DataW.weightsEach prog (Tryz.f6.params.toList++Rows.tariffDiffersSpec.plain.varTypes prog) (x++G)).all (· <=reachBytes)=true:=f;clear k f b;obtain⟨rfl,rfl⟩:=trodVars_none M;simp only[List.append_nil]at m;have s:=o;rw[params6]at o a d;obtain⟨U,Z,d0,D,p0,q0,g,rfl,rfl,I,O⟩:=trodAll_cons o;obtain⟨V,aa,d1,E,p1,q1,rfl,rfl,rfl,J,P⟩:=trodAll_cons O;obtain⟨Y,ab,d2,F,p2,q2,rfl,rfl,rfl,K,Q⟩:=trodAll_cons P;obtain⟨rfl,rfl,rfl⟩:=trodAll_nil Q;obtain rfl:args=#[U,V,Y]:=by simpa using congrArg List.toArray g
 obtain⟨x0,y0,R,rfl,z⟩:=zFn (a 0 27 _ rfl rfl) I (zDe d (j:=0) rfl rfl);obtain⟨x1,y1,T,rfl,A⟩:=zFn (a 1 27 _ rfl rfl) J (zDe d (j:=1) rfl rfl);obtain⟨u,B⟩:=zI4 (a 2 29 _ rfl rfl) K (zDe d (j:=2) rfl rfl);refine(zMe (zCt W) (zCt W) (zCt W) _ _ _ _ _ R T u W z A B (λ_ h=>h) (λ_ h=>h) (λ_ h=>h) (zDi L)).mono λe W' ⟨he,hb⟩=> ?_
 subst he;exact⟨_,rfl,zFe m s rfl rfl (by kernel_rfl) (by kernel_rfl) hb⟩
theorem zJR:(Rows.tariffDiffersRow.inPlace==prog.inPlace 6)=true:=by kernel_rfl
theorem zIW:(Rows.tariffDiffersRow.unfollowed==prog.unfollowed 6)=true:=by kernel_rfl
theorem zIX:(Rows.tariffDiffersRow.recurses==prog.recurses 6)=true:=by kernel_rfl
theorem zJS:(Rows.tariffDiffersRow.named==prog.varsNamed 6)=true:=by kernel_rfl
theorem zJT:joinedFacts prog 6 Tryz.f6 Rows.tariffDiffersSpec Rows.tariffDiffersRow=true:=
 zDS (by kernel_rfl) laidOut zGm (by kernel_rfl) (by kernel_rfl) rfl zGn rfl zGo zJR zIW zIX zJS (by kernel_rfl) (by kernel_rfl) (by kernel_rfl) (by kernel_rfl) (by kernel_rfl) rfl (by kernel_rfl) (by kernel_rfl) (by kernel_rfl)
  zIL rfl zGp zGq zGr zIM rfl (by kernel_rfl) (by kernel_rfl) (by kernel_rfl)
theorem zJU:Rows.TariffDiffersSaid:=
 OpenClaim.holds_of_wide 6 Tryz.f6 rfl rfl rfl rfl rfl rfl rfl ⟨rfl,rfl,rfl,rfl,rfl⟩ rfl rfl rfl rfl rfl (by kernel_rfl) func6 zJT
  (of_decide_eq_true (by kernel_rfl)) (by unfold Func.isWrapper;rw[if_neg (of_decide_eq_false (by kernel_rfl))];exact⟨rfl,rfl⟩)
  (λc a H b _=>zIV c a H b)
theorem tariffdiffers_card:Rows.TariffDiffersCardSaid:=
 Claim7.holds_tied_plain_at .later [] [.data,.data,.data,.sentinel,.sentinel] true (true,"9d5f64aa18c290daaccff0ab2ce20b26d467f80ee7c9efc2112ab5ceb4813111") true
  zJU (λ_ h=>by cases h) (by kernel_rfl) (λ_ h=>by cases h) tariffDiffers_row_tie rfl ⟨rfl,rfl⟩ (by kernel_rfl) rfl
  (λf fn hf hfn=>by
   obtain rfl:f=6:=Option.some.inj ((show prog.funcNamed "customhouse/customhouselaw27.TariffDiffers" =some 6 by kernel_rfl).symm.trans hf) |>.symm;obtain rfl:fn=Tryz.f6:=(Option.some.inj (func6.symm.trans hfn)).symm
   exact⟨by kernel_rfl,λj t ht=>by
    rw[params6]at ht;(have hm:t∈[27,27,29]:=by simpa using Array.mem_of_getElem? ht);have hall:([27,27,29].all λu=> !prog.wantsStandIn u)=true:=by kernel_rfl
    exact(show prog.wantsStandIn t=false by simpa using List.all_eq_true.1 hall t hm)⟩)
  (by kernel_rfl)
end
end Go.Proofs.YthpocbeoanipbaaGreatDoor
