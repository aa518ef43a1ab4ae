/- Texts TN TN2 TT TI3. -/
import Derived.Test.YthpocbeoanipbaaGreatDoorM24
import Derived.Test.YthpocbeoanipbaaGreatDoorM33
set_option linter.all false
namespace Go.Proofs.YthpocbeoanipbaaGreatDoor
open Go.RowKit Go.Proofs.Tryz
set_option maxHeartbeats 8000000
set_option maxRecDepth 100000
variable{B k:Nat}{Z:zE}{csl:List (List Value)}{fs:List Fm}{r ts:List Tok}{t:Tok}{w wr:World}{α:Type}
section
open Go.Shelf
theorem Tryz.eFmC:zB0 prog 40 5 64:=zBp (z:= .agg #[.int .i64 0,.string ⟨#[]⟩,.int .i64 0,.int .i64 0,.slice none 0 0]) (by kernel_rfl) rfl (by decide)
structure zIx (Z:zE) (w wr:World) (vd vl:Value) (fs:List Fm) (v:Value) (csl:List (List Value)):Prop where
 fb:Blk wr (w.heap.size+1+1+1) 40 #[.int .i64 5,.string ⟨#[]⟩,.int .i64 0,.int .i64 0,v]
 db:Blk wr w.heap.size 24 #[vd]
 tb:Blk wr (w.heap.size+1) 27 #[vd,vl]
 zb:Blk wr (w.heap.size+1+1) 27 #[.slice none 0 0,.slice none 0 0]
 own:wr.ownsRow w.heap.size 40 5 v fs.length csl.flatten
 each:zc (λcs f=>FmR Z w f cs) 5 fs csl
 ne:v.ownBlock≠some (w.heap.size+1+1+1)
 be:Bw w wr
theorem zIx.push{w wr m:World}{vd s v c:Value}{f:Fm}{cs:List Value}{o:Obj}(h:zIx Z w wr vd s fs v csl)(d:(wr.alloc o).drew.grownBy m v.ownBlock)
  (z:m.ownsRow w.heap.size 40 5 c (fs.length+1) (csl.flatten++cs))(i:c.ownBlock=v.ownBlock\/c.ownBlock=some (wr.alloc o).drew.heap.size)(q:FmR Z w f cs):
  zIx Z w (m.setCell ⟨w.heap.size+1+1+1,4,none⟩ c) vd s (fs++[f]) c (csl++[cs]):=by
 have B:=h.db.lt;have hF:=h.fb.lt;have j:(wr.alloc o).drew.heap.size =wr.heap.size+1:=by show(wr.alloc o).heap.size =_;simp
 have a:c.ownBlock≠some (w.heap.size+1+1+1):=by
  rcases i with e|e
  ·rw[e];exact h.ne
  ·rw[e,j];intro n;injection n with n;omega
 have y:cs.length=5:=by obtain⟨A,t,rfl⟩:=FmR.form q;rfl
 refine⟨((h.fb.alloc o).drew.grown d h.ne).set_ 4 _,((h.db.alloc o).drew.grown d (zDD h.db h.own (by decide))).far (by show w.heap.size≠w.heap.size+1+1+1;omega) _,((h.tb.alloc o).drew.grown d (zDD h.tb h.own (by decide))).far (by show w.heap.size+1≠w.heap.size+1+1+1;omega) _,
  ((h.zb.alloc o).drew.grown d (zDD h.zb h.own (by decide))).far (by show w.heap.size+1+1≠w.heap.size+1+1+1;omega) _,?_,h.each.append (zc.one q y),a,?_⟩
 ·have g:=zX (Z:=λb=>b≠w.heap.size+1+1+1) z ((zA.refl _ _).setCell (p:=⟨w.heap.size+1+1+1,4,none⟩) (λ_ h=>h rfl) c) (λk x e=>a (by rw[x,e]));simpa using g
 ·have g:Bw w (wr.alloc o).drew :=(h.be.alloc h.be.size o).drew;have u:(wr.alloc o).drew.ownsRow w.heap.size 40 5 v fs.length csl.flatten:=h.own.alloc o;exact(ze g u d g.size (Nat.le_refl _)).setCell (p:=⟨w.heap.size+1+1+1,4,none⟩) (by show w.heap.size<=w.heap.size+1+1+1;omega) c
theorem zIx.fm{vd o v:Value}(h:zIx Z w wr vd o fs v csl)(t:∀b,Z b->b<w.heap.size)(s:fs.length<=1000):
  ∃A a,v= .slice A fs.length a/\FmR (λb=>Z b\/w.heap.size<=b) wr (.mk 5 ⟨#[]⟩ 0 0 fs) [.int .i64 5,.string ⟨#[]⟩,.int .i64 0,.int .i64 0,.slice A fs.length a]:=by
 obtain⟨A,a,rfl,g,i,j⟩:=Row.of_own h.own (by decide);refine⟨A,a,rfl,?_⟩;unfold FmR;refine⟨by unfold I64;omega,by decide,by unfold I64;omega,by unfold I64;omega,A,a,rfl,g,by simpa[maxLen]using i,by omega,zi.of_seq ?_⟩
 cases fs with
 |nil=>unfold zm;trivial
 |cons p r=>
  have d:csl.flatten≠[]:=by
   intro e;have:=h.each.size;rw[e]at this;simp at this
  obtain⟨b,n,rfl,c,k⟩:=j d;exact zc.rows (Or.inr c) (h.each.imp λq f m=>FmR.mono (λ_ c=>Or.inl c) _ _ (FmR.keep (zA.of_below h.be) _ _ m)) k
theorem zNn{l:List Fm}{n:Nat}(h:∀f∈l,zG f<=n):zM l<=l.length*n:=by
 induction l with
 |nil=>simp[zM]
 |cons a r ih=>
  rw[zM,List.length_cons,Nat.succ_mul];have c:=h a (by simp);have d:=ih λf b=>h f (by simp[b])
  omega
theorem zQI(Z:zE)(vd vl:Value)(t:zY)(w:World)(ht:zAA Z w vd vl t)(hz:∀b,Z b->b<w.heap.size)(h8:t.lines.length<=8)(O:∀x∈t.lines,zG x.when_<=40):
  Calls prog 19 #[.agg #[vd],.agg #[vd,vl],.agg #[.slice none 0 0,.slice none 0 0]] w (zRi w):=by
 obtain⟨⟨A,u,rfl,-,-,-,hs⟩⟩:=ht.l;have HS:=hid (And.intro hs hz);have HT:=hid ht;have R:=hid O;have HZ:=hid hz;clear hs ht O hz;go_enter func19,ntmps19
 go_upto_region 2 with fail
 have T:=hid (show zIx Z w ((((w.alloc (.cells #[vd] 24)).alloc (.cells #[vd,.slice A t.lines.length u] 27)).alloc (.cells #[.slice none 0 0,.slice none 0 0] 27)).alloc (.cells #[.int .i64 5,.string ⟨#[]⟩,.int .i64 0,.int .i64 0,.slice none 0 0] 40)) vd (.slice A t.lines.length u) [] (.slice none 0 0) [] from
  ⟨Blk.new' _ _ _ (by simp),(((Blk.new w _ _).alloc _).alloc _).alloc _,((Blk.new' _ _ _ (by simp)).alloc _).alloc _,(Blk.new' _ _ _ (by simp)).alloc _,World.ownsRow_nil _ _ _ _,trivial,λh=>(by cases h),((((Below.refl _ _).alloc (Nat.le_refl _) _).alloc (by simp) _).alloc (by simp;omega) _).alloc (by simp;omega) _⟩)
 generalize ((((w.alloc (.cells #[vd] 24)).alloc (.cells #[vd,.slice A t.lines.length u] 27)).alloc (.cells #[.slice none 0 0,.slice none 0 0] 27)).alloc (.cells #[.int .i64 5,.string ⟨#[]⟩,.int .i64 0,.int .i64 0,.slice none 0 0] 40))=w0 at*;go_wp2_with fail
 go_loopw[8] (λiv wr=>∃(k:Nat)(v:Value)(csl:List (List Value)),k<=t.lines.length/\iv= .int .i64 k/\zIx Z w wr vd (.slice A t.lines.length u) ((t.lines.take k).map zI.when_) v csl) (λiv _=>t.lines.length-(intOf iv).toNat);case atStart=>exact⟨0,_,[],Nat.zero_le _,rfl,T.out⟩
 case round=>
  obtain⟨k,v,csl,hk,rfl,c⟩:=hrel;obtain⟨N,m,Q,-,-,-⟩:=Row.of_own c.own (by decide);subst Q;have j:((t.lines.take k).map zI.when_).length =k:=by rw[List.length_map,List.length_take];omega
  have C:=hid c;have b1:=c.tb.at1;have bl:=c.tb.lt;by_cases H:k<t.lines.length
  ·obtain⟨b,B,cs,rfl,ae,hc,hR⟩:=HS.out.1.at_ H;obtain⟨K,i,rfl,z⟩:=hR.form;have ab:=HS.out.2 b ae;have y:=zBV c.be ab hc;have c0:wr.cell? ⟨b,B+k*7,none⟩=_:=y 0 _ rfl;have c1:wr.cell? ⟨b,B+k*7+1,none⟩=_:=y 1 _ rfl;have c2:wr.cell? ⟨b,B+k*7+2,none⟩=_:=y 2 _ rfl;have c3:wr.cell? ⟨b,B+k*7+3,none⟩=_:=y 3 _ rfl;have c4:wr.cell? ⟨b,B+k*7+4,none⟩=_:=y 4 _ rfl;have cl:=lt_of_cell c0;have f4:=c.fb.at4;have fl:=c.fb.lt;have W:=hid (show wr.drew.ownsRow w.heap.size 40 5 (.slice N k m) k csl.flatten from by have h:=c.own;rw[j]at h;exact h)
   have V:=hid (show ∀(J:World)(I:Value)(o:Obj),(wr.alloc o).drew.grownBy J (Value.slice N k m).ownBlock ->J.ownsRow w.heap.size 40 5 I (k+1) (csl.flatten++[.int .i64 t.lines[k].when_.op,.string t.lines[k].when_.name,.int .i64 t.lines[k].when_.cmp,.int .i64 t.lines[k].when_.num,.slice K t.lines[k].when_.kids.length i])->
     (I.ownBlock=(Value.slice N k m).ownBlock \/I.ownBlock=some (wr.alloc o).drew.heap.size)->∃D,zIx Z w (J.setCell ⟨w.heap.size+1+1+1,4,none⟩ I) vd (.slice (some ⟨b,B,none⟩) t.lines.length u) ((t.lines.take (k+1)).map zI.when_) I D from λJ I o hg ho aa=>by
    rw[zAu H,List.map_append];have hh:=C.out;rw[j]at hh
    exact⟨_,C.out.push (by rw[j];exact hg) (by rw[j];exact ho) (by rw[j];exact aa) z⟩)
   have X:=hid (λ(J:World)(o:Obj)(hg:(wr.alloc o).drew.grownBy J (Value.slice N k m).ownBlock)=>(c.fb.alloc o).drew.grown hg (by have h:=c.ne;rw[j]at h;exact h));clear c hc y hR z C T j;generalize t.lines[k]=x at*;obtain⟨⟨op,nm,Y,nu,kids⟩,ag,ah⟩:=x;dsimp only[Fm.op,Fm.name,Fm.cmp,Fm.num,Fm.kids]at*;go_wp2;go_region_law(refine zEH rfl (.tmp 19) (.tmp 26) _ rfl underlying38 Tryz.eFmC rfl (W.out.alloc _) rfl (news:=[.int .i64 op,.string nm,.int .i64 Y,.int .i64 nu,.slice K kids.length i]) rfl (zIZ (cs:=[.int .i64 op,.string nm,.int .i64 Y,.int .i64 nu,.slice K kids.length i]) (t:=40) (g:=wr.heap.size) (by have:=Blk.new wr 40 #[.int .i64 op,.string nm,.int .i64 Y,.int .i64 nu,.slice K kids.length i];exact this.drew)) (by simp[Value.oneCell']) (by unfold maxLen;omega) (by omega) (by show w.heap.size<=(wr.alloc _).heap.size;simp;omega) ?_;intro I J s G E;obtain⟨g5,af,ac⟩:=zAm s;subst ac;have F:=X.out _ _ G;have d4:=F.at4;have d5:=F.frozen 4;have d6:=F.lt)
   all_goals
    obtain⟨D,P⟩:=V.out _ _ _ G s E;have HN:=hid P;clear P s G E;(go_wp2_with fail);go_roundw;(case rel=>exact⟨k+1,_,D,by omega,by go_num,HN.out⟩);case measure=>simp[intOf];omega
  ·(obtain rfl:k=t.lines.length:=by omega);(rename World=>w1);have a:=hid (show zIx Z w w1 vd (.slice A t.lines.length u) (t.lines.map zI.when_) (.slice N t.lines.length m) csl from by have h:=C.out;rw[List.take_length]at h;simpa using h);clear c C T j H hk;have z1:=a.out.zb.at1;have zl:=a.out.zb.lt;(go_wp2_with fail);go_loopw[9] (λiv wr=>iv= .int .i64 0/\wr=w1) (λ_ _=>0);case atStart=>exact⟨rfl,rfl⟩
   case round=>
    obtain⟨rfl,ad⟩:=hrel;subst ad;obtain⟨K,i,Q,z⟩:=a.out.fm HZ.out (by rw[List.length_map];omega);rw[List.length_map]at Q z;injection Q with q1 _ q2;subst q1 q2
    have U:=hid (zJd (λb=>Z b\/w.heap.size<=b) Z (Fm.mk 5 ⟨#[]⟩ 0 0 (t.lines.map zI.when_)) _ vd t.dom 2000 wr z (HT.out.d.keep (zA.of_below a.out.be)) (by
     show zG (Fm.mk 5 ⟨#[]⟩ 0 0 (t.lines.map zI.when_))<=1000;rw[zG];have h1:=zNn (l:=t.lines.map zI.when_) (n:=40) (λf hf=>by obtain⟨x,hx,rfl⟩:=List.mem_map.1 hf;exact R.out x hx);rw[List.length_map]at h1
     omega) (by decide) (by decide))
    have f0:=a.out.fb.at0;have f1:=a.out.fb.at1;have f2:=a.out.fb.at2;have f3:=a.out.fb.at3;have f4:=a.out.fb.at4;have fl:=a.out.fb.lt;have d0:=a.out.db.at0;have dl:=a.out.db.lt;have M:=hid a.out.be;generalize zGE (Fm.mk 5 ⟨#[]⟩ 0 0 (t.lines.map zI.when_)) 2000 t.dom 1=q at*;clear z;(go_wp2_with fail);refine U.out.mono ?_;rintro e w2 ⟨rfl,hb⟩;clear f0 f1 f2 f3 f4 fl d0 dl z1 zl;have L:=hid (M.out.trans (hb.mono M.out.size));by_cases hq:q<=2000
    ·(go_wp2_with fail);go_ret;exact⟨_,rfl,L.out⟩
    ·(go_wp2_with fail);go_ret;exact⟨_,rfl,L.out⟩
end
section
open Go.Shelf
theorem zTU{l:List α}{P:α->Prop}(c:k<l.length)(h:∀p∈l.take k,P p)(d:P l[k]):∀p∈l.take (k+1),P p:=by
 intro p a;rw[List.take_succ_eq_append_getElem c]at a;rcases List.mem_append.1 a with b|b
 ·exact h p b
 ·rw[List.mem_singleton.1 b];exact d
def zWC(t:zY)(w:World)(e:Ending)(w':World):Prop:=∃b:Bool,e= .returned (.bool b)/\Bw w w'/\(b=true->t.lines.length<=8/\∀x∈t.lines,zG x.when_<=40)
theorem zTV(Z:zE)(vd vl:Value)(t:zY)(w:World)(O:zAA Z w vd vl t)(Y:∀b,Z b->b<w.heap.size):
  Calls prog 26 #[.agg #[vd,vl]] w (zWC t w):=by
 obtain⟨⟨A,v,rfl,ar,ah,-,hs⟩⟩:=O.l;obtain⟨⟨D,o,rfl,-,-,-,-⟩,-⟩:=O.d;have HS:=hid (And.intro hs Y);have HT:=hid (λW(V:Bw w W)=>O.keep (zA.of_below V));have L:=hid (λW(V:Bw w W)(b:Nat)(g:Z b)=>Nat.lt_of_lt_of_le (Y b g) V.size);have bt:=Blk.new w 27 #[.slice D t.dom.length o,.slice A t.lines.length v];have I:=zF w (.cells #[.slice D t.dom.length o,.slice A t.lines.length v] 27);have ap:t.lines.length<=9223372036854775807:=by omega
 clear hs Y O;go_enter func26,ntmps26
 go_upto_region 1 with fail
 generalize w.alloc (.cells #[.slice D t.dom.length o,.slice A t.lines.length v] 27)=w0 at*;have y:=hid (And.intro bt I);clear bt I;go_wp2_with fail
 go_loopw[3] (λiv wr=>∃k:Nat,k<=t.lines.length/\k<=8/\iv= .int .i64 k/\Hid (∀x∈t.lines.take k,zG x.when_<=40)/\Hid (Blk wr w.heap.size 27 #[.slice D t.dom.length o,.slice A t.lines.length v])/\Hid (Bw w wr)) (λiv _=>t.lines.length-(intOf iv).toNat);case atStart=>exact⟨0,Nat.zero_le _,by omega,rfl,hid (by simp),hid y.out.1,hid y.out.2⟩
 case round=>
  obtain⟨k,hk,ao,rfl,G,f,a⟩:=hrel;have z:=f.out.at1;have C:=f.out.lt;by_cases q:k<t.lines.length/\k<8
  ·obtain⟨q,ad⟩:=q;obtain⟨b,s,cs,rfl,aa,hc,hR⟩:=HS.out.1.at_ q;obtain⟨FA,ab,rfl,K⟩:=hR.form;have m:=zBV a.out (HS.out.2 b aa) hc;have R:wr.cell? ⟨b,s+k*7,none⟩=_:=m 0 _ rfl;have c1:wr.cell? ⟨b,s+k*7+1,none⟩=_:=m 1 _ rfl;have c2:wr.cell? ⟨b,s+k*7+2,none⟩=_:=m 2 _ rfl;have c3:wr.cell? ⟨b,s+k*7+3,none⟩=_:=m 3 _ rfl;have c4:wr.cell? ⟨b,s+k*7+4,none⟩=_:=m 4 _ rfl;have c5:wr.cell? ⟨b,s+k*7+5,none⟩=_:=m 5 _ rfl;have cl:=lt_of_cell R;have j:=hid (zOm Z t.lines[k].when_ _ 40 wr (FmR.keep (zA.of_below a.out) _ _ K) (by decide) (by decide));have u:=hid (λ(h:zG t.lines[k].when_ <=40)=>zTU (P:=λ(x:zI)=>zG x.when_<=40) q G.out h);(have ak:((k:Nat):Int)<(t.lines.length:Int):=by omega);(have aj:(0:Int)<=((k:Nat):Int):=by omega);(have al:((k:Nat):Int)<8:=by omega);clear hc m hR K;generalize t.lines[k]=x at*;obtain⟨⟨op,nm,U,nu,kids⟩,T,af⟩:=x;dsimp only[Fm.op,Fm.name,Fm.cmp,Fm.num,Fm.kids]at*;by_cases ag:T.size<=100
   ·by_cases E:zG (Fm.mk op nm U nu kids)<=40
    ·have HN:=hid (u.out E);have J:decide ((zG (Fm.mk op nm U nu kids):Int)<=40)=true:=decide_eq_true (by omega);rw[J]at j;clear u E J;(go_wp2_with fail);refine j.out.mono ?_;rintro e F ⟨rfl,g⟩;have i:=hid (f.out.below g f.out.lt);have c:=hid (a.out.trans (g.mono a.out.size));clear g z C R c1 c2 c3 c4 c5 cl j;(go_wp2_with fail);go_roundw;(case rel=>exact⟨k+1,by omega,by omega,by go_num,HN,i,c⟩);case measure=>simp[intOf];omega
    ·have J:decide ((zG (Fm.mk op nm U nu kids):Int)<=40)=false:=decide_eq_false (by omega);rw[J]at j;clear u E J;(go_wp2_with fail);refine j.out.mono ?_;rintro e F ⟨rfl,g⟩;have c:=hid (a.out.trans (g.mono a.out.size));clear g z C R c1 c2 c3 c4 c5 cl j;(go_wp2_with fail);go_ret;exact⟨false,rfl,c.out,λh=>by cases h⟩
   ·clear u j;(go_wp2_with fail);go_ret;exact⟨false,rfl,a.out,λh=>by cases h⟩
  ·(rename World=>w1);have ae:=hid (show k<t.lines.length->k=8 from λh=>by omega);have M:=hid (zTH Z _ t.dom 24 (by unfold I64;omega) w1 (HT.out w1 a.out).d (L.out w1 a.out));have N:=f.out.at0;(have n:¬(((k:Nat):Int)<(t.lines.length:Int)/\((k:Nat):Int)<8):=by omega);clear y;by_cases X:((k:Nat):Int)<(t.lines.length:Int)
   ·(have ac:¬((k:Nat):Int)<8:=λh=>n ⟨X,h⟩);(have ai:¬((t.lines.length:Nat):Int)<=8:=by omega);clear n q;(go_wp2_with fail);refine M.out.mono ?_;rintro e F ⟨B,rfl,g⟩;have i:=hid (f.out.below g f.out.lt);have c:=hid (a.out.trans (g.mono a.out.size));clear g N z C M;have z:=i.out.at1;have C:=i.out.lt;cases B
    ·(go_wp2_with fail);go_ret;exact⟨false,rfl,c.out,λh=>by cases h⟩
    ·(go_wp2_with fail);go_ret;exact⟨false,rfl,c.out,λh=>by cases h⟩
   ·(have aq:((t.lines.length:Nat):Int)<=8:=by omega);have H:=hid (show ∀x∈t.lines,zG x.when_<=40 from by have h:=G.out;rwa[List.take_of_length_le (by omega)]at h);clear n q;(go_wp2_with fail);refine M.out.mono ?_;rintro e F ⟨B,rfl,g⟩;have i:=hid (f.out.below g f.out.lt);have c:=hid (a.out.trans (g.mono a.out.size));clear g N z C M;have N:=i.out.at0;have z:=i.out.at1;have C:=i.out.lt;cases B
    ·(go_wp2_with fail);go_ret;exact⟨false,rfl,c.out,λh=>by cases h⟩
    ·have HC:=hid (zQI Z _ _ t F (HT.out F c.out) (L.out F c.out) (by omega) H.out);(go_wp2_with fail);refine HC.out.mono ?_;rintro e w3 ⟨b,rfl,g⟩;have Q:=hid (c.out.trans (g.mono c.out.size));clear g N z C HC;(go_wp2_with fail);go_ret;exact⟨b,rfl,Q.out,λ_=>⟨by omega,H.out⟩⟩
end
theorem Tryz.idxS0(a b c d e f g:Value)(w:World):(Instr.index 208 (.agg #[a,b,c,d,e,f,g]) (.int .i64 0)).run prog w= .ok a w:=by kernel_rfl
theorem Tryz.idxS1(a b c d e f g:Value)(w:World):(Instr.index 208 (.agg #[a,b,c,d,e,f,g]) (.int .i64 1)).run prog w= .ok b w:=by kernel_rfl
theorem Tryz.idxS2(a b c d e f g:Value)(w:World):(Instr.index 208 (.agg #[a,b,c,d,e,f,g]) (.int .i64 2)).run prog w= .ok c w:=by kernel_rfl
theorem Tryz.idxS3(a b c d e f g:Value)(w:World):(Instr.index 208 (.agg #[a,b,c,d,e,f,g]) (.int .i64 3)).run prog w= .ok d w:=by kernel_rfl
theorem Tryz.idxS4(a b c d e f g:Value)(w:World):(Instr.index 208 (.agg #[a,b,c,d,e,f,g]) (.int .i64 4)).run prog w= .ok e w:=by kernel_rfl
theorem Tryz.idxS5(a b c d e f g:Value)(w:World):(Instr.index 208 (.agg #[a,b,c,d,e,f,g]) (.int .i64 5)).run prog w= .ok f w:=by kernel_rfl
theorem Tryz.idxS6(a b c d e f g:Value)(w:World):(Instr.index 208 (.agg #[a,b,c,d,e,f,g]) (.int .i64 6)).run prog w= .ok g w:=by kernel_rfl
theorem Tryz.idxSym(a:Int)(b:0<=a)(c:a<=6)(w:World):(Instr.index 208 (.agg #[.string ⟨#[]⟩,.string ⟨#[61]⟩,.string ⟨#[33,61]⟩,.string ⟨#[60]⟩,.string ⟨#[60,61]⟩,.string ⟨#[62]⟩,.string ⟨#[62,61]⟩]) (.int .i64 a)).run prog w= .ok (.string (zJm.getD a.toNat za)) w:=by
 obtain h|h|h|h|h|h|h:a=0\/a=1\/a=2\/a=3\/a=4\/a=5\/a=6:=by omega
 all_goals subst h
 ·exact Tryz.idxS0 ..
 ·exact Tryz.idxS1 ..
 ·exact Tryz.idxS2 ..
 ·exact Tryz.idxS3 ..
 ·exact Tryz.idxS4 ..
 ·exact Tryz.idxS5 ..
 ·exact Tryz.idxS6 ..
theorem zMX(a:Int):(zJm.getD a.toNat za).size <=2:=by
 have:∀x∈zJm,x.size<=2:=by decide
 rw[List.getD_eq_getElem?_getD]
 cases h:zJm[a.toNat]? with
 |none=>decide
 |some x=>exact this x (List.mem_of_getElem? h)
theorem zNo(Z:zE)(nm:ByteArray)(c f:Int)(kids:List Fm)(cs:List Value)(w:World)(V:FmR Z w (.mk 3 nm c f kids) cs)(h0:0<=c)(h6:c<=6)(ad:nm.size<=1000000)(q:zAD w.heap.size w):
  Calls prog 92 #[.agg cs.toArray] w λe w'=>e= .returned (.string (zBM (.mk 3 nm c f kids)))/\Bw w w':=by
 unfold FmR at V;obtain⟨Q,_,aa,B,A,g,rfl,U,_,ac,P⟩:=V;have N:=hid zKs;have M:=hid (Tryz.idxSym c h0 h6);have af:=zMX c;have s:=hid (show zBM (.mk 3 nm c f kids)=nm++⟨#[32]⟩++zJm.getD c.toNat za++⟨#[32]⟩++⟨(Lib.itoa f).toArray⟩ from by unfold zBM;rfl);generalize zJm.getD c.toNat za=sy at*;obtain⟨t3,H,ae⟩:∃t:ByteArray,t=⟨(Lib.itoa f).toArray⟩/\t.size<=30:=⟨_,rfl,by have:=Lib.itoa_length_le f B.1 B.2;simp[ByteArray.size];omega⟩;have T:=hid (λW hb=>zEC f W B (q.on (w':=W) hb));rw[<-H]at T s;have a:∀(x y:ByteArray),x.size+y.size<=9223372036854775807->∃u:ByteArray,u=x++y/\∀W,(Op.stringOp .add x y).run prog W= .ok (.string u) W:=λx y h=>⟨_,rfl,λW=>run_string_add_sum W x y h⟩
 obtain⟨u1,j,e1⟩:=a nm ⟨#[32]⟩ (by show _+1<=_;omega);obtain⟨u2,n,e2⟩:=a u1 sy (by rw[j,ByteArray.size_append];show _+1+_<=_;omega);obtain⟨u3,C,e3⟩:=a u2 ⟨#[32]⟩ (by rw[n,j];simp only[ByteArray.size_append];show _+1+_+1<=_;omega);obtain⟨u4,I,e4⟩:=a u3 t3 (by rw[C,n,j];simp only[ByteArray.size_append];show _+1+_+1+_<=_;omega);have E:=hid (show zBM (.mk 3 nm c f kids)=u4 from by rw[s.out,I,C,n,j]);rw[E.out];clear H j n C I a q P Q s E;go_enter func92,ntmps92
 go_wp2_with fail
 go_upto_region 7 with fail
 have D:=hid (Blk.new w 40 #[.int .i64 3,.string nm,.int .i64 c,.int .i64 f,.slice A kids.length g]);have m:=hid (zF w (.cells #[.int .i64 3,.string nm,.int .i64 c,.int .i64 f,.slice A kids.length g] 40));have L:=hid (λ(W:World)(O:Below (w.alloc (.cells #[.int .i64 3,.string nm,.int .i64 c,.int .i64 f,.slice A kids.length g] 40)).heap.size (w.alloc (.cells #[.int .i64 3,.string nm,.int .i64 c,.int .i64 f,.slice A kids.length g] 40)) W)=>T.out W (m.out.trans (O.mono m.out.size)));generalize w.alloc (.cells #[.int .i64 3,.string nm,.int .i64 c,.int .i64 f,.slice A kids.length g] 40)=k at*
 have J:=hid (λ(W:World)(O:Bw k W)=>(show W.cell? ⟨w.heap.size,1,none⟩=some (.string nm)/\W.cell? ⟨w.heap.size,2,none⟩=some (.int .i64 c)/\W.cell? ⟨w.heap.size,3,none⟩=some (.int .i64 f)/\w.heap.size<W.heap.size from by
  have h:=D.out.below O D.out.lt
  exact⟨h.at1,h.at2,h.at3,h.lt⟩))
 have ab:=M.out;refine zL 13 (λW=>Bw k W) (by kernel_rfl) ?_;have v:Bw k k.drew:=(Below.refl _ _).drew;have d:(λW=>Bw k W) k.drew:=v;generalize k.drew=x0 at*
 (refine tkQ 0 d ?_;simp only[nr])
 try simp only[nq]
 (refine tkS 1 ?_ d ?_ ?_;rotate_left;intro w b;obtain⟨X,Y,q3,ql⟩:=J.out _ b;clear b;go_simp;(try with_reducible rfl);simp only[nr])
 try simp only[nq]
 (refine tkQ 2 d ?_;simp only[nr])
 try simp only[nq]
 (refine tkQ 4 d ?_;simp only[nr])
 try simp only[nq]
 (refine tkS 5 ?_ d ?_ ?_;rotate_left;intro w b;obtain⟨X,Y,q3,ql⟩:=J.out _ b;clear b;go_simp;(try with_reducible rfl);simp only[nr])
 try simp only[nq]
 (refine tkQ 9 d ?_;simp only[nr])
 try simp only[nq]
 (refine tkS 10 ?_ d ?_ ?_;rotate_left;intro w b;obtain⟨X,Y,q3,ql⟩:=J.out _ b;clear b;go_simp;(try with_reducible rfl);simp only[nr])
 try simp only[nq]
 clear d;refine wS1 3 (λK o=> ?_);go_wp2_with fail
 refine(N.out x0).mono ?_;rintro e R ⟨rfl,G⟩;rw[show(zL2.map Value.string).toArray =#[.string ⟨#[]⟩,.string ⟨#[61]⟩,.string ⟨#[33,61]⟩,.string ⟨#[60]⟩,.string ⟨#[60,61]⟩,.string ⟨#[62]⟩,.string ⟨#[62,61]⟩] from rfl];have i:Bw k R:=v.trans (G.below.mono v.size);refine o _ _ (Or.inr i) ?_;clear o K G;try simp only[nq]
 have d:(λW=>Bw k W) R:=i
 (refine tkQ 6 d ?_;simp only[nr])
 try simp only[nq]
 (refine tkQ 7 d ?_;simp only[nr])
 try simp only[nq]
 (refine tkQ 8 d ?_;simp only[nr])
 try simp only[nq]
 clear d;refine wS1 11 (λK o=> ?_);go_wp2_with fail
 refine(L.out R i).mono ?_;rintro e x2 ⟨rfl,F⟩;have z:Bw k x2:=i.trans (F.mono i.size);refine o _ _ (Or.inr z) ?_;clear o K F;try simp only[nq]
 have d:(λW=>Bw k W) x2:=z
 (refine tkQ 12 d ?_;simp only[nr])
 try simp only[nq]
 clear d;refine wS1 13 (λK o=> ?_);go_wp2_with fail
 refine o _ _ (Or.inl rfl) ?_;clear o K;try simp only[nq]
 refine wSd ?_ _;go_wp2_with fail
 go_ret;exact⟨rfl,m.out.trans (z.mono m.out.size)⟩
theorem zDI{fin k:Int}{b:ByteArray}(h:zAr fin k b ts= .ok (t,r)):ts=t::r:=by
 cases ts with
 |nil=>cases h
 |cons a l=>
  simp only[zAr]at h;split at h
  ·injection h with h;injection h with h1 h2;subst h1 h2;rfl
  ·cases h
def Asc(ts:List Tok):Prop:=ts.Pairwise λ(x y:Tok)=>x.pos+x.text.size<=y.pos
theorem Asc.drop(h:Asc ts)(k:Nat):Asc (ts.drop k):=List.Pairwise.sublist (List.drop_sublist k ts) h
theorem Asc.head(h:Asc ts)(e:ts.drop k=t::r):∀x∈r,t.pos+t.text.size<=x.pos:=by
 have:=h.drop k;rw[e]at this;exact(List.pairwise_cons.1 this).1
theorem zND(e:ts.drop k=t::r):t∈ts:=List.mem_of_mem_drop (by rw[e];exact List.mem_cons_self ..)
theorem zSF(s:ByteArray):(zAW s).1=zFm\/(zAW s).1=(zB8 s.size ((zJ s).1.length +1) ⟨(zJ s).1,0,0⟩).1:=by
 have h:∀(a:PSt)(f:Fm),(if a.err≠0 then(zFm,a.err,a.pos)else(f,0,0)).1=zFm\/(if a.err≠0 then(zFm,a.err,a.pos)else(f,0,0)).1=f:=λa f=>by
  by_cases q:a.err≠0
  ·rw[if_pos q];exact .inl rfl
  ·rw[if_neg q];exact .inr rfl
 unfold zAW;by_cases q:(zJ s).2.1≠0
 ·rw[if_pos q];exact .inl rfl
 ·rw[if_neg q];exact h _ _
theorem zQJ(s:ByteArray):zG (zAW s).1<=4000000000000000000:=by
 have a:=zMM s.size ((zJ s).1.length +1) ⟨(zJ s).1,0,0⟩;have b:=zOk s;dsimp only at a;rcases zSF s with h|h
 ·rw[h,zFm,zER];omega
 ·rw[h];omega
def zWD(w:World)(w':World)(v:Value)(l:zI):Prop:=∃D c,v= .agg #[.int .i64 l.when_.op,.string l.when_.name,.int .i64 l.when_.cmp,.int .i64 l.when_.num,.slice D l.when_.kids.length c,.string l.cls,.bool l.ctl]/\
 zA4 (λb=>w.heap.size<=b) w' [.int .i64 l.when_.op,.string l.when_.name,.int .i64 l.when_.cmp,.int .i64 l.when_.num,.slice D l.when_.kids.length c,.string l.cls,.bool l.ctl] l
theorem zTW{t:TypeId}{a b c d e f g:Value}(h:Blk wr B t #[a,b,c,d,e,f,g])(v0 v1 v2 v3 v4 i j:Value):
  Blk (((((((wr.setCell ⟨B,0,none⟩ v0).setCell ⟨B,1,none⟩ v1).setCell ⟨B,2,none⟩ v2).setCell ⟨B,3,none⟩ v3).setCell ⟨B,4,none⟩ v4).setCell ⟨B,5,none⟩ i).setCell ⟨B,6,none⟩ j) B t #[v0,v1,v2,v3,v4,i,j]/\zA (λk=>k≠B) wr (((((((wr.setCell ⟨B,0,none⟩ v0).setCell ⟨B,1,none⟩ v1).setCell ⟨B,2,none⟩ v2).setCell ⟨B,3,none⟩ v3).setCell ⟨B,4,none⟩ v4).setCell ⟨B,5,none⟩ i).setCell ⟨B,6,none⟩ j):=by
 have m:Blk _ B t #[v0,b,c,d,e,f,g]:=Blk.set_ h 0 v0;have n:Blk _ B t #[v0,v1,c,d,e,f,g]:=Blk.set_ m 1 v1;have o:Blk _ B t #[v0,v1,v2,d,e,f,g]:=Blk.set_ n 2 v2;have q:Blk _ B t #[v0,v1,v2,v3,e,f,g]:=Blk.set_ o 3 v3;have s:Blk _ B t #[v0,v1,v2,v3,v4,f,g]:=Blk.set_ q 4 v4;have u:Blk _ B t #[v0,v1,v2,v3,v4,i,g]:=Blk.set_ s 5 i;have v:Blk _ B t #[v0,v1,v2,v3,v4,i,j]:=Blk.set_ u 6 j;exact⟨v,(zA.setCell (zA.setCell (zA.setCell (zA.setCell (zA.setCell (zA.setCell (zA.setCell (zA.refl _ _) (p:=⟨B,0,none⟩) (λ_ h=>h rfl) _) (p:=⟨B,1,none⟩) (λ_ h=>h rfl) _) (p:=⟨B,2,none⟩) (λ_ h=>h rfl) _) (p:=⟨B,3,none⟩) (λ_ h=>h rfl) _) (p:=⟨B,4,none⟩) (λ_ h=>h rfl) _) (p:=⟨B,5,none⟩) (λ_ h=>h rfl) _) (p:=⟨B,6,none⟩) (λ_ h=>h rfl) _)⟩
theorem zTX{Q:World->Prop}{t:TypeId}{a b c d e f g v0 v1 v2 v3 v4 i j:Value}(h:Blk wr B t #[a,b,c,d,e,f,g])(o:∀m,Blk m B t #[v0,v1,v2,v3,v4,i,j]->zA (λk=>k≠B) wr m->Q m):Q (((((((wr.setCell ⟨B,0,none⟩ v0).setCell ⟨B,1,none⟩ v1).setCell ⟨B,2,none⟩ v2).setCell ⟨B,3,none⟩ v3).setCell ⟨B,4,none⟩ v4).setCell ⟨B,5,none⟩ i).setCell ⟨B,6,none⟩ j):=
 have n:=zTW h v0 v1 v2 v3 v4 i j
 o _ n.1 n.2
theorem zSG{s:ByteArray}{b:ByteArray}{a:ByteArray->α × Int × Int}{c:Tok}{x:α}(h:zC4 s b a c ts= .ok (x,r)):∃y,x=(a y).1:=by
 simp only[zC4]at h;split at h
 ·cases h
 ·split at h
  ·cases h
  ·split at h
   ·cases h
   ·injection h with h;injection h with h _;exact⟨_,h.symm⟩
theorem zTY(R:Nat)(s:ByteArray)(A:Option Addr)(i:Nat)(g:List Tok)(k:Nat)(Z:zE)(vd:Value)(ds:List zC)(w:World)(hs:s.size<=140737488355328)(hR:RdT w R s A i g k)(ht:zAt (λc=>c≠R) w A i g)(hk:k<=g.length)
  (ac:∀t∈g,zEM s t)(ax:Asc g)(hd:Facts Z w vd ds)(hz:∀b,Z b->b<w.heap.size/\b≠R):
  Calls prog 51 #[.pointer (some ⟨R,0,none⟩),.agg #[vd]] w (zF6 R s A i g (zWD w) w (zFV s ds (g.drop k))):=by
 obtain⟨D,F,rfl,-⟩:=hd.form;have rl:=(show Blk w R 100 #[.string s,.slice A g.length i,.int .i64 (k:Int)] from hR).lt;have dp:=ht.few;have HT:=hid (λ(W:World)(hW:zA (λc=>c≠R) w W)(j:Nat)(hj:j<=g.length)(h:RdT W R s A i g j)(ad:Int)(tx:ByteArray)=>zNi R s A i g j ad tx W h (ht.keep hW) hj hs);have c8:=hid (λ(W:World)(hW:zA (λc=>c≠R) w W)(j:Nat)(hj:j<=g.length)(h:RdT W R s A i g j)(ad:Int)(tx:ByteArray)=>zNh R s A i g j ad tx W h (ht.keep hW) hj);have c6:=hid (λ(W:World)(hW:zA (λc=>c≠R) w W)(j:Nat)(hj:j<=g.length)(h:RdT W R s A i g j)(fr:Tok)(di:ByteArray)(hi:zEM s fr)(ho:∀t∈g.drop j,fr.pos+fr.text.size<=t.pos)=>zSE R s A i g j fr di W hs h (ht.keep hW) hj hi ac ho)
 have bk:=hid (λ(W:World)(hW:zA (λc=>c≠R) w W)(f:Fm)(Zf:zE)(cs:List Value)(hf:FmR Zf W f cs)(df:zG f<=4000000000000000000)(dg:∀b,Zf b->b<W.heap.size)=>
  zH4 (λb=>Zf b\/Z b) _ ds f cs W (FmR.mono (λb h=> .inl h) _ _ hf) ((hd.keep (hW.mono λb _ h=>(hz b h).2)).mono λb h=> .inr h) df (λb h=>h.elim (dg b) (λh=>Nat.lt_of_lt_of_le (hz b h).1 hW.size)))
 have ci:=hid ac;have bh:=hid ax
 have HU:=hid (show zFV s ds (g.drop k)=(zj (zAr s.size 1 ⟨#[]⟩ (g.drop k)) λcl=>
  zj (zAr s.size 1 ⟨#[119,104,101,110]⟩ (if zCl 1 ⟨#[99,111,110,116,114,111,108,108,101,100]⟩ cl.2 then cl.2.tail else cl.2)) λwh=>
  zj (zC4 s ⟨#[59]⟩ zAW wh.1 wh.2) λf=>
  zj (chk (decide (zA5 ds f.1≠0)) (zA5 ds f.1) wh.1) λ_=>
  zj (zAr s.size 4 ⟨#[59]⟩ f.2) λz=> .ok (⟨f.1,cl.1.text,zCl 1 ⟨#[99,111,110,116,114,111,108,108,101,100]⟩ cl.2⟩,z.2)) from rfl)
 have HR:=hid hR;clear hR ht ac ax hd hz;have dk:∀(a b c:Int)(t:ByteArray)(W:World),(Instr.field 102 (.agg #[.int .i64 a,.int .i64 b,.int .i64 c,.string t]) 3).run prog W= .ok (.string t) W:=λ_ _ _ _ _=>by kernel_rfl
 go_enter func51,ntmps51
 go_wp2_with fail
 have bb:Bw w ((w.alloc (.cells #[.slice D ds.length F] 24)).alloc (.cells #[.int .i64 0,.string ⟨#[]⟩,.int .i64 0,.int .i64 0,.slice none 0 0,.string ⟨#[]⟩,.bool false] 42)):=(zF w _).alloc (by simp) _;have bl:=hid ((Blk.new w 24 #[.slice D ds.length F]).alloc (.cells #[.int .i64 0,.string ⟨#[]⟩,.int .i64 0,.int .i64 0,.slice none 0 0,.string ⟨#[]⟩,.bool false] 42));have b3:=hid (zBv w (.cells #[.slice D ds.length F] 24) 42 #[.int .i64 0,.string ⟨#[]⟩,.int .i64 0,.int .i64 0,.slice none 0 0,.string ⟨#[]⟩,.bool false]);have ae:=hid (zA.of_below bb:zA (λc=>c≠R) w _);have ca:=hid (show RdT _ R s A i g k from Blk.below HR.out bb rl);have dr:w.heap.size+1<((w.alloc (.cells #[.slice D ds.length F] 24)).alloc (.cells #[.int .i64 0,.string ⟨#[]⟩,.int .i64 0,.int .i64 0,.slice none 0 0,.string ⟨#[]⟩,.bool false] 42)).heap.size :=by simp
 clear bb HR;generalize (w.alloc (.cells #[.slice D ds.length F] 24)).alloc (.cells #[.int .i64 0,.string ⟨#[]⟩,.int .i64 0,.int .i64 0,.slice none 0 0,.string ⟨#[]⟩,.bool false] 42)=w0 at*;refine(HT.out w0 ae.out k hk ca.out 1 ⟨#[]⟩).mono ?_;intro e w1 I;have ao:=hid (λ(t:Tok)(r:List Tok)(h:zAr (s.size:Int) 1 ⟨#[]⟩ (g.drop k)= .ok (t,r))=>ci.out t (zND (zDI h)));generalize zAr (s.size:Int) 1 ⟨#[]⟩ (g.drop k)=T at*
 cases T with
 |error f=>
  obtain⟨d,rfl⟩:=I.error_;go_wp2_with fail
  exact⟨rfl,zCD HU.out (ae.out.trans d)⟩
 |ok p=>
  obtain⟨d,rfl,J,hr,cx,co⟩:=I.ok_;obtain⟨⟨ck,cp,cn,ct⟩,rr⟩:=p;have bi:=hid (ao.out _ _ rfl);clear ao;dsimp only[zAS,Tok.cells]at*;subst hr;simp only[zAc]at HU;have dt:=d.size;have ay:=hid ((bl.out.keep d (by show w.heap.size≠R;omega)).alloc (.cells #[.int .i64 0,.string ⟨#[]⟩,.int .i64 0,.int .i64 0,.slice none 0 0,.string ct,.bool false] 42));have a5:=hid ((b3.out.keep d (by show w.heap.size+1≠R;omega)).alloc (.cells #[.int .i64 0,.string ⟨#[]⟩,.int .i64 0,.int .i64 0,.slice none 0 0,.string ct,.bool false] 42));have a2:=hid (Blk.new w1 42 #[.int .i64 0,.string ⟨#[]⟩,.int .i64 0,.int .i64 0,.slice none 0 0,.string ct,.bool false]);have a0:=hid ((ae.out.trans d).alloc (.cells #[.int .i64 0,.string ⟨#[]⟩,.int .i64 0,.int .i64 0,.slice none 0 0,.string ct,.bool false] 42));have aj:=hid (show RdT _ R s A i g J from Blk.alloc co (.cells #[.int .i64 0,.string ⟨#[]⟩,.int .i64 0,.int .i64 0,.slice none 0 0,.string ct,.bool false] 42));have d1:w1.heap.size<(w1.alloc (.cells #[.int .i64 0,.string ⟨#[]⟩,.int .i64 0,.int .i64 0,.slice none 0 0,.string ct,.bool false] 42)).heap.size :=by simp
  clear I d co bl b3 ae ca;go_upto_region 2 with fail
  generalize w1.alloc (.cells #[.int .i64 0,.string ⟨#[]⟩,.int .i64 0,.int .i64 0,.slice none 0 0,.string ct,.bool false] 42)=w2 at*;generalize w1.heap.size=m at*;go_wp2_with fail
  refine(c8.out w2 a0.out J cx aj.out 1 ⟨#[99,111,110,116,114,111,108,108,101,100]⟩).mono ?_;rintro e w3 ⟨rfl,H⟩;have du:=H.size;have bm:=hid (ay.out.below H ay.out.lt);have b4:=hid (a5.out.below H a5.out.lt);have a3:=hid (a2.out.below H a2.out.lt);have bw:=hid (a0.out.trans (zA.of_below H));have cc:=hid (show RdT w3 R s A i g J from Blk.below aj.out H (Blk.lt aj.out));clear H ay a5 a2 a0 aj;generalize cz:zCl 1 ⟨#[99,111,110,116,114,111,108,108,101,100]⟩ (g.drop J)=sn at*;obtain⟨l0,N,l1,O,l2,P,l3,U,l4,V,l5,X,l6,Y,ll⟩:=a3.out.c7;go_upto_region 3 with fail
  have L:zA (λb=>b≠m) w3 (w3.setCell ⟨m,6,none⟩ (.bool sn)):=(zA.refl _ _).setCell (p:=⟨m,6,none⟩) (λ_ h=>h rfl) _;have ah:=hid (show Blk _ m 42 #[.int .i64 0,.string ⟨#[]⟩,.int .i64 0,.int .i64 0,.slice none 0 0,.string ct,.bool sn] from a3.out.set_ 6 (.bool sn));have bn:=hid (bm.out.keep L (by show w.heap.size≠m;omega));have b5:=hid (b4.out.keep L (by show w.heap.size+1≠m;omega));have bx:=hid (bw.out.inner2 L (by omega));have a7:=hid (show RdT _ R s A i g J from Blk.keep cc.out L (by show R≠m;omega));have dv:=L.size;clear L a3 bm b4 bw cc l0 l1 l2 l3 l4 l5 l6 N O P U V X Y ll;generalize w3.setCell ⟨m,6,none⟩ (.bool sn)=w4 at*;have l6:=ah.out.cell 6;have ll:=ah.out.lt;go_upto_if 16 with fail
  go_cut[] from 16 to 23 (λwx=>(∃k2,(if sn=true then(g.drop J).tail else g.drop J)=g.drop k2/\k2<=g.length/\RdT wx R s A i g k2)/\zA (λc=>c≠R) w4 wx)
  case first=>
   cases sn
   ·(go_wp2_with fail);go_meet;exact⟨⟨J,by simp,cx,a7.out⟩,zA.refl _ _⟩
   ·have dq:J<g.length:=by
     rcases Nat.lt_or_ge J g.length with h|h
     ·exact h
     ·rw[List.drop_of_length_le h]at cz;cases cz
    have ak:=(show Blk w4 R 100 #[.string s,.slice A g.length i,.int .i64 (J:Int)] from a7.out);have r2:=ak.at2;have dh:=ak.frozen 2;have eg:=ak.lt;(have hb:(J:Int)<=5000:=by omega);(go_wp2_with fail);go_meet;exact⟨⟨J+1,by simp[List.tail_drop],by omega,ak.set_ 2 (.int .i64 ((J:Int)+1))⟩,(zA.refl _ _).setCell (p:=⟨R,2,none⟩) (λ_ h=>h rfl) _⟩
  case rest=>
   obtain⟨⟨k2,cw,db,cq⟩,M⟩:=hcut;(rename World=>w5);rw[cw]at HU;have dw:=M.size;have bo:=hid (bn.out.keep M (by show w.heap.size≠R;omega));have b6:=hid (b5.out.keep M (by show w.heap.size+1≠R;omega));have b1:=hid (ah.out.keep M (by show m≠R;omega));have af:=hid (bx.out.trans M);have cd:=hid cq;clear M cq bn b5 ah bx a7 l6 ll cw;(go_wp2_with fail);refine(HT.out w5 af.out k2 db cd.out 1 ⟨#[119,104,101,110]⟩).mono ?_;intro e w6 I;have bu:=hid (λ(t:Tok)(r:List Tok)(h:zAr (s.size:Int) 1 ⟨#[119,104,101,110]⟩ (g.drop k2)= .ok (t,r))=>And.intro (ci.out t (zND (zDI h))) (bh.out.head (zDI h)));generalize zAr (s.size:Int) 1 ⟨#[119,104,101,110]⟩ (g.drop k2)=T at*
   cases T with
   |error f=>
    obtain⟨d,rfl⟩:=I.error_;(go_wp2_with fail);exact⟨rfl,zCD HU.out (af.out.trans d)⟩
   |ok p=>
    obtain⟨d,rfl,k3,hr,dc,cr⟩:=I.ok_;obtain⟨⟨u,o,B,C⟩,rr⟩:=p;dsimp only[zAS,Tok.cells]at*;subst hr;simp only[zAc]at HU;obtain⟨c0,cy⟩:=bu.out _ _ rfl;have cj:=hid c0;have b9:=hid cy;have dx:=d.size;have bp:=hid ((bo.out.keep d (by show w.heap.size≠R;omega)).alloc (.cells #[.int .i64 u,.int .i64 o,.int .i64 B,.string C] 102));have b7:=hid ((b6.out.keep d (by show w.heap.size+1≠R;omega)).alloc (.cells #[.int .i64 u,.int .i64 o,.int .i64 B,.string C] 102));have b2:=hid ((b1.out.keep d (by show m≠R;omega)).alloc (.cells #[.int .i64 u,.int .i64 o,.int .i64 B,.string C] 102));have a9:=hid (Blk.new w6 102 #[.int .i64 u,.int .i64 o,.int .i64 B,.string C]);have ag:=hid ((af.out.trans d).alloc (.cells #[.int .i64 u,.int .i64 o,.int .i64 B,.string C] 102));have cf:=hid (show RdT _ R s A i g k3 from Blk.alloc cr (.cells #[.int .i64 u,.int .i64 o,.int .i64 B,.string C] 102));(have d2:w6.heap.size<(w6.alloc (.cells #[.int .i64 u,.int .i64 o,.int .i64 B,.string C] 102)).heap.size :=by simp);clear I d cr bo b6 b1 af cd bu c0 cy;(go_upto_region 6 with fail);generalize w6.alloc (.cells #[.int .i64 u,.int .i64 o,.int .i64 B,.string C] 102)=w7 at*;generalize w6.heap.size=WB at*;obtain⟨t0,bc,t1,bd,t2,bf,t3,bg,tl⟩:=a9.out.c4;(go_wp2_with fail);refine(c6.out w7 ag.out k3 dc cf.out ⟨u,o,B,C⟩ ⟨#[59]⟩ cj.out b9.out).mono ?_;intro e w8 I;have ch:=hid (λ(x:Fm)(r:List Tok)(h:zC4 s ⟨#[59]⟩ zAW ⟨u,o,B,C⟩ (g.drop k3)= .ok (x,r))=>show zG x<=4000000000000000000 from by obtain⟨y,rfl⟩:=zSG h;exact zQJ y);generalize zC4 s ⟨#[59]⟩ zAW ⟨u,o,B,C⟩ (g.drop k3)=T at*
    cases T with
    |error f=>
     obtain⟨d,rfl⟩:=I.error_;(go_wp2_with fail);exact⟨rfl,zCD HU.out (ag.out.trans d)⟩
    |ok p=>
     obtain⟨d,v,rfl,hrel,k4,hr,dd,cu⟩:=I.ok_;obtain⟨f,rr⟩:=p;dsimp only at hr hrel;obtain⟨FA,q,rfl,cv⟩:=hrel;subst hr;simp only[zAc]at HU;have da:=ch.out f _ rfl;have dy:=d.size;have bq:=hid (bp.out.keep d (by show w.heap.size≠R;omega));have b8:=hid (b7.out.keep d (by show w.heap.size+1≠R;omega));have a4:=hid (b2.out.keep d (by show m≠R;omega));have cm:=hid (a9.out.keep d (by show WB≠R;omega));have bz:=hid (ag.out.trans d);have cg:=hid cu;have bt:=hid (FmR.live _ _ cv);clear I d cu cv bp b7 b2 a9 ag cf ch t0 t1 t2 t3 bc bd bf bg tl;obtain⟨l0,N,l1,O,l2,P,l3,U,l4,V,l5,X,l6,Y,ll⟩:=a4.out.c7;go_upto_region 7 with fail
     have G:zA (λb=>b≠m) w8 (((((w8.setCell ⟨m,0,none⟩ (.int .i64 f.op)).setCell ⟨m,1,none⟩ (.string f.name)).setCell ⟨m,2,none⟩ (.int .i64 f.cmp)).setCell ⟨m,3,none⟩ (.int .i64 f.num)).setCell ⟨m,4,none⟩ (.slice FA f.kids.length q)):=
      (((((zA.refl _ _).setCell (p:=⟨m,0,none⟩) (λ_ h=>h rfl) _).setCell (p:=⟨m,1,none⟩) (λ_ h=>h rfl) _).setCell (p:=⟨m,2,none⟩) (λ_ h=>h rfl) _).setCell (p:=⟨m,3,none⟩) (λ_ h=>h rfl) _).setCell (p:=⟨m,4,none⟩) (λ_ h=>h rfl) _
     have ai:=hid (show Blk _ m 42 #[.int .i64 f.op,.string f.name,.int .i64 f.cmp,.int .i64 f.num,.slice FA f.kids.length q,.string ct,.bool sn] from((((a4.out.set_ 0 (.int .i64 f.op)).set_ 1 (.string f.name)).set_ 2 (.int .i64 f.cmp)).set_ 3 (.int .i64 f.num)).set_ 4 (.slice FA f.kids.length q));have br:=hid (bq.out.keep G (by show w.heap.size≠m;omega));have a6:=hid (b8.out.keep G (by show w.heap.size+1≠m;omega));have ba:=hid (cm.out.keep G (by show WB≠m;omega));have a1:=hid (bz.out.inner2 G (by omega));have a8:=hid (show RdT _ R s A i g k4 from Blk.keep cg.out G (by show R≠m;omega));have az:=hid (FmR.mono (Z':=λb=>w7.heap.size<=b/\b<w8.heap.size) (λb hb=>hb) _ _ (FmR.keep (G.mono λb _ hb=>by have:=hb.1;show b≠m;omega) _ _ bt.out));have dz:=G.size;clear G a4 bq b8 cm bz cg bt l0 l1 l2 l3 l4 l5 l6 N O P U V X Y ll;generalize ((((w8.setCell ⟨m,0,none⟩ (.int .i64 f.op)).setCell ⟨m,1,none⟩ (.string f.name)).setCell ⟨m,2,none⟩ (.int .i64 f.cmp)).setCell ⟨m,3,none⟩ (.int .i64 f.num)).setCell ⟨m,4,none⟩ (.slice FA f.kids.length q)=w9 at*;obtain⟨l0,N,l1,O,l2,P,l3,U,l4,V,l5,X,l6,Y,ll⟩:=ai.out.c7;obtain⟨d0,c9,dl⟩:=br.out.c1;have bj:=hid (bk.out w9 a1.out f _ _ az.out da (λb h=>by have:=h.2;omega));(go_wp2_with fail);refine bj.out.mono ?_;rintro e dj ⟨rfl,n⟩;have dm:=n.size;have ap:=hid (ai.out.below n ai.out.lt);have aq:=hid (a6.out.below n a6.out.lt);have av:=hid (ba.out.below n ba.out.lt);have E:=hid (a1.out.trans (zA.of_below n));have au:=hid (show RdT _ R s A i g k4 from Blk.below a8.out n (Blk.lt a8.out));have al:=hid (FmR.keep (zA.of_below n) _ _ az.out);clear n ai br a6 ba a1 a8 az bj bk l0 l1 l2 l3 l4 l5 l6 N O P U V X Y ll d0 c9 dl;generalize zA5 ds f=ce at*;obtain⟨t0,bc,t1,bd,t2,bf,t3,bg,tl⟩:=av.out.c4;by_cases K:ce=0
     ·have e1:(ce !=(0:Int))=false:=by simp[K]
      have aa:=hid (show zFV s ds (g.drop k)=zj (zAr (s.size:Int) 4 ⟨#[59]⟩ (g.drop k4)) λz=> .ok (⟨f,ct,sn⟩,z.2) from by
       rw[HU.out,K];rfl)
      clear K HU;(go_wp2_with fail);refine(HT.out dj E.out k4 dd au.out 4 ⟨#[59]⟩).mono ?_;intro e eh I;generalize zAr (s.size:Int) 4 ⟨#[59]⟩ (g.drop k4)=T at*
      cases T with
      |error f=>
       obtain⟨d,rfl⟩:=I.error_;(go_wp2_with fail);exact⟨rfl,zCD aa.out (E.out.trans d)⟩
      |ok p=>
       obtain⟨d,rfl,k5,hr,de,aw⟩:=I.ok_;obtain⟨z,rr⟩:=p;dsimp only[zAS,Tok.cells]at*;subst hr;simp only[zAc]at aa;have dn:=d.size;have b0:=hid (ap.out.keep d (by show m≠R;omega));have ar:=hid (aq.out.keep d (by show w.heap.size+1≠R;omega));have bv:=hid (E.out.trans d);have cb:=hid aw;have bs:=hid (FmR.keep (d.mono λb _ hb=>by have:=hb.1;show b≠R;omega) _ _ al.out);clear I d aw ap aq av E au al t0 t1 t2 t3 bc bd bf bg tl;obtain⟨l0,N,l1,O,l2,P,l3,U,l4,V,l5,X,l6,Y,ll⟩:=b0.out.c7;obtain⟨o0,d3,o1,d4,o2,d5,o3,d6,o4,d7,o5,d8,o6,d9,ol⟩:=ar.out.c7;(go_wp2_with fail);refine zTX (Q:=λW=>bodyPost _ _ _ _ _ W) ar.out ?_;intro wf hB ab;obtain⟨r0,ea,r1,eb,r2,dh,r3,ec,r4,ed,r5,ee,r6,ef,rl⟩:=hB.c7;refine bodyPost_ret (v:= .agg #[.int .i64 f.op,.string f.name,.int .i64 f.cmp,.int .i64 f.num,.slice FA f.kids.length q,.string ct,.bool sn]) (by simp[results,results51,go_sem,r0,r1,r2,r3,r4,r5,r6]) rfl (zJy (x:=⟨f,ct,sn⟩) aa.out (bv.out.inner2 ab (by omega)) de (Blk.keep cb.out ab (by show R≠_;omega)) ⟨FA,q,rfl,?_⟩);refine⟨[.int .i64 f.op,.string f.name,.int .i64 f.cmp,.int .i64 f.num,.slice FA f.kids.length q],FmR.mono (λb hb=>by have:=hb.1;show w.heap.size<=b;omega) _ _ (FmR.keep (ab.mono λb _ hb=>by have:=hb.1;show b≠_;omega) _ _ bs.out),rfl,?_⟩;have h1:=bi.out.pos;have h2:=bi.out.fin;dsimp only at h1 h2⊢;omega
     ·have e1:(ce !=(0:Int))=true:=by simp[K]
      have aa:=hid (show zFV s ds (g.drop k)= .error (ce,o) from by
       rw[HU.out];simp[chk,K,zj])
      clear K HU;(go_wp2_with fail);exact⟨rfl,zCD aa.out E.out⟩
end Go.Proofs.YthpocbeoanipbaaGreatDoor
