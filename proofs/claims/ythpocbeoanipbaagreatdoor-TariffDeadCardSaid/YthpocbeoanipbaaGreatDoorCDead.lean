/- TariffDead: for every tariff and case, whatever they are: the law returns true, and the arguments read behind the call as before it. Conditions: the row's own (the listed variables of Go's library read as its text lays them: the card ties them). -/
import Derived.Test.YthpocbeoanipbaaGreatDoorM39
import Derived.Test.YthpocbeoanipbaaGreatDoorM40
import Derived.Test.YthpocbeoanipbaaGreatDoorCards
import Derived.Test.YthpocbeoanipbaaGreatDoorTie
import Derived.SevenTiedAt
set_option linter.all false
namespace Go.Proofs.YthpocbeoanipbaaGreatDoor
open Go.RowKit Go.Proofs.Tryz
set_option maxHeartbeats 8000000
set_option maxRecDepth 100000
section
open Go.Shelf
theorem zP9(Z Zc:zE)(vd vl vc:Value)(t:zY)(c:List Int)(w:World)(h:zAA Z w vd vl t)(hc:zK Zc w vc c)(hz:∀b,Z b->b<w.heap.size)(cs:∀b,Zc b->b<w.heap.size)(bf:zAD w.heap.size w):
  Calls prog 5 #[.agg #[vd,vl],vc] w λe w'=>e= .returned (.bool true)/\Below w.heap.size w w':=by
 have aj:=hid (λW(H:Below w.heap.size w W)=>(show zAD W.heap.size W from(bf.on H).mono H.size));have u:=hid (λW(H:Below w.heap.size w W)=>(show zAA (λb=>b<W.heap.size) W vd vl t from(h.keep (.of_below H)).mono λb f=>Nat.lt_of_lt_of_le (hz b f) H.size));have bi:=hid (λW(H:Below w.heap.size w W)=>(show zK (λb=>b<W.heap.size) W vc c from(hc.keep (.of_below H)).mono λb f=>Nat.lt_of_lt_of_le (cs b f) H.size));obtain⟨D,n,dc⟩:∃X g,vd= .slice X t.dom.length g:=by obtain⟨⟨X,g,e,_⟩,_⟩:=h.d;exact⟨X,g,e⟩
 obtain⟨LA,a,dd⟩:∃X g,vl= .slice X t.lines.length g:=by obtain⟨⟨X,g,e,_⟩⟩:=h.l;exact⟨X,g,e⟩
 obtain⟨CA,di,db⟩:∃X g,vc= .slice X c.length g:=by obtain⟨⟨X,g,e,_⟩,_⟩:=hc;exact⟨X,g,e⟩
 subst dc dd db;have aw:=hid (λ(h:z7 t=true)(hf:fits t.dom c=true)=>zUM (zAj.1 h) hf);have HZ:=hid hz;clear h hc hz cs bf;have bk:=hid (Blk.new w 27 #[.slice D t.dom.length n,.slice LA t.lines.length a]);have bh:=hid (zF w (.cells #[.slice D t.dom.length n,.slice LA t.lines.length a] 27));go_enter func5,ntmps5
 go_wp2_with fail
 refine(zEU _ (aj.out _ bh.out)).mono ?_;rintro e w1 ⟨rfl,f⟩;have az:=hid (bk.out.below f bk.out.lt);have aq:=hid (zD bh.out f);clear f bk bh;obtain⟨I,j,J,m,L⟩:=az.out.c2;go_wp2_with fail
 refine(zEp _ _ _ _ _ t c _ (u.out _ aq.out) (bi.out _ aq.out) (λ_ h=>h)).mono ?_;rintro e w2 ⟨b,rfl,f,a9⟩;have a0:=hid (az.out.below f az.out.lt);have ar:=hid (zD aq.out f);have bw:=hid a9;clear f a9 az aq I J j m L;cases b
 ·go_wp2_with fail
  go_ret;exact⟨rfl,ar.out⟩
 ·obtain⟨c0,bd,dk⟩:=bw.out (by first|exact rfl|trivial);have HS:=hid bd;clear bd bw;obtain⟨I,j,J,m,L⟩:=a0.out.c2;go_wp2_with fail
  refine(zBX _ _ _ t _ (u.out _ ar.out) (λ_ h=>h) (λx V=>Nat.le_trans (HS.out x V) (by decide))).mono ?_;rintro e w3 ⟨rfl,f⟩;have af:=hid (a0.out.below f a0.out.lt);have Y:=hid (zD ar.out f);clear f a0 ar I J j m L;obtain⟨vt,cq⟩:∃vt,vt=z7 t:=⟨_,rfl⟩;rw[<-cq]at aw⊢;clear cq;cases vt
  ·(go_wp2_with fail);go_ret;exact⟨rfl,Y.out⟩
  ·have hq:=af.out.lt;obtain⟨I,j,J,m,L⟩:=af.out.c2;(go_wp2_with fail);refine(zCX _ _ _ t.dom c _ (u.out _ Y.out).d (bi.out _ Y.out)).mono ?_;rintro e w4 ⟨rfl,f⟩;have ag:=hid (af.out.below f af.out.lt);have aa:=hid (zD Y.out f);clear f af Y I J j m L hq;obtain⟨ft,cd⟩:∃ft,ft=fits t.dom c:=⟨_,rfl⟩;rw[<-cd]at aw⊢;clear cd;cases ft
   ·(go_wp2_with fail);go_ret;exact⟨rfl,aa.out⟩
   ·have HG:=hid (aw.out (by first|exact rfl|trivial) (by first|exact rfl|trivial));clear aw;have hq:=ag.out.lt;obtain⟨I,j,J,m,L⟩:=ag.out.c2;(go_wp2_with fail);refine(zKD _ _ _ t _ (u.out _ aa.out) (λ_ h=>h) (λx V=>Nat.le_trans (HS.out x V) (by decide)) (by omega) (aj.out _ aa.out)).mono ?_;rintro e w5 ⟨v,rfl,hi,f⟩;have ah:=hid (ag.out.below f ag.out.lt);have ab:=hid (zD aa.out f);have ax:=hid (hi.live.mono (Z':=λb=>b<w5.heap.size) λb h=>h.2);clear f hi ag aa I J j m L hq;generalize zBe t=RG at*;obtain⟨q,re⟩:=RG;dsimp only at HG ax;obtain⟨VA,dq,rfl,cn,co,cp,-⟩:=ax.out.is;by_cases he:re=0
    ·subst he;obtain⟨cf,ck,cc⟩:=HG.out.2 (by first|exact rfl|trivial);have Q:=hid cf;have b3:=hid ck;have bt:=hid cc;(have dz:q.length<=140737488355328:=by omega);clear cf ck cc HG cn co cp;have hq:=ah.out.lt;obtain⟨I,j,J,m,L⟩:=ah.out.c2;(go_wp2_with fail);refine(zDZ _ _ _ _ _ t c _ (u.out _ ab.out) (bi.out _ ab.out) (λ_ h=>h) (λ_ h=>h) (λx V=>Nat.le_trans (HS.out x V) (by decide))).mono ?_;rintro e w6 ⟨rfl,f⟩;have ai:=hid (ah.out.below f ah.out.lt);have br:=hid (zD ab.out f);have ay:=hid ((ax.out.keep (.of_below f)).mono (Z':=λb=>b<w6.heap.size) λb h=>Nat.lt_of_lt_of_le h f.size);clear f ah ab ax I J j m L hq;generalize zAR t c=cl at*;obtain⟨ci,ce⟩:=cl;dsimp only at Q;(go_wp2_with fail);go_loopw[10] (λiv wr=>∃k:Nat,k<=q.length/\iv= .int .i64 k/\Hid (Below w6.heap.size w6 wr)) (λiv _=>q.length-(intOf iv).toNat);case atStart=>exact⟨0,Nat.zero_le _,rfl,hid (Below.refl _ _)⟩
     case round=>
      obtain⟨k,hk,rfl,o⟩:=hrel;by_cases a4:k<q.length
      ·obtain⟨pb,ap,rfl,-,c9,c8⟩:=ay.out.at_ a4;obtain⟨cr,bq,de⟩:=Q.out q[k] (List.getElem_mem a4);(have ba:¬q[k]<0:=by omega);(have bb:¬((t.lines.length:Nat):Int)<=q[k]:=by omega);have cb:wr.cell? ⟨pb,ap+k,none⟩=some (.int .i64 q[k]):=brd o.out c8 c9;have ds:=lt_of_cell cb;have cz:=hid de;have M:=hid (ai.out.below o.out ai.out.lt);(have dv:((k:Nat):Int)<(q.length:Int):=by omega);(have du:¬((k:Nat):Int)<0:=by omega);obtain⟨I,j,J,m,L⟩:=M.out.c2
       have b9:k=0\/∃T,k=T+1/\∃cg:T<q.length,q[T]<q[k]:=by
        cases k with
        |zero=>exact .inl rfl
        |succ T=>exact .inr ⟨T,rfl,by omega,List.pairwise_iff_getElem.1 b3.out T (T+1) (by omega) a4 (by omega)⟩
       have dy:t.lines.length<=8:=c0;have b6:=hid (λ(h:ce=0)=>(show((ci:Int)==q[k])=false by simp[cz.out h]));rcases b9 with rfl|⟨T,rfl,cg,dn⟩
       ·generalize q[0]=x at*;have dj:wr.cell? ⟨pb,ap,none⟩=some (.int .i64 x):=cb;have e1:decide ((x:Int)<0)=false:=decide_eq_false ba;have e2:decide (((t.lines.length:Nat):Int)<=x)=false:=decide_eq_false bb;by_cases N:ce=0
        ·have e3:=b6.out N;subst N;(go_upto_region 11 with fail);go_quiet(fail);(go_wp2_with fail);go_roundw;(case rel=>exact⟨0+1,by omega,by go_num,hid (((zA.of_below (Z:=λ_=>True) o.out).drewN _).below)⟩);case measure=>simp[intOf];omega
        ·(have e3:((ce:Int)==(0:Int))=false:=by simp[N]);(go_upto_region 11 with fail);go_quiet(fail);(go_wp2_with fail);go_roundw;(case rel=>exact⟨0+1,by omega,by go_num,hid (((zA.of_below (Z:=λ_=>True) o.out).drewN _).below)⟩);case measure=>simp[intOf];omega
       ·have dr:wr.cell? ⟨pb,ap+T,none⟩=some (.int .i64 q[T]):=by
         obtain⟨b2,o2,e,-,h1,h2⟩:=ay.out.at_ cg;injection e with e;injection e with e1 e2;subst e1 e2;exact brd o.out h2 h1
        generalize q[T]=y at*;generalize q[T+1]=x at*;have e1:decide ((x:Int)<0)=false:=decide_eq_false ba;have e2:decide (((t.lines.length:Nat):Int)<=x)=false:=decide_eq_false bb;have e4:decide ((x:Int)<=y)=false:=decide_eq_false (by omega);(have e5:¬x<=y:=by omega);by_cases N:ce=0
        ·have e3:=b6.out N;subst N;(go_upto_region 11 with fail);go_quiet(fail);(go_wp2_with fail);go_roundw;(case rel=>exact⟨T+1+1,by omega,by go_num,hid (((zA.of_below (Z:=λ_=>True) o.out).drewN _).below)⟩);case measure=>simp[intOf];omega
        ·(have e3:((ce:Int)==(0:Int))=false:=by simp[N]);(go_upto_region 11 with fail);go_quiet(fail);(go_wp2_with fail);go_roundw;(case rel=>exact⟨T+1+1,by omega,by go_num,hid (((zA.of_below (Z:=λ_=>True) o.out).drewN _).below)⟩);case measure=>simp[intOf];omega
      ·(obtain rfl:k=q.length:=by omega);have C:=hid (ai.out.below o.out ai.out.lt);have F:=hid (zD br.out o.out);have cw:=hid ((ay.out.keep (.of_below o.out)).mono (Z':=λb=>b<wr.heap.size) λb h=>Nat.lt_of_lt_of_le h o.out.size);clear ai br ay o b3 hk a4;by_cases hz:q.length=0
       ·(have e1:((q.length:Int)==(0:Int))=true:=by simp[hz]);obtain⟨I,j,J,m,L⟩:=(C.out).c2;(go_wp2_with fail);go_ret;exact⟨rfl,F.out⟩
       ·(have e1:((q.length:Int)==(0:Int))=false:=by simp[hz]);by_cases dx:t.lines.length<2
        ·have e2:decide (((t.lines.length:Nat):Int)<(2:Int))=true:=decide_eq_true (by omega);obtain⟨I,j,J,m,L⟩:=(C.out).c2;(go_wp2_with fail);go_ret;exact⟨rfl,F.out⟩
        ·have e2:decide (((t.lines.length:Nat):Int)<(2:Int))=false:=decide_eq_false (by omega);obtain⟨lb,ao,rfl,-,c6,bo⟩:=cw.out.at_ (i:=0) (by omega);obtain⟨cr,bq,-⟩:=Q.out q[0] (List.getElem_mem (by omega));obtain⟨d,hd⟩:∃d:Nat,q[0]=(d:Int):=⟨q[0].toNat,by omega⟩;have bu:=hid (bt.out d (hd▸List.getElem_mem (by omega)) (by omega));rw[hd]at bo bq;(have dt:d<t.lines.length:=by omega);have cm:wr.cell? ⟨lb,ao,none⟩=some (.int .i64 d):=bo;(have dp:0<q.length:=by omega);clear cr bq hd bo bt Q;obtain⟨b,B,-,rfl,-⟩:=(u.out w (Below.refl _ _)).l.at_ (k:=0) (by omega)
         have bp:t.lines.length<=a/\a<=9223372036854775807:=by
          obtain⟨⟨_,_,e,h1,h2,-⟩⟩:=(u.out w (Below.refl _ _)).l;injection e with e3 e4 e5;subst e5;exact⟨h1,h2⟩
         obtain⟨dl,dm⟩:=bp;obtain⟨a1,hE,bc⟩:=zGM ((u.out w (Below.refl _ _)).l.take_ (d:=d) (by omega));obtain⟨bl,a3,O⟩:=zGM ((u.out w (Below.refl _ _)).l.drop_ (d:=d+1) (by omega));(obtain⟨AO,bm⟩:∃AO:Option Addr,AO=if a=d+1 then some ⟨b,B,none⟩else some ⟨b,B+(d+1)*7,none⟩:=⟨_,rfl⟩);rw[<-bm]at O;have cu:=hid bm;clear bm;have ac:=hid (show a1.flatten.length=d*7 from by rw[hE.size,List.length_take];congr 1;omega);have P:=hid (show bl.flatten.length=(t.lines.length-(d+1))*7 from by rw[a3.size,List.length_drop]);have b1:=hid (show d+(t.lines.length-(d+1))=(t.lines.take d).length +(t.lines.drop (d+1)).length from by rw[List.length_take,List.length_drop];omega);have a7:=hid (zDA hE);have ad:=hid (zDA a3);have bv:=hid hE;have a6:=hid a3;obtain⟨I,j,J,m,L⟩:=(C.out).c2;have HM:=hid (Blk.new wr 27 #[.slice D t.dom.length n,.slice (some ⟨b,B,none⟩) t.lines.length a]);have M:=hid (C.out.alloc (.cells #[.slice D t.dom.length n,.slice (some ⟨b,B,none⟩) t.lines.length a] 27));have au:=hid (zD F.out (zF wr (.cells #[.slice D t.dom.length n,.slice (some ⟨b,B,none⟩) t.lines.length a] 27)));have bx:=hid (show w.heap.size<=wr.heap.size from F.out.size);have b0:=hid (show w.heap.size≠wr.heap.size from Nat.ne_of_lt C.out.lt);have b4:=hid (show ∀W,Below wr.heap.size wr W->W.cell? ⟨lb,ao,none⟩=some (.int .i64 d) from λW H=>brd H cm c6);have bj:=hid (zF wr (.cells #[.slice D t.dom.length n,.slice (some ⟨b,B,none⟩) t.lines.length a] 27));(go_upto_region 16 with fail);clear C F I J j m L e1 e2 cm;generalize wr.alloc (.cells #[.slice D t.dom.length n,.slice (some ⟨b,B,none⟩) t.lines.length a] 27)=s at*;have a8:=hid (λ(W:World)(H:Below s.heap.size s W)=>Row.keep bc (zA.of_below (zD au.out H)));have ae:=hid (λ(W:World)(H:Below s.heap.size s W)=>Row.keep O (zA.of_below (zD au.out H)))
         have HC:=hid (λ(W:World)(H:Below s.heap.size s W)=>(show W.cell? ⟨w.heap.size,1,none⟩=some (.slice (some ⟨b,B,none⟩) t.lines.length a)/\w.heap.size<W.heap.size/\W.cell? ⟨lb,ao,none⟩=some (.int .i64 d)/\lb<W.heap.size from by
          have h1:=M.out.below H M.out.lt;have h2:=b4.out W (bj.out.trans (H.mono bj.out.size))
          exact⟨h1.at1,h1.lt,h2,lt_of_cell h2⟩))
         generalize wr.heap.size=mb at*;clear hE a3 bc O;go_cut[] from 116 to 132 (λwx=>∃A b7,Blk wx mb 27 #[.slice D t.dom.length n,.slice A (d+(t.lines.length-(d+1))) b7]/\zBS (λb=>b<wx.heap.size) wx (.slice A (d+(t.lines.length-(d+1))) b7) (t.lines.take d++t.lines.drop (d+1))/\Below w.heap.size w wx/\Blk wx w.heap.size 27 #[.slice D t.dom.length n,.slice (some ⟨b,B,none⟩) t.lines.length a])
         case first=>
          refine zL 17 (λW=>Below s.heap.size s W) (by kernel_rfl) ?_;have U:Below s.heap.size s s.drew:=(Below.refl _ _).drew;have G:(λW=>Below s.heap.size s W) s.drew:=U;generalize s.drew=x0 at*
          (refine tkQ 1 G ?_;simp only[nr])
          (refine tkS 2 ?_ G ?_ ?_;rotate_left;intro w z;obtain⟨t1,tl,q0,ql⟩:=HC.out _ z;clear z;go_simp;(try with_reducible rfl);simp only[nr])
          (refine tkQ 3 G ?_;simp only[nr])
          (refine tkQ 4 G ?_;simp only[nr])
          (refine tkS 5 ?_ G ?_ ?_;rotate_left;intro w z;obtain⟨t1,tl,q0,ql⟩:=HC.out _ z;clear z;go_simp;(try with_reducible rfl);simp only[nr])
          refine tkZ 6 (.slice (some ⟨b,B,none⟩) d a) G (λW=> ?_) ?_
          ·go_simp;intro h;omega
          (try simp only[nr])
          (refine tkQ 8 G ?_;simp only[nr])
          (refine tkS 9 ?_ G ?_ ?_;rotate_left;intro w z;obtain⟨t1,tl,q0,ql⟩:=HC.out _ z;clear z;go_simp;(try with_reducible rfl);simp only[nr])
          (refine tkQ 10 G ?_;simp only[nr])
          (refine tkQ 11 G ?_;simp only[nr])
          (refine tkS 12 ?_ G ?_ ?_;rotate_left;intro w z;obtain⟨t1,tl,q0,ql⟩:=HC.out _ z;clear z;go_simp;(try with_reducible rfl);simp only[nr])
          refine tkZ 13 (.int .i64 ((d+1:Nat):Int)) G (λW=> ?_) ?_
          ·go_simp;rw[IntKind.wrap_i64];omega
          (try simp only[nr])
          refine tkZ 14 (.slice AO (t.lines.length-(d+1)) (a-(d+1))) G (λW=> ?_) ?_
          ·go_simp;rw[if_pos (by omega),cu.out]
          (try simp only[nr])
          clear G;refine wS1 0 (λK hK=> ?_);(go_wp2_with fail);refine hK _ _ (Or.inr (U.alloc U.size _)) ?_;clear hK K
          (try simp only[nr])
          have a2:Below s.heap.size s (x0.alloc (.cells #[] 42)):=U.alloc U.size _;have b8:(x0.alloc (.cells #[] 42)).ownsRow s.heap.size 42 7 (.slice (some ⟨x0.heap.size,0,none⟩) 0 0) 0 []:=zHS (Blk.new x0 42 #[]) U.size (by decide) rfl;(have dw:x0.heap.size<(x0.alloc (.cells #[] 42)).heap.size :=by simp);generalize x0.alloc (.cells #[] 42)=x1 at*;refine wS1 7 (λK hK=> ?_);refine zD0 (.tmp 116) (.tmp 122) _ rfl underlying25 Tryz.eLine rfl b8 rfl ac.out (a8.out _ a2) a7.out (by unfold maxLen;omega) (by omega) a2.size ?_;intro v2 x2 E hg bn;have ak:Below s.heap.size s x2:=ze a2 b8 hg a2.size (Nat.le_refl _);(have ca:x2.ownsRow s.heap.size 42 7 v2 (d) a1.flatten:=by rw[Nat.zero_add,List.nil_append]at E;exact E);refine hK _ _ (Or.inr ak) ?_;clear hK K E hg bn;simp only[nq];refine wS1 15 (λK hK=> ?_);refine zD0 (.tmp 123) (.tmp 130) _ rfl underlying25 Tryz.eLine rfl ca rfl P.out (ae.out _ ak) ad.out (by unfold maxLen;omega) (by omega) ak.size ?_;intro v9 x3 E hg bn;have al:Below s.heap.size s x3:=ze ak ca hg ak.size (Nat.le_refl _);refine hK _ _ (Or.inr al) ?_;clear hK K hg bn;simp only[nq];obtain⟨g9,dh,da,-,-,-⟩:=Row.of_own E (by decide);subst da;have hM:=HM.out.below al HM.out.lt;have z1:=hM.at1;have zf:=hM.frozen 1;have zl:=hM.lt;clear hM;have G:(λW=>Below s.heap.size s W) x3:=al
          (refine tkQ 16 G ?_;simp only[nr])
          clear G;refine wS1 17 (λK hK=> ?_);(go_wp2_with fail);refine hK _ _ (Or.inl rfl) ?_;clear hK K
          (try simp only[nr])
          refine wSd ?_ _;(go_wp2_with fail);go_meet;have hd:=zGN (w:=w) (csl:=a1) (dsl:=bl) au.out al HM.out bx.out bv.out a6.out E b1.out (by omega);exact⟨_,_,hd.1,hd.2.1,hd.2.2,(M.out.below al M.out.lt).far (p:=⟨mb,1,none⟩) b0.out _⟩
         case rest=>
          obtain⟨MA,ct,hm,ch,f,ht⟩:=hcut;(rename World=>w9);have bz:=hid hm;have b5:=hid ht;have av:=hid f;have cy:=hid (show zAA (λb=>b<w9.heap.size) w9 (.slice D t.dom.length n) (.slice MA (d+(t.lines.length-(d+1))) ct) ⟨t.dom,t.lines.take d++t.lines.drop (d+1)⟩ from⟨(u.out _ f).d,ch⟩)
          have cv:=hid (show ∀x∈t.lines.take d++t.lines.drop (d+1),zG x.when_<=1000000 from λx V=>by
           rcases List.mem_append.1 V with V|V
           ·exact Nat.le_trans (HS.out x (List.mem_of_mem_take V)) (by decide)
           ·exact Nat.le_trans (HS.out x (List.mem_of_mem_drop V)) (by decide))
          clear hm ch f ht HM M au bv a6 a7 ad ac P b1 bx b0 b4 bj a8 ae HC;generalize cj:(⟨t.dom,t.lines.take d++t.lines.drop (d+1)⟩:zY)=bg at*;have cx:=hid cj.symm;clear cj;have bs:=hid (zDn _ _ _ _ _ _ t bg _ (u.out _ av.out) cy.out (λ_ h=>h) (λ_ h=>h) (λx V=>Nat.le_trans (HS.out x V) (by decide)) (by rw[cx.out];exact cv.out) (aj.out _ av.out));generalize d+(t.lines.length-(d+1))=ln at*;obtain⟨I,j,J,m,L⟩:=b5.out.c2;obtain⟨q0,df,q1,dg,ql⟩:=bz.out.c2;(go_wp2_with fail);refine bs.out.mono ?_;rintro e d0 ⟨v,rfl,-,f⟩;have a5:=hid (zD av.out f);obtain⟨hr,he⟩:=bu.out;generalize zS t bg=R at*;obtain⟨r,e⟩:=R;dsimp only at hr he;subst hr;clear f bs av b5 bz I J j m L q0 q1 df dg ql;rcases he with rfl|rfl
          ·(go_wp2_with fail);go_ret;exact⟨rfl,a5.out⟩
          ·(go_wp2_with fail);go_ret;exact⟨rfl,a5.out⟩
    ·have h1:=HG.out.1 he;injection h1 with h1 h2;subst h1 h2;(go_wp2_with fail);go_ret;exact⟨rfl,ab.out⟩
end
section
open Go.ChangeShapes Go.WideShapes Go.ChangeAt
theorem zK2(os:Os)(c:os.Started)(H:Type)(enc:TypeId × Value->H):
  ReturnsInHanded {} Tryz.checked os 5 .any (λw args=>(Rows.tariffDeadSpec.pre enc prog Tryz.f5 [] false w args/\laidMetH prog zCV w)/\sizedMet enc prog Tryz.f5 (OpenSpec.ofChange Rows.tariffDeadSpec) false w args)
   (Rows.tariffDeadSpec.post enc prog Tryz.f5 false true false false):=by
 refine returnsInHanded_of_change_and (C:=Tryz.checked) (X:=λw _=>laidMetH prog zCV w) (λ_ _ _ K h=>h.of_heap K) own c (by kernel_rfl) func5
  (ChangeSpec.witness_shaped (enc:=enc) (C:=Tryz.checked) (os:=os) (X:=λw _=>laidMetH prog zCV w) false (World.doorLaid prog 62 os) #[.agg #[.slice none 0 0,.slice none 0 0],.slice none 0 0] 8 rfl (World.shaped_of_RefB (by kernel_rfl) (by kernel_rfl)) (by kernel_rfl) (by kernel_rfl) (by kernel_rfl) (zFd os _)) ?_
 intro W i args x E n b y _ d I _;have a:∀(j:Nat) t v,Tryz.f5.params[j]? =some t->args[j]? =some v->Value.okWide prog W .any i t v:=b;have m:=y;obtain⟨p,q,k,J,rfl,-,-⟩:=y;have o:DataW.TrodAll enc prog W 0 (λ_=>true) true Tryz.f5.params.toList args.toList x p:=k;have g:(DataW.weightsEach prog (Tryz.f5.params.toList++Rows.tariffDeadSpec.plain.varTypes prog) (x++E)).all (· <=reachBytes)=true:=d;clear k d b;obtain⟨rfl,rfl⟩:=trodVars_none J;simp only[List.append_nil]at m;have s:=o;rw[params5]at o a g;obtain⟨O,Q,T,B,V,Z,f,rfl,rfl,F,L⟩:=trodAll_cons o;obtain⟨P,R,U,D,Y,q1,rfl,rfl,rfl,G,M⟩:=trodAll_cons L;obtain⟨rfl,rfl,rfl⟩:=trodAll_nil M;obtain rfl:args=#[O,P]:=by simpa using congrArg List.toArray f
 obtain⟨x0,y0,N,rfl,z⟩:=zFn (a 0 27 _ rfl rfl) F (zDe g (j:=0) rfl rfl);obtain⟨u,A⟩:=zI4 (a 1 29 _ rfl rfl) G (zDe g (j:=1) rfl rfl);refine(zP9 (zCt W) (zCt W) _ _ _ N u W z A (λ_ h=>h) (λ_ h=>h) (zDi I)).mono λe W' ⟨he,hb⟩=> ?_
 subst he;exact⟨_,rfl,zFe m s rfl rfl (by kernel_rfl) (by kernel_rfl) hb⟩
theorem zLE:(Rows.tariffDeadRow.inPlace==prog.inPlace 5)=true:=by kernel_rfl
theorem zK3:(Rows.tariffDeadRow.unfollowed==prog.unfollowed 5)=true:=by kernel_rfl
theorem zK4:(Rows.tariffDeadRow.recurses==prog.recurses 5)=true:=by kernel_rfl
theorem zLF:(Rows.tariffDeadRow.named==prog.varsNamed 5)=true:=by kernel_rfl
theorem zLG:joinedFacts prog 5 Tryz.f5 Rows.tariffDeadSpec Rows.tariffDeadRow=true:=
 zDS (by kernel_rfl) laidOut zGm (by kernel_rfl) (by kernel_rfl) rfl zGn rfl zGo zLE zK3 zK4 zLF (by kernel_rfl) (by kernel_rfl) (by kernel_rfl) (by kernel_rfl) (by kernel_rfl) rfl (by kernel_rfl) (by kernel_rfl) (by kernel_rfl)
  zIL rfl zGp zGq zGr zIM rfl (by kernel_rfl) (by kernel_rfl) (by kernel_rfl)
theorem zLH:Rows.TariffDeadSaid:=
 OpenClaim.holds_of_wide 5 Tryz.f5 rfl rfl rfl rfl rfl rfl rfl ⟨rfl,rfl,rfl,rfl,rfl⟩ rfl rfl rfl rfl rfl (by kernel_rfl) func5 zLG
  (of_decide_eq_true (by kernel_rfl)) (by unfold Func.isWrapper;rw[if_neg (of_decide_eq_false (by kernel_rfl))];exact⟨rfl,rfl⟩)
  (λc a H b _=>zK2 c a H b)
theorem tariffdead_card:Rows.TariffDeadCardSaid:=
 Claim7.holds_tied_plain_at .later [] [.data,.data,.data,.sentinel,.sentinel] true (true,"9d5f64aa18c290daaccff0ab2ce20b26d467f80ee7c9efc2112ab5ceb4813111") true
  zLH (λ_ h=>by cases h) (by kernel_rfl) (λ_ h=>by cases h) tariffDead_row_tie rfl ⟨rfl,rfl⟩ (by kernel_rfl) rfl
  (λf fn hf hfn=>by
   obtain rfl:f=5:=Option.some.inj ((show prog.funcNamed "customhouse/customhouselaw27.TariffDead" =some 5 by kernel_rfl).symm.trans hf) |>.symm;obtain rfl:fn=Tryz.f5:=(Option.some.inj (func5.symm.trans hfn)).symm
   exact⟨by kernel_rfl,λj t ht=>by
    rw[params5]at ht;(have hm:t∈[27,29]:=by simpa using Array.mem_of_getElem? ht);have hall:([27,29].all λu=> !prog.wantsStandIn u)=true:=by kernel_rfl
    exact(show prog.wantsStandIn t=false by simpa using List.all_eq_true.1 hall t hm)⟩)
  (by kernel_rfl)
end
end Go.Proofs.YthpocbeoanipbaaGreatDoor
