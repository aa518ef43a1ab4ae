/- Texts TH5 TI2. -/
import Derived.Test.YthpocbeoanipbaaGreatDoorM30
import Derived.Test.YthpocbeoanipbaaGreatDoorM31
set_option linter.all false
namespace Go.Proofs.YthpocbeoanipbaaGreatDoor
open Go.RowKit Go.Proofs.Tryz
set_option maxHeartbeats 4000000
set_option maxRecDepth 100000
variable{e:Ending}{f:Flt}{j:Nat}{sym:ByteArray}{ts:List Tok}{w:World}
def zIv(s:ByteArray)(w:World)(e:Ending)(w':World):Prop:=
 ∃A cap,e= .returned (.tuple #[.agg #[.int .i64 (zAW s).1.op,.string (zAW s).1.name,.int .i64 (zAW s).1.cmp,.int .i64 (zAW s).1.num,.slice A (zAW s).1.kids.length cap],.int .i64 (zAW s).2.1,.int .i64 (zAW s).2.2])/\
  FmR (λb=>w.heap.size<=b) w' (zAW s).1 [.int .i64 (zAW s).1.op,.string (zAW s).1.name,.int .i64 (zAW s).1.cmp,.int .i64 (zAW s).1.num,.slice A (zAW s).1.kids.length cap]/\Bw w w'
theorem zIw{s:ByteArray}{w x h:World}{f:Fm}{g p:Int}{A:Option Addr}{c:Nat}(j:zAW s=(f,g,p))(a:Bw w x)(d:zA (λk=>k≠w.heap.size) x h)
  (i:FmR (λb=>w.heap.size+1<=b) x f [.int .i64 f.op,.string f.name,.int .i64 f.cmp,.int .i64 f.num,.slice A f.kids.length c]):zIv s w (.returned (.tuple #[.agg #[.int .i64 f.op,.string f.name,.int .i64 f.cmp,.int .i64 f.num,.slice A f.kids.length c],.int .i64 g,.int .i64 p])) h:=by
 unfold zIv;rw[j];refine⟨A,c,rfl,FmR.mono (λb a=>by have a:w.heap.size+1<=b:=a;show w.heap.size<=b;omega) _ _ (FmR.keep (d.mono λb _ a=>by have a:w.heap.size+1<=b:=a;show b≠w.heap.size;omega) _ _ i),?_⟩;exact⟨d.os.trans a.os,d.tape.trans a.tape,d.output.trans a.output,Nat.le_trans a.size d.size,λk e=>(d.block k (Nat.lt_of_lt_of_le e a.size) (Nat.ne_of_lt e)).trans (a.block k e)⟩
def zF5(st:PSt):PSt:=match st.toks with
 |[]=>st
 |t::_=>zAQ st 5 t.pos
theorem zSC(s:ByteArray)(w:World)(hs:s.size<=140737488355328):Calls prog 87 #[.string s] w (zIv s w):=by
 have HL:=hid (λW=>zEs s W hs)
 have HU:=hid (show zAW s=(if(zJ s).2.1≠0 then(zFm,(zJ s).2.1,(zJ s).2.2)else
  (if(if(zF5 (zB8 s.size ((zJ s).1.length +1) ⟨(zJ s).1,0,0⟩).2).err =0/\zA9 (zB8 s.size ((zJ s).1.length +1) ⟨(zJ s).1,0,0⟩).1=true then zAQ (zF5 (zB8 s.size ((zJ s).1.length +1) ⟨(zJ s).1,0,0⟩).2) 2 (-1)else zF5 (zB8 s.size ((zJ s).1.length +1) ⟨(zJ s).1,0,0⟩).2).err ≠0 then
   (zFm,(if(zF5 (zB8 s.size ((zJ s).1.length +1) ⟨(zJ s).1,0,0⟩).2).err =0/\zA9 (zB8 s.size ((zJ s).1.length +1) ⟨(zJ s).1,0,0⟩).1=true then zAQ (zF5 (zB8 s.size ((zJ s).1.length +1) ⟨(zJ s).1,0,0⟩).2) 2 (-1)else zF5 (zB8 s.size ((zJ s).1.length +1) ⟨(zJ s).1,0,0⟩).2).err,(if(zF5 (zB8 s.size ((zJ s).1.length +1) ⟨(zJ s).1,0,0⟩).2).err =0/\zA9 (zB8 s.size ((zJ s).1.length +1) ⟨(zJ s).1,0,0⟩).1=true then zAQ (zF5 (zB8 s.size ((zJ s).1.length +1) ⟨(zJ s).1,0,0⟩).2) 2 (-1)else zF5 (zB8 s.size ((zJ s).1.length +1) ⟨(zJ s).1,0,0⟩).2).pos)
   else((zB8 s.size ((zJ s).1.length +1) ⟨(zJ s).1,0,0⟩).1,0,0))) from rfl)
 go_enter func87,ntmps87
 go_wp2_with fail
 refine(HL.out _).mono ?_;rintro e Y ⟨v,rfl,V,ag⟩;obtain⟨A,cap,rfl,X⟩:=zAt.of_own V;have HO:=hid ((Blk.new w 40 #[.int .i64 0,.string ⟨#[]⟩,.int .i64 0,.int .i64 0,.slice none 0 0]).below ag (by simp));have HB:=hid ((zF w (.cells #[.int .i64 0,.string ⟨#[]⟩,.int .i64 0,.int .i64 0,.slice none 0 0] 40)).trans (ag.mono (by simp)));have HT:=hid X.live;clear ag V X HL;obtain⟨L,hL⟩:∃L,L=zJ s:=⟨_,rfl⟩;have o:=hid (λ(h:(zJ s).2.1=0)=>And.intro (zIe h) (zId h));rw[<-hL]at HU HT o⊢;clear hL;obtain⟨ts,er,bw⟩:=L;dsimp only at*;obtain⟨o0,aj,o1,ak,o2,al,o3,ao,o4,ap,ol⟩:=HO.out.c5;by_cases h0:er=0
 ·subst h0;obtain⟨⟨br,bq⟩,rfl⟩:=o.out rfl;have D:=hid (HU.out.trans (if_neg (by simp)));have b7:=HT.out.few;clear HU o bq;go_upto_region 5 with fail
  have HS:=hid (show PsR Y.heap.size (s.size:Int) s (Y.alloc (.cells #[.slice A ts.length cap,.int .i64 (s.size:Int),.int .i64 0,.int .i64 0] 202)) ⟨ts,0,0⟩ from
   ⟨⟨A,cap,Blk.new Y _ _,(HT.out.mono λb h=>h.2).keep ((zA.refl _ _).alloc _)⟩,br⟩)
  have a1:=hid (HO.out.alloc (.cells #[.slice A ts.length cap,.int .i64 (s.size:Int),.int .i64 0,.int .i64 0] 202));have aq:=hid (HB.out.alloc (HB.out.size) (.cells #[.slice A ts.length cap,.int .i64 (s.size:Int),.int .i64 0,.int .i64 0] 202));have ca:Y.heap.size<(Y.alloc (.cells #[.slice A ts.length cap,.int .i64 (s.size:Int),.int .i64 0,.int .i64 0] 202)).heap.size :=by simp
  have b9:w.heap.size<Y.heap.size:=HO.out.lt;clear HO HB HT br o0 o1 o2 o3 o4 aj ak al ao ap ol;generalize Y.alloc (.cells #[.slice A ts.length cap,.int .i64 (s.size:Int),.int .i64 0,.int .i64 0] 202)=w2 at*;generalize Y.heap.size=P at*;have HE:=hid (zPQ P (s.size:Int) s hs (ts.length+1) ⟨ts,0,0⟩ w2 (Nat.lt_succ_self _) HS.out);have a5:=hid (zMM (s.size:Int) (ts.length+1) ⟨ts,0,0⟩);go_wp2_with fail
  generalize zB8 (s.size:Int) (ts.length+1) ⟨ts,0,0⟩=Q at*;refine HE.out.mono ?_;rintro e O ⟨R,d,rfl,bd,bg,N⟩;obtain⟨f,st⟩:=Q;dsimp only at*;have cb:w2.heap.size<=O.heap.size:=N.size;have b0:zG f<=4000000000000000000:=by have:=a5.out;omega
  have HF:=hid (Blk.new O 40 #[.int .i64 f.op,.string f.name,.int .i64 f.cmp,.int .i64 f.num,.slice R f.kids.length d]);have a2:=hid ((a1.out.keep N (by show w.heap.size≠P;omega)).alloc (.cells #[.int .i64 f.op,.string f.name,.int .i64 f.cmp,.int .i64 f.num,.slice R f.kids.length d] 40));have I:=hid (bg.below (zF O (.cells #[.int .i64 f.op,.string f.name,.int .i64 f.cmp,.int .i64 f.num,.slice R f.kids.length d] 40)));have ar:=hid (((zA.of_below_lt aq.out (Z:=λb=>b<w.heap.size) (λb _ h=>h)).trans (N.mono λb _ h=>by have h:b<w.heap.size:=h;show b≠P;omega)).alloc (.cells #[.int .i64 f.op,.string f.name,.int .i64 f.cmp,.int .i64 f.num,.slice R f.kids.length d] 40));have ay:=hid (FmR.keep ((zA.refl (λb=>w2.heap.size<=b/\b<O.heap.size) O).alloc (.cells #[.int .i64 f.op,.string f.name,.int .i64 f.cmp,.int .i64 f.num,.slice R f.kids.length d] 40)) _ _ (FmR.live _ _ bd));have cc:O.heap.size<(O.alloc (.cells #[.int .i64 f.op,.string f.name,.int .i64 f.cmp,.int .i64 f.num,.slice R f.kids.length d] 40)).heap.size :=by simp
  clear bg N bd a1 aq HS HE a5;go_upto_region 6 with fail
  generalize O.alloc (.cells #[.int .i64 f.op,.string f.name,.int .i64 f.cmp,.int .i64 f.num,.slice R f.kids.length d] 40)=w4 at*;generalize O.heap.size=FB at*;have i:=I.out.box;obtain⟨TA,b4,g,z⟩:=i;have p0:=g.at0;have pl:=g.lt;have J:=hid z;clear g z;go_upto_if 33 with fail
  go_cut[] from 28 to 42 (λwx=>PsR P (s.size:Int) s wx (zF5 st)/\zA (λc=>c≠P) w4 wx)
  case first=>
   obtain⟨b3,bx,bj⟩:=st;dsimp only at*
   cases b3 with
   |nil=>
    simp only[List.length_nil]at p0;(go_wp2_with fail);go_meet;exact⟨I.out,zA.refl _ _⟩
   |cons t r=>
    obtain⟨b,cg,rfl,hz,c0,c1,c2,c3⟩:=J.out.at_ (k:=0) (by simp);have a6:=J.out.few;have b1:=J.out.le;simp only[Nat.zero_mul,Nat.add_zero,List.getElem_cons_zero]at c0 c1 c2 c3;simp only[List.length_cons]at p0 a6 b1;have bl:=lt_of_cell c0;(have q1:(0:Int)<((r.length+1:Nat):Int):=by omega);(have q2:0<r.length+1:=by omega);(go_wp2_with fail);refine(zC5 P (s.size:Int) s ⟨t::r,bx,bj⟩ 5 t.pos w4 I.out).mono ?_;rintro e wz ⟨rfl,ai,ah⟩;(go_wp2_with fail);go_meet;exact⟨ai,ah⟩
  case rest=>
   obtain⟨bh,x⟩:=hcut;(rename World=>w5);generalize bf:zF5 st=a at*;have b5:=hid bf;have cd:=x.size;have ac:=hid bh;have H:=hid (HF.out.keep x (by show FB≠P;omega));have aa:=hid (a2.out.keep x (by show _≠P;omega));have au:=hid (ar.out.trans (x.mono λb _ h=>by have h:b<w.heap.size:=h;show b≠P;omega));have C:=hid (FmR.keep (x.mono λb _ hb=>by have:=hb.1;show b≠P;omega) _ _ ay.out);clear bh x bf I HF a2 ar ay J p0 pl;have i:=ac.out.box;obtain⟨b6,b2,g,z⟩:=i;have p2:=g.at2;have pl:=g.lt;clear g z;obtain⟨f0,a7,f1,a8,f2,a9,f3,ba,f4,bb,fl⟩:=H.out.c5;have a0:=hid (zKG _ f _ w5 C.out b0 (λb h=>by have:=h.2;omega));(go_upto_region 8 with fail);go_cut[51] from 43 to 51 (λv wx=>v= .bool (decide (a.err=0/\zA9 f=true))/\Bw w5 wx)
   case first=>
    by_cases q1:a.err=0
    ·(have e1:(a.err==(0:Int))=true:=by simp[q1]);have HV:=hid (show decide (a.err=0/\zA9 f=true)=zA9 f from by simp[q1]);clear q1;(go_wp2_with fail);refine a0.out.mono ?_;rintro e wz ⟨rfl,bz⟩;(go_wp2_with fail);go_meet;rw[HV.out];exact⟨rfl,bz⟩
    ·(have e1:(a.err==(0:Int))=false:=by simp[q1]);have HV:=hid (show decide (a.err=0/\zA9 f=true)=false from by simp[q1]);clear q1;(go_wp2_with fail);go_meet;rw[HV.out];exact⟨rfl,Below.refl _ _⟩
   case rest=>
    obtain⟨rfl,m⟩:=hcut;(rename World=>w6);have ce:=m.size;have ad:=hid (ac.out.below m);have ax:=hid (H.out.below m H.out.lt);have a3:=hid (aa.out.below m aa.out.lt);have av:=hid (au.out.trans (zA.of_below m));have T:=hid (FmR.keep (zA.of_below m) _ _ C.out);clear m ac H aa au C a0 p2 pl f0 f1 f2 f3 f4 a7 a8 a9 ba bb fl;(go_upto_if 51 with fail);go_cut[] from 51 to 53 (λwx=>PsR P (s.size:Int) s wx (if a.err=0/\zA9 f=true then zAQ a 2 (-1)else a)/\zA (λc=>c≠P) w6 wx)
    case first=>
     by_cases q:a.err=0/\zA9 f=true
     ·have p1:decide (a.err=0/\zA9 f=true)=true:=decide_eq_true q;rw[p1];have HQ:=hid q;clear q;(go_wp2_with fail);refine(zC5 P (s.size:Int) s a 2 (-1) w6 ad.out).mono ?_;rintro e wz ⟨rfl,ai,ah⟩;(go_wp2_with fail);go_meet;rw[if_pos HQ.out];exact⟨ai,ah⟩
     ·have p1:decide (a.err=0/\zA9 f=true)=false:=decide_eq_false q;rw[p1];have HQ:=hid q;clear q;(go_wp2_with fail);go_meet;rw[if_neg HQ.out];exact⟨ad.out,zA.refl _ _⟩
    case rest=>
     obtain⟨bi,y⟩:=hcut;(rename World=>w7);have M:=D;generalize (if a.err=0/\zA9 f=true then zAQ a 2 (-1)else a)=j at*;have cf:=y.size;have bv:=hid bi;have bu:=hid (ax.out.keep y (by show FB≠P;omega));have ab:=hid (a3.out.keep y (by show _≠P;omega));have B:=hid (av.out.trans (y.mono λb _ h=>by have h:b<w.heap.size:=h;show b≠P;omega));have az:=hid (FmR.mono (Z':=λb=>w.heap.size+1<=b) (λb hb=>by have:=hb.1;show w.heap.size+1<=b;omega) _ _ (FmR.keep (y.mono λb _ hb=>by have:=hb.1;show b≠P;omega) _ _ T.out));clear bi y ad ax a3 av T;have aw:=hid (show Bw w w7 from⟨B.out.os,B.out.tape,B.out.output,B.out.size,λk hk=>B.out.block k hk hk⟩);have i:=bv.out.box;obtain⟨af,n,g,z⟩:=i;have bt:=hid g;have p2:=g.at2;have pl:=g.lt;clear g z;by_cases q:j.err=0
     ·(have e1:(j.err !=(0:Int))=false:=by simp[q]);have ae:=hid (M.out.trans (if_neg (λh=>h q)));clear q D M;obtain⟨f0,a7,f1,a8,f2,a9,f3,ba,f4,bb,fl⟩:=bu.out.c5;obtain⟨o0,aj,o1,ak,o2,al,o3,ao,o4,ap,ol⟩:=ab.out.c5;(go_wp2_with fail);refine zCc (Q:=λW=>bodyPost _ _ _ _ _ W) ab.out ?_;intro wf E u;obtain⟨r0,bk,r1,bm,r2,bn,r3,bo,r4,bp,rl⟩:=E.c5;exact bodyPost_ret (v:= .tuple #[.agg #[.int .i64 f.op,.string f.name,.int .i64 f.cmp,.int .i64 f.num,.slice R f.kids.length d],.int .i64 0,.int .i64 0]) (by simp[results,results87,go_sem,r0,r1,r2,r3,r4]) rfl (zIw (f:=f) ae.out aw.out u az.out)
     ·(have e1:(j.err !=(0:Int))=true:=by simp[q]);have ae:=hid (M.out.trans (if_pos q));clear q D M;(go_upto_region 11 with fail);clear p2 pl;have HC:=hid (λ(W:World)(hW:Blk W P 202 #[.slice af j.toks.length n,.int .i64 (s.size:Int),.int .i64 j.err,.int .i64 j.pos])=>(show W.cell? ⟨P,2,none⟩=some (.int .i64 j.err)/\W.cell? ⟨P,3,none⟩=some (.int .i64 j.pos)/\P<W.heap.size from⟨hW.at2,hW.at3,hW.lt⟩));refine zL 11 (λW=>Blk W P 202 #[.slice af j.toks.length n,.int .i64 (s.size:Int),.int .i64 j.err,.int .i64 j.pos]) (by kernel_rfl) ?_;have G:(λW:World=>Blk W P 202 #[.slice af j.toks.length n,.int .i64 (s.size:Int),.int .i64 j.err,.int .i64 j.pos]) w7.drew:=bt.out;have a4:=hid (ab.out.drew);have bs:=hid (aw.out.drew);generalize w7.drew=w8 at*
      (refine tkQ 0 G ?_;simp only[nr])
      try simp only[nq]
      (refine tkQ 1 G ?_;simp only[nr])
      try simp only[nq]
      (refine tkQ 2 G ?_;simp only[nr])
      try simp only[nq]
      (refine tkQ 3 G ?_;simp only[nr])
      try simp only[nq]
      (refine tkS 4 ?_ G ?_ ?_;rotate_left;intro w F;obtain⟨p2,p3,pl⟩:=HC.out _ F;clear F;go_simp;(try with_reducible rfl);simp only[nr])
      try simp only[nq]
      (refine tkQ 5 G ?_;simp only[nr])
      try simp only[nq]
      (refine tkQ 6 G ?_;simp only[nr])
      try simp only[nq]
      (refine tkQ 7 G ?_;simp only[nr])
      try simp only[nq]
      (refine tkS 8 ?_ G ?_ ?_;rotate_left;intro w F;obtain⟨p2,p3,pl⟩:=HC.out _ F;clear F;go_simp;(try with_reducible rfl);simp only[nr])
      (try simp only[nq]);have h5:=zFo a4.out (.int .i64 0) (.string ⟨#[]⟩) (.int .i64 0) (.int .i64 0) (.slice none 0 0);obtain⟨E,u⟩:=h5;have bc:=Blk.keep G u (by show P≠w.heap.size;omega);obtain⟨o0,aj,o1,ak,o2,al,o3,ao,o4,ap,ol⟩:=a4.out.c5;refine wS1 9 (λK U=> ?_);(go_wp2_with fail);refine U _ _ (Or.inr bc) ?_;clear U K;(try simp only[nq]);refine wS1 10 (λK U=> ?_);(go_wp2_with fail);refine U _ _ (Or.inr bc) ?_;clear U K;(try simp only[nq]);refine wS1 11 (λK U=> ?_);(go_wp2_with fail);refine U _ _ (Or.inl rfl) ?_;clear U K;(try simp only[nq]);refine wSd ?_ _;(go_wp2_with fail);obtain⟨r0,bk,r1,bm,r2,bn,r3,bo,r4,bp,rl⟩:=E.c5;exact bodyPost_ret (v:= .tuple #[.agg #[.int .i64 0,.string ⟨#[]⟩,.int .i64 0,.int .i64 0,.slice none 0 0],.int .i64 j.err,.int .i64 j.pos]) (by simp[results,results87,go_sem,r0,r1,r2,r3,r4]) rfl (zIw (f:=zFm) ae.out bs.out u (FmR.leaf (op:=0) (by unfold I64;omega)))
 ·have D:=hid (HU.out.trans (if_pos h0));have b8:(er !=(0:Int))=true:=by simp[h0]
  clear HU o h0;go_wp2_with fail
  refine zCc (Q:=λW=>bodyPost _ _ _ _ _ W) HO.out ?_;intro wf E u;obtain⟨r0,bk,r1,bm,r2,bn,r3,bo,r4,bp,rl⟩:=E.c5;exact bodyPost_ret (v:= .tuple #[.agg #[.int .i64 0,.string ⟨#[]⟩,.int .i64 0,.int .i64 0,.slice none 0 0],.int .i64 er,.int .i64 bw]) (by simp[results,results87,go_sem,r0,r1,r2,r3,r4]) rfl (zIw (f:=zFm) D.out HB.out u (FmR.leaf (op:=0) (by unfold I64;omega)))
def zF6{α:Type}(R:Nat)(s:ByteArray)(A:Option Addr)(cap:Nat)(ts:List Tok)(rel:World->Value->α->Prop)(w:World)(res:Except Flt (α × List Tok))(e:Ending)(w':World):Prop:=
 zA (λc=>c≠R) w w'/\match res with
 | .error f=>zMO 96 f e
 | .ok (x,r)=>∃v,e= .returned v/\rel w' v x/\∃k',r=ts.drop k'/\k'<=ts.length/\RdT w' R s A cap ts k'
section
variable {α:Type} {R:Nat} {s:ByteArray} {A:Option Addr} {cap:Nat} {ts:List Tok} {rel:World->Value->α->Prop} {w w':World} {res:Except Flt (α × List Tok)}
theorem zCD(h:res= .error f)(a:zA (λc=>c≠R) w w'):zF6 R s A cap ts rel w res (.panicked [{v:=zB1 96 f,recovered:=false}]) w':=by
 subst h;exact⟨a,rfl⟩
theorem zJy{x:α}{k':Nat}(h:res= .ok (x,ts.drop k'))(b:zA (λc=>c≠R) w w')(d:k'<=ts.length)(a:RdT w' R s A cap ts k'){v:Value}(e:rel w' v x):zF6 R s A cap ts rel w res (.returned v) w':=by
 subst h;exact⟨b,v,rfl,e,k',rfl,d,a⟩
theorem zF6.error_(h:zF6 R s A cap ts rel w (.error f) e w'):zA (λc=>c≠R) w w'/\e= .panicked [{v:=zB1 96 f,recovered:=false}]:=h
theorem zF6.ok_{p:α × List Tok}(h:zF6 R s A cap ts rel w (.ok p) e w'):zA (λc=>c≠R) w w'/\∃v,e= .returned v/\rel w' v p.1/\∃k',p.2=ts.drop k'/\k'<=ts.length/\RdT w' R s A cap ts k':=h
end
theorem dn2{a b:Nat}:∃n,(w.drewN a).drewN b=w.drewN n:=⟨_,World.drewN_drewN ..⟩
theorem zNm(a:j<ts.length)(h:zCl 4 sym (ts.drop j)=true):zEe sym (ts.drop j)=ts.drop j:=by
 rw[List.drop_eq_getElem_cons a]at h⊢;have h:zCw 4 sym ts[j]=true:=h;unfold zEe;rw[List.dropWhile_cons_of_neg (by simp[h])]
theorem zQ9(a:j<ts.length)(h:zCl 4 sym (ts.drop j)=false):zEe sym (ts.drop (j+1))=zEe sym (ts.drop j):=by
 rw[List.drop_eq_getElem_cons a]at h⊢;have h:zCw 4 sym ts[j]=false:=h;unfold zEe;rw[List.dropWhile_cons_of_pos (by simp[h])]
def zWA(w:World)(w':World)(v:Value)(d:List zC):Prop:=∃D c,v= .agg #[.slice D d.length c]/\Facts (λb=>w.heap.size<=b) w' (.slice D d.length c) d
def zWB(w:World)(w':World)(v:Value)(f:Fm):Prop:=∃D c,v= .agg #[.int .i64 f.op,.string f.name,.int .i64 f.cmp,.int .i64 f.num,.slice D f.kids.length c]/\FmR (λb=>w.heap.size<=b) w' f [.int .i64 f.op,.string f.name,.int .i64 f.cmp,.int .i64 f.num,.slice D f.kids.length c]
theorem zSD(R:Nat)(s:ByteArray)(A:Option Addr)(i:Nat)(a:List Tok)(k:Nat)(fr:Tok)(x:ByteArray)(w:World)(hs:s.size<=140737488355328)(hR:RdT w R s A i a k)(ht:zAt (λc=>c≠R) w A i a)(hk:k<=a.length)
  (U:zEM s fr)(Z:∀t∈a,zEM s t)(K:∀t∈a.drop k,fr.pos+fr.text.size<=t.pos):
  Calls prog 49 #[.pointer (some ⟨R,0,none⟩),zAS fr,.string x,.func (.func 50) #[] #[]] w (zF6 R s A i a (zWA w) w (zC4 s x zBB fr (a.drop k))):=by
 obtain⟨fk,q,fn,u⟩:=fr;unfold zAS Tok.cells;have eg:∀Y w,(callFunc 50 Y).run prog w= .ok (.enter 50 Y) w:=enters_of func50 (by kernel_rfl) rfl;have rl:=(show Blk w R 100 #[.string s,.slice A a.length i,.int .i64 (k:Int)] from hR).lt;have bq:=ht.few;have le:=ht.le;have b0:=ht.max;have bm:=U.pos;have bl:=U.fin;dsimp only at bm bl K⊢;have HR:=hid hR;have HT:=hid ht;have bp:=hid U;have bh:=hid Z;have av:=hid K;clear hR ht U Z K;go_enter func49,ntmps49
 go_wp2_with fail
 have ai:=hid ((Blk.new w 102 #[.int .i64 fk,.int .i64 q,.int .i64 fn,.string u]).alloc (.cells #[.slice none 0 0] 24));have ap:=hid (zBv w (.cells #[.int .i64 fk,.int .i64 q,.int .i64 fn,.string u] 102) 24 #[.slice none 0 0]);have T:Bw w ((w.alloc (.cells #[.int .i64 fk,.int .i64 q,.int .i64 fn,.string u] 102)).alloc (.cells #[.slice none 0 0] 24)):=(zF w _).alloc (by simp) _;have bc:=hid (show RdT _ R s A i a k from Blk.below HR.out T rl);have ac:=hid (HT.out.keep (.of_below T));have aj:=hid (zA.of_below T:zA (λc=>c≠R) w _);have bw:((w.alloc (.cells #[.int .i64 fk,.int .i64 q,.int .i64 fn,.string u] 102)).alloc (.cells #[.slice none 0 0] 24)).heap.size =w.heap.size+2:=by simp
 clear T HR HT;generalize (w.alloc (.cells #[.int .i64 fk,.int .i64 q,.int .i64 fn,.string u] 102)).alloc (.cells #[.slice none 0 0] 24)=w2 at*;go_loopg[] (a.length+1) (λkx wr=>∃(j kn:Nat),kn=kx/\Hid (k<=j/\j<=a.length/\a.length<j+kn)/\Hid (RdT wr R s A i a j)/\Hid (zA (λc=>c≠R) w2 wr)/\Hid (zEe x (a.drop j)=zEe x (a.drop k)));case atStart=>exact⟨k,a.length+1,rfl,hid (by omega),bc,hid (zA.refl _ _),hid rfl⟩
 case round=>
  obtain⟨j,kn,a3,hj,a4,ae,V⟩:=hrel;have bb:=hid a3;clear a3;obtain⟨bu,a0,bv⟩:=hj.out;have ay:=hid (ac.out.keep ae.out);have ax:=hid (zNA R s A i a j 4 x);have D:Blk wr R 100 #[.string s,.slice A a.length i,.int .i64 (j:Int)]:=a4.out;have r0:=D.at0;have r1:=D.at1;have r2:=D.at2;have B:=D.lt;have P:=hid D;clear D;go_upto_region 1 with fail
  have af:=P.out.frozen 2;have W:=hid (λ(n:Nat)=>(ax.out (wr.drewN n) (Blk.drewN P.out n) (ay.out.keep (zE6 _ _ _)) a0));go_cut[29] from 14 to 29 (λv wx=>v= .bool (decide (j<a.length)&& !zCl 4 x (a.drop j))/\∃n,wx=wr.drewN n)
  case first=>
   by_cases m:j<a.length
   ·(have q1:(j:Int)<(a.length:Int):=by omega);go_quiet((go_at_call 78;exact zOZ (W.out _)));(go_wp2_with fail);go_meet;exact⟨by simp[m],nq,rfl⟩
   ·go_quiet(fail);(go_wp2_with fail);go_meet;exact⟨by simp[m],nq,rfl⟩
  case rest=>
   obtain⟨rfl,nq,rfl⟩:=hcut;clear ax W;have o:=hid (P.out.drewN nq);have C:=hid (ae.out.drewN nq);clear P ae r0 r1 r2 af B a4 ay;generalize wr.drewN nq=w3 at*;have r0:=o.out.at0;have r1:=o.out.at1;have r2:=o.out.at2;have af:=o.out.frozen 2;have B:=o.out.lt;cases M:(decide (j<a.length)&& !zCl 4 x (a.drop j))
   ·have bi:=hid (show zEe x (a.drop k)=a.drop j from by
     rw[<-V.out];by_cases m:j<a.length
     ·exact zNm m (by simpa[m]using M)
     ·rw[List.drop_of_length_le (by omega)];rfl)
    clear M V;have G:=hid (ai.out.keep C.out (by show w.heap.size≠R;omega));have aa:=hid (ap.out.keep C.out (by show w.heap.size+1≠R;omega));have bg:=hid (ac.out.keep C.out)
    have HE:=hid (show(q+u.size<=zFU (s.size:Int) (a.drop j))/\zFU (s.size:Int) (a.drop j)<=s.size from by
     by_cases m:j<a.length
     ·rw[List.drop_eq_getElem_cons m];have h1:=bh.out a[j] (List.getElem_mem m)
      have h2:=av.out a[j] (by
       (have:a.drop j=(a.drop k).drop (j-k):=by rw[List.drop_drop];congr 1;omega);(have h3:a[j]∈a.drop j:=by rw[List.drop_eq_getElem_cons m];exact List.mem_cons_self ..);rw[this]at h3
       exact List.mem_of_mem_drop h3)
      have:=h1.fin;show q+u.size<=a[j].pos /\a[j].pos <=s.size;omega
     ·rw[List.drop_of_length_le (by omega)];show q+u.size<=(s.size:Int)/\(s.size:Int)<=s.size
      omega)
    have f1:=G.out.at1;have f3:=G.out.at3;have fl:=G.out.lt;clear ai ap ac;(go_upto_region 3 with fail);go_quiet(fail);(go_wp2_with fail);go_quiet(fail);(go_upto_if 57 with fail);go_cut[10] from 10 to 68 (λv wx=>v= .int .i64 (zFU (s.size:Int) (a.drop j))/\∃n,wx=w3.drewN n)
    case first=>
     by_cases m:j<a.length
     ·obtain⟨b,b2,rfl,hz,c0,c1,c2,c3⟩:=bg.out.at_ m;have br:=lt_of_cell c0;(have q1:(j:Int)<(a.length:Int):=by omega);(have q0:¬((j:Int)<0):=by omega);have HV:=hid (show zFU (s.size:Int) (a.drop j)=a[j].pos from by rw[List.drop_eq_getElem_cons m];rfl);generalize a[j]=t at*;(go_wp2_with fail);go_quiet(fail);(go_wp2_with fail);go_meet;rw[HV.out];exact⟨rfl,dn2⟩
     ·have HV:=hid (show zFU (s.size:Int) (a.drop j)=s.size from by rw[List.drop_of_length_le (show a.length<=j by omega)];rfl);(go_wp2_with fail);go_meet;rw[HV.out];exact⟨rfl,dn2⟩
    case rest=>
     obtain⟨rfl,nq2,rfl⟩:=hcut;obtain⟨bs,bt⟩:=HE.out;generalize hE:zFU (s.size:Int) (a.drop j)=E at*;(have bn:(s.extract (q+u.size).toNat E.toNat).size <=140737488355328:=by rw[ByteArray.size_extract];omega);have Q:=hid (show RdT (w3.drewN nq2) R s A i a j from Blk.drewN o.out nq2);have ao:=hid (aj.out.trans (C.out.drewN nq2));have a8:=hid (G.out.drewN nq2);have ab:=hid (aa.out.drewN nq2);have bz:w.heap.size+1<(w3.drewN nq2).heap.size :=aa.out.lt;clear o aj C G aa r0 r1 r2 af B f1 f3 fl;have r0:=(show Blk (w3.drewN nq2) R 100 #[.string s,.slice A a.length i,.int .i64 (j:Int)] from Q.out).at0;have B:=Blk.lt Q.out
     have N:=hid (show zC4 s x zBB ⟨fk,q,fn,u⟩ (a.drop k)=(if(zBB (s.extract (q+u.size).toNat E.toNat)).2.1=6/\(a.drop j).isEmpty =false then .error (5,E)
      else if(zBB (s.extract (q+u.size).toNat E.toNat)).2.1≠0/\(zBB (s.extract (q+u.size).toNat E.toNat)).2.2<0 then .error ((zBB (s.extract (q+u.size).toNat E.toNat)).2.1,(zBB (s.extract (q+u.size).toNat E.toNat)).2.2)
      else if(zBB (s.extract (q+u.size).toNat E.toNat)).2.1≠0 then .error ((zBB (s.extract (q+u.size).toNat E.toNat)).2.1,IntKind.i64.wrap (q+u.size+(zBB (s.extract (q+u.size).toNat E.toNat)).2.2))
      else .ok ((zBB (s.extract (q+u.size).toNat E.toNat)).1,a.drop j)) from by
       simp only[zC4,bi.out,hE])
     generalize w3.drewN nq2=w4 at*;(go_wp2_with fail);refine(zSA _ w4 bn).mono ?_;rintro e w5 ⟨F,g,rfl,hd,J⟩;generalize zBB (s.extract (q+u.size).toNat E.toNat)=X at*;obtain⟨d,L,pa⟩:=X;dsimp only at*;have a2:zA (λc=>c≠R) w4 w5:=zA.of_below J;have aw:=hid (show RdT w5 R s A i a j from Blk.below Q.out J B);have ak:=hid (ao.out.trans a2);have aq:=hid (ab.out.below J ab.out.lt);have ag:=hid hd;have bx:=J.size;clear hd J a2 Q ao a8 ab r0 B;(go_upto_region 7 with fail);have az:=hid (Blk.new w5 24 #[.slice F d.length g]);have I:=hid (show RdT _ R s A i a j from Blk.alloc aw.out (.cells #[.slice F d.length g] 24));have al:=hid (ak.out.alloc (.cells #[.slice F d.length g] 24));have ar:=hid (aq.out.alloc (.cells #[.slice F d.length g] 24));have ah:=hid (ag.out.keep ((zA.refl _ _).alloc (.cells #[.slice F d.length g] 24)));(have bk:w5.heap.size<(w5.alloc (.cells #[.slice F d.length g] 24)).heap.size :=by simp);clear aw ak aq ag;generalize w5.alloc (.cells #[.slice F d.length g] 24)=w6 at*;generalize w5.heap.size=XB at*;have r1:=(show Blk w6 R 100 #[.string s,.slice A a.length i,.int .i64 (j:Int)] from I.out).at1;have r2:=(show Blk w6 R 100 #[.string s,.slice A a.length i,.int .i64 (j:Int)] from I.out).at2;have B:=Blk.lt I.out
     have z:(a.drop j).isEmpty =false↔j<a.length:=by
      by_cases h:j<a.length
      ·rw[List.drop_eq_getElem_cons h];simp[h]
      ·rw[List.drop_of_length_le (show a.length<=j by omega)];simp[h]
     go_cut[82] from 83 to 96 (λv wx=>v= .bool (decide (L=6/\(a.drop j).isEmpty =false))/\∃n,wx=w6.drewN n)
     case first=>
      by_cases q6:L=6
      ·(have e1:(L==(6:Int))=true:=by simp[q6]);have HV:=hid (show decide (L=6/\(a.drop j).isEmpty =false)=decide (j<a.length) from decide_eq_decide.2 ⟨λh=>z.1 h.2,λh=>⟨q6,z.2 h⟩⟩);clear q6 z;go_quiet(fail);(go_wp2_with fail);go_meet;rw[HV.out];exact⟨by first|rfl|simp,_,rfl⟩
      ·(have e1:(L==(6:Int))=false:=by simp[q6]);have HV:=hid (show decide (L=6/\(a.drop j).isEmpty =false)=false from by simp[q6]);clear q6 z;go_quiet(fail);(go_wp2_with fail);go_meet;rw[HV.out];exact⟨rfl,_,rfl⟩
     case rest=>
      obtain⟨rfl,nq3,rfl⟩:=hcut;have bf:=hid (show RdT _ R s A i a j from Blk.drewN I.out nq3);have bj:=hid (az.out.drewN nq3);have O:=hid (al.out.drewN nq3);have au:=hid (ar.out.drewN nq3);have a7:=hid (ah.out.keep (zE6 _ _ nq3));clear I az al ar ah r1 r2 B z;have bo:XB<(w6.drewN nq3).heap.size :=bk;generalize w6.drewN nq3=w7 at*;by_cases c1:L=6/\(a.drop j).isEmpty =false
      ·have y:=hid (N.out.trans (if_pos c1));rw[decide_eq_true c1];clear c1 N;(go_wp2_with fail);exact⟨rfl,zCD y.out O.out⟩
      ·have y:=hid (N.out.trans (if_neg c1));rw[decide_eq_false c1];clear c1 N;by_cases c2:L=0
       ·(have e2:(L !=(0:Int))=false:=by simp[c2]);have H:=hid (y.out.trans ((if_neg (λh=>h.1 c2)).trans (if_neg (λh=>h c2))));clear c2 y;obtain⟨x0,b3,xl⟩:=bj.out.c1;obtain⟨o0,b1,ol⟩:=au.out.c1;(go_wp2_with fail);have hB:=au.out.set_ 0 (.slice F d.length g);have q0:=hB.at0;have ad:zA (λb=>b≠w.heap.size+1) w7 (w7.setCell ⟨w.heap.size+1,0,none⟩ (.slice F d.length g)):=(zA.refl _ _).setCell (λ_ h=>h rfl) _;refine bodyPost_ret (v:= .agg #[.slice F d.length g]) (by simp[results,results49,go_sem,q0]) rfl (zJy H.out (O.out.inner2 ad (by omega)) a0 (Blk.keep bf.out ad (by show R≠_;omega)) ⟨F,g,rfl,?_⟩);exact(a7.out.keep (ad.mono λb _ M=>by have M:w4.heap.size<=b:=M;show b≠_;omega)).mono λb M=>by have M:w4.heap.size<=b:=M;show w.heap.size<=b;omega
       ·(have e2:(L !=(0:Int))=true:=by simp[c2]);by_cases c3:pa<0
        ·have H:=hid (y.out.trans (if_pos ⟨c2,c3⟩));clear c2 y;(go_wp2_with fail);exact⟨rfl,zCD H.out O.out⟩
        ·have H:=hid (y.out.trans ((if_neg (λh=>c3 h.2)).trans (if_pos c2)));clear c2 y;(go_wp2_with fail);exact⟨rfl,zCD (f:=(L,wrap64 (q+u.size+pa))) (H.out.trans (by rw[IntKind.wrap_i64,wrap64])) O.out⟩
   ·(obtain⟨m,a5⟩:j<a.length/\zCl 4 x (a.drop j)=false:=by simpa using M);have a9:=hid ((zQ9 m a5).trans V.out);clear M a5 V;(go_wp2_with fail);have a1:zA (λc=>c≠R) w3 (w3.setCell ⟨R,2,none⟩ (.int .i64 ((j:Int)+1))):=(zA.refl _ _).setCell (p:=⟨R,2,none⟩) (λ_ h=>h rfl) _;have bd:=hid (show RdT (w3.setCell ⟨R,2,none⟩ (.int .i64 ((j:Int)+1))) R s A i a (j+1) from o.out.set_ 2 (.int .i64 ((j:Int)+1)));have ba:=hid (C.out.trans a1);clear a1;obtain⟨a6,rfl⟩:∃n',kn=n'+1:=⟨kn-1,by omega⟩;(go_roundg a6);(case measure=>have:=bb.out;omega);exact⟨j+1,a6,rfl,hid (by omega),bd,ba,a9⟩
theorem zSE(R:Nat)(s:ByteArray)(A:Option Addr)(g:Nat)(a:List Tok)(k:Nat)(fr:Tok)(x:ByteArray)(w:World)(hs:s.size<=140737488355328)(hR:RdT w R s A g a k)(ht:zAt (λc=>c≠R) w A g a)(hk:k<=a.length)
  (V:zEM s fr)(ac:∀t∈a,zEM s t)(J:∀t∈a.drop k,fr.pos+fr.text.size<=t.pos):
  Calls prog 86 #[.pointer (some ⟨R,0,none⟩),zAS fr,.string x,.func (.func 87) #[] #[]] w (zF6 R s A g a (zWB w) w (zC4 s x zAW fr (a.drop k))):=by
 obtain⟨fk,q,fn,u⟩:=fr;unfold zAS Tok.cells;have eg:∀ab w,(callFunc 87 ab).run prog w= .ok (.enter 87 ab) w:=enters_of func87 (by kernel_rfl) rfl;have rl:=(show Blk w R 100 #[.string s,.slice A a.length g,.int .i64 (k:Int)] from hR).lt;have bt:=ht.few;have le:=ht.le;have b3:=ht.max;have bp:=V.pos;have bo:=V.fin;dsimp only at bp bo J⊢;have HR:=hid hR;have HT:=hid ht;have bs:=hid V;have bj:=hid ac;have ax:=hid J;clear hR ht V ac J;go_enter func86,ntmps86
 go_wp2_with fail
 have ak:=hid ((Blk.new w 102 #[.int .i64 fk,.int .i64 q,.int .i64 fn,.string u]).alloc (.cells #[.int .i64 0,.string ⟨#[]⟩,.int .i64 0,.int .i64 0,.slice none 0 0] 40));have ar:=hid (zBv w (.cells #[.int .i64 fk,.int .i64 q,.int .i64 fn,.string u] 102) 40 #[.int .i64 0,.string ⟨#[]⟩,.int .i64 0,.int .i64 0,.slice none 0 0]);have U:Bw w ((w.alloc (.cells #[.int .i64 fk,.int .i64 q,.int .i64 fn,.string u] 102)).alloc (.cells #[.int .i64 0,.string ⟨#[]⟩,.int .i64 0,.int .i64 0,.slice none 0 0] 40)):=(zF w _).alloc (by simp) _;have bf:=hid (show RdT _ R s A g a k from Blk.below HR.out U rl);have af:=hid (HT.out.keep (.of_below U));have al:=hid (zA.of_below U:zA (λc=>c≠R) w _);have b0:((w.alloc (.cells #[.int .i64 fk,.int .i64 q,.int .i64 fn,.string u] 102)).alloc (.cells #[.int .i64 0,.string ⟨#[]⟩,.int .i64 0,.int .i64 0,.slice none 0 0] 40)).heap.size =w.heap.size+2:=by simp
 clear U HR HT;generalize (w.alloc (.cells #[.int .i64 fk,.int .i64 q,.int .i64 fn,.string u] 102)).alloc (.cells #[.int .i64 0,.string ⟨#[]⟩,.int .i64 0,.int .i64 0,.slice none 0 0] 40)=w2 at*;go_loopg[] (a.length+1) (λkx wr=>∃(j kn:Nat),kn=kx/\Hid (k<=j/\j<=a.length/\a.length<j+kn)/\Hid (RdT wr R s A g a j)/\Hid (zA (λc=>c≠R) w2 wr)/\Hid (zEe x (a.drop j)=zEe x (a.drop k)));case atStart=>exact⟨k,a.length+1,rfl,hid (by omega),bf,hid (zA.refl _ _),hid rfl⟩
 case round=>
  obtain⟨j,kn,a5,hj,a6,ah,Y⟩:=hrel;have bd:=hid a5;clear a5;obtain⟨bx,a2,bz⟩:=hj.out;have a0:=hid (af.out.keep ah.out);have az:=hid (zNA R s A g a j 4 x);have D:Blk wr R 100 #[.string s,.slice A a.length g,.int .i64 (j:Int)]:=a6.out;have r0:=D.at0;have r1:=D.at1;have r2:=D.at2;have B:=D.lt;have P:=hid D;clear D;go_upto_region 1 with fail
  have Z:=P.out.frozen 2;have aa:=hid (λ(n:Nat)=>(az.out (wr.drewN n) (Blk.drewN P.out n) (a0.out.keep (zE6 _ _ _)) a2));go_cut[29] from 14 to 29 (λv wx=>v= .bool (decide (j<a.length)&& !zCl 4 x (a.drop j))/\∃n,wx=wr.drewN n)
  case first=>
   by_cases m:j<a.length
   ·(have q1:(j:Int)<(a.length:Int):=by omega);go_quiet((go_at_call 78;exact zOZ (aa.out _)));(go_wp2_with fail);go_meet;exact⟨by simp[m],nq,rfl⟩
   ·go_quiet(fail);(go_wp2_with fail);go_meet;exact⟨by simp[m],nq,rfl⟩
  case rest=>
   obtain⟨rfl,nq,rfl⟩:=hcut;clear az aa;have o:=hid (P.out.drewN nq);have C:=hid (ah.out.drewN nq);clear P ah r0 r1 r2 Z B a6 a0;generalize wr.drewN nq=w3 at*;have r0:=o.out.at0;have r1:=o.out.at1;have r2:=o.out.at2;have Z:=o.out.frozen 2;have B:=o.out.lt;cases L:(decide (j<a.length)&& !zCl 4 x (a.drop j))
   ·have bk:=hid (show zEe x (a.drop k)=a.drop j from by
     rw[<-Y.out];by_cases m:j<a.length
     ·exact zNm m (by simpa[m]using L)
     ·rw[List.drop_of_length_le (by omega)];rfl)
    clear L Y;have F:=hid (ak.out.keep C.out (by show w.heap.size≠R;omega));have ad:=hid (ar.out.keep C.out (by show w.heap.size+1≠R;omega));have bi:=hid (af.out.keep C.out)
    have HE:=hid (show(q+u.size<=zFU (s.size:Int) (a.drop j))/\zFU (s.size:Int) (a.drop j)<=s.size from by
     by_cases m:j<a.length
     ·rw[List.drop_eq_getElem_cons m];have h1:=bj.out a[j] (List.getElem_mem m)
      have h2:=ax.out a[j] (by
       (have:a.drop j=(a.drop k).drop (j-k):=by rw[List.drop_drop];congr 1;omega);(have h3:a[j]∈a.drop j:=by rw[List.drop_eq_getElem_cons m];exact List.mem_cons_self ..);rw[this]at h3
       exact List.mem_of_mem_drop h3)
      have:=h1.fin;show q+u.size<=a[j].pos /\a[j].pos <=s.size;omega
     ·rw[List.drop_of_length_le (by omega)];show q+u.size<=(s.size:Int)/\(s.size:Int)<=s.size
      omega)
    have f1:=F.out.at1;have f3:=F.out.at3;have fl:=F.out.lt;clear ak ar af;(go_upto_region 3 with fail);go_quiet(fail);(go_wp2_with fail);go_quiet(fail);(go_upto_if 57 with fail);go_cut[10] from 10 to 68 (λv wx=>v= .int .i64 (zFU (s.size:Int) (a.drop j))/\∃n,wx=w3.drewN n)
    case first=>
     by_cases m:j<a.length
     ·obtain⟨b,b9,rfl,hz,c0,c1,c2,c3⟩:=bi.out.at_ m;have bu:=lt_of_cell c0;(have q1:(j:Int)<(a.length:Int):=by omega);(have q0:¬((j:Int)<0):=by omega);have HV:=hid (show zFU (s.size:Int) (a.drop j)=a[j].pos from by rw[List.drop_eq_getElem_cons m];rfl);generalize a[j]=t at*;(go_wp2_with fail);go_quiet(fail);(go_wp2_with fail);go_meet;rw[HV.out];exact⟨rfl,dn2⟩
     ·have HV:=hid (show zFU (s.size:Int) (a.drop j)=s.size from by rw[List.drop_of_length_le (show a.length<=j by omega)];rfl);(go_wp2_with fail);go_meet;rw[HV.out];exact⟨rfl,dn2⟩
    case rest=>
     obtain⟨rfl,nq2,rfl⟩:=hcut;obtain⟨bv,bw⟩:=HE.out;generalize hE:zFU (s.size:Int) (a.drop j)=E at*;(have bq:(s.extract (q+u.size).toNat E.toNat).size <=140737488355328:=by rw[ByteArray.size_extract];omega);have T:=hid (show RdT (w3.drewN nq2) R s A g a j from Blk.drewN o.out nq2);have aq:=hid (al.out.trans (C.out.drewN nq2));have ba:=hid (F.out.drewN nq2);have ae:=hid (ad.out.drewN nq2);have b2:w.heap.size+1<(w3.drewN nq2).heap.size :=ad.out.lt;clear o al C F ad r0 r1 r2 Z B f1 f3 fl;have r0:=(show Blk (w3.drewN nq2) R 100 #[.string s,.slice A a.length g,.int .i64 (j:Int)] from T.out).at0;have B:=Blk.lt T.out
     have N:=hid (show zC4 s x zAW ⟨fk,q,fn,u⟩ (a.drop k)=(if(zAW (s.extract (q+u.size).toNat E.toNat)).2.1=6/\(a.drop j).isEmpty =false then .error (5,E)
      else if(zAW (s.extract (q+u.size).toNat E.toNat)).2.1≠0/\(zAW (s.extract (q+u.size).toNat E.toNat)).2.2<0 then .error ((zAW (s.extract (q+u.size).toNat E.toNat)).2.1,(zAW (s.extract (q+u.size).toNat E.toNat)).2.2)
      else if(zAW (s.extract (q+u.size).toNat E.toNat)).2.1≠0 then .error ((zAW (s.extract (q+u.size).toNat E.toNat)).2.1,IntKind.i64.wrap (q+u.size+(zAW (s.extract (q+u.size).toNat E.toNat)).2.2))
      else .ok ((zAW (s.extract (q+u.size).toNat E.toNat)).1,a.drop j)) from by
       simp only[zC4,bk.out,hE])
     generalize w3.drewN nq2=w4 at*;(go_wp2_with fail);refine(zSC _ w4 bq).mono ?_;rintro e w5 ⟨M,i,rfl,hd,I⟩;generalize zAW (s.extract (q+u.size).toNat E.toNat)=X at*;obtain⟨d,K,pa⟩:=X;dsimp only at*;have a4:zA (λc=>c≠R) w4 w5:=zA.of_below I;have ay:=hid (show RdT w5 R s A g a j from Blk.below T.out I B);have ao:=hid (aq.out.trans a4);have au:=hid (ae.out.below I ae.out.lt);have ai:=hid hd;have b1:=I.size;clear hd I a4 T aq ba ae r0 B;(go_upto_region 7 with fail);have a1:=hid (Blk.new w5 40 #[.int .i64 d.op,.string d.name,.int .i64 d.cmp,.int .i64 d.num,.slice M d.kids.length i]);have H:=hid (show RdT _ R s A g a j from Blk.alloc ay.out (.cells #[.int .i64 d.op,.string d.name,.int .i64 d.cmp,.int .i64 d.num,.slice M d.kids.length i] 40));have ap:=hid (ao.out.alloc (.cells #[.int .i64 d.op,.string d.name,.int .i64 d.cmp,.int .i64 d.num,.slice M d.kids.length i] 40));have av:=hid (au.out.alloc (.cells #[.int .i64 d.op,.string d.name,.int .i64 d.cmp,.int .i64 d.num,.slice M d.kids.length i] 40));have aj:=hid (FmR.keep ((zA.refl _ _).alloc (.cells #[.int .i64 d.op,.string d.name,.int .i64 d.cmp,.int .i64 d.num,.slice M d.kids.length i] 40)) _ _ ai.out);(have bn:w5.heap.size<(w5.alloc (.cells #[.int .i64 d.op,.string d.name,.int .i64 d.cmp,.int .i64 d.num,.slice M d.kids.length i] 40)).heap.size :=by simp);clear ay ao au ai;generalize w5.alloc (.cells #[.int .i64 d.op,.string d.name,.int .i64 d.cmp,.int .i64 d.num,.slice M d.kids.length i] 40)=w6 at*;generalize w5.heap.size=XB at*;have r1:=(show Blk w6 R 100 #[.string s,.slice A a.length g,.int .i64 (j:Int)] from H.out).at1;have r2:=(show Blk w6 R 100 #[.string s,.slice A a.length g,.int .i64 (j:Int)] from H.out).at2;have B:=Blk.lt H.out
     have z:(a.drop j).isEmpty =false↔j<a.length:=by
      by_cases h:j<a.length
      ·rw[List.drop_eq_getElem_cons h];simp[h]
      ·rw[List.drop_of_length_le (show a.length<=j by omega)];simp[h]
     go_cut[82] from 83 to 96 (λv wx=>v= .bool (decide (K=6/\(a.drop j).isEmpty =false))/\∃n,wx=w6.drewN n)
     case first=>
      by_cases q6:K=6
      ·(have e1:(K==(6:Int))=true:=by simp[q6]);have HV:=hid (show decide (K=6/\(a.drop j).isEmpty =false)=decide (j<a.length) from decide_eq_decide.2 ⟨λh=>z.1 h.2,λh=>⟨q6,z.2 h⟩⟩);clear q6 z;go_quiet(fail);(go_wp2_with fail);go_meet;rw[HV.out];exact⟨by first|rfl|simp,_,rfl⟩
      ·(have e1:(K==(6:Int))=false:=by simp[q6]);have HV:=hid (show decide (K=6/\(a.drop j).isEmpty =false)=false from by simp[q6]);clear q6 z;go_quiet(fail);(go_wp2_with fail);go_meet;rw[HV.out];exact⟨rfl,_,rfl⟩
     case rest=>
      obtain⟨rfl,nq3,rfl⟩:=hcut;have bh:=hid (show RdT _ R s A g a j from Blk.drewN H.out nq3);have bl:=hid (a1.out.drewN nq3);have O:=hid (ap.out.drewN nq3);have aw:=hid (av.out.drewN nq3);have a9:=hid (FmR.keep (zE6 _ _ nq3) _ _ aj.out);clear H a1 ap av aj r1 r2 B z;have br:XB<(w6.drewN nq3).heap.size :=bn;generalize w6.drewN nq3=w7 at*;by_cases c1:K=6/\(a.drop j).isEmpty =false
      ·have y:=hid (N.out.trans (if_pos c1));rw[decide_eq_true c1];clear c1 N;(go_wp2_with fail);exact⟨rfl,zCD y.out O.out⟩
      ·have y:=hid (N.out.trans (if_neg c1));rw[decide_eq_false c1];clear c1 N;by_cases c2:K=0
       ·(have e2:(K !=(0:Int))=false:=by simp[c2]);have G:=hid (y.out.trans ((if_neg (λh=>h.1 c2)).trans (if_neg (λh=>h c2))));clear c2 y;obtain⟨x0,ce,x1,cf,x2,cg,x3,ch,x4,ci,xl⟩:=bl.out.c5;obtain⟨o0,b4,o1,b5,o2,b6,o3,b7,o4,b8,ol⟩:=aw.out.c5;(go_wp2_with fail);refine zCc (Q:=λW=>bodyPost _ _ _ _ _ W) aw.out ?_;intro wf bm ag;obtain⟨r0,ca,r1,cb,r2,Z,r3,cc,r4,cd,rl⟩:=bm.c5;refine bodyPost_ret (v:= .agg #[.int .i64 d.op,.string d.name,.int .i64 d.cmp,.int .i64 d.num,.slice M d.kids.length i]) (by simp[results,results86,go_sem,r0,r1,r2,r3,r4]) rfl (zJy G.out (O.out.inner2 ag (by omega)) a2 (Blk.keep bh.out ag (by show R≠_;omega)) ⟨M,i,rfl,?_⟩);exact FmR.mono (λb L=>by have L:w4.heap.size<=b:=L;show w.heap.size<=b;omega) _ _ (FmR.keep (ag.mono λb _ L=>by have L:w4.heap.size<=b:=L;show b≠_;omega) _ _ a9.out)
       ·(have e2:(K !=(0:Int))=true:=by simp[c2]);by_cases c3:pa<0
        ·have G:=hid (y.out.trans (if_pos ⟨c2,c3⟩));clear c2 y;(go_wp2_with fail);exact⟨rfl,zCD G.out O.out⟩
        ·have G:=hid (y.out.trans ((if_neg (λh=>c3 h.2)).trans (if_pos c2)));clear c2 y;(go_wp2_with fail);exact⟨rfl,zCD (f:=(K,wrap64 (q+u.size+pa))) (G.out.trans (by rw[IntKind.wrap_i64,wrap64])) O.out⟩
   ·(obtain⟨m,a7⟩:j<a.length/\zCl 4 x (a.drop j)=false:=by simpa using L);have bb:=hid ((zQ9 m a7).trans Y.out);clear L a7 Y;(go_wp2_with fail);have a3:zA (λc=>c≠R) w3 (w3.setCell ⟨R,2,none⟩ (.int .i64 ((j:Int)+1))):=(zA.refl _ _).setCell (p:=⟨R,2,none⟩) (λ_ h=>h rfl) _;have bg:=hid (show RdT (w3.setCell ⟨R,2,none⟩ (.int .i64 ((j:Int)+1))) R s A g a (j+1) from o.out.set_ 2 (.int .i64 ((j:Int)+1)));have bc:=hid (C.out.trans a3);clear a3;obtain⟨a8,rfl⟩:∃n',kn=n'+1:=⟨kn-1,by omega⟩;(go_roundg a8);(case measure=>have:=bd.out;omega);exact⟨j+1,a8,rfl,hid (by omega),bg,bc,bb⟩
end Go.Proofs.YthpocbeoanipbaaGreatDoor
