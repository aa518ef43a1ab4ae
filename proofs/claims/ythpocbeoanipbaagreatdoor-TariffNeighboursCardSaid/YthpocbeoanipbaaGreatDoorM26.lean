/- Texts BC TH2 TI. -/
import Derived.Test.YthpocbeoanipbaaGreatDoorM22
import Derived.Test.YthpocbeoanipbaaGreatDoorM10
import Derived.Test.YthpocbeoanipbaaGreatDoorM14
set_option linter.all false
namespace Go.Proofs.YthpocbeoanipbaaGreatDoor
open Go.RowKit Go.Proofs.Tryz
set_option maxHeartbeats 4000000
set_option maxRecDepth 100000
variable{A:Option Addr}{B P cap n:Nat}{Z:zE}{acc ks:List Fm}{csl:List (List Value)}{e:Ending}{f:Flt}{fin:Int}{t:TypeId}{ts:List Tok}{v:Value}{word:ByteArray}{wr x:World}
section
variable {w:World} {g:Nat} {t:TypeId}
theorem Blk.c4{x0 a b c:Value}(h:Blk w g t #[x0,a,b,c]):w.cell? ⟨g,0,none⟩=some x0/\w.frozen? ⟨g,0,none⟩=false/\w.cell? ⟨g,1,none⟩=some a/\w.frozen? ⟨g,1,none⟩=false/\w.cell? ⟨g,2,none⟩=some b/\w.frozen? ⟨g,2,none⟩=false/\w.cell? ⟨g,3,none⟩=some c/\w.frozen? ⟨g,3,none⟩=false/\g<w.heap.size:=⟨h.cell 0,h.frozen 0,h.cell 1,h.frozen 1,h.cell 2,h.frozen 2,h.cell 3,h.frozen 3,h.lt⟩
theorem Blk.c7{x0 a b c d e f:Value}(h:Blk w g t #[x0,a,b,c,d,e,f]):w.cell? ⟨g,0,none⟩=some x0/\w.frozen? ⟨g,0,none⟩=false/\w.cell? ⟨g,1,none⟩=some a/\w.frozen? ⟨g,1,none⟩=false/\w.cell? ⟨g,2,none⟩=some b/\w.frozen? ⟨g,2,none⟩=false/\w.cell? ⟨g,3,none⟩=some c/\w.frozen? ⟨g,3,none⟩=false/\w.cell? ⟨g,4,none⟩=some d/\w.frozen? ⟨g,4,none⟩=false/\w.cell? ⟨g,5,none⟩=some e/\w.frozen? ⟨g,5,none⟩=false/\w.cell? ⟨g,6,none⟩=some f/\w.frozen? ⟨g,6,none⟩=false/\g<w.heap.size:=⟨h.cell 0,h.frozen 0,h.cell 1,h.frozen 1,h.cell 2,h.frozen 2,h.cell 3,h.frozen 3,h.cell 4,h.frozen 4,h.cell 5,h.frozen 5,h.cell 6,h.frozen 6,h.lt⟩
end
def zL0(P:Nat)(fin:Int)(s:ByteArray)(w:World)(r:Fm × PSt)(e:Ending)(w':World):Prop:=
 ∃A cap,e= .returned (.agg #[.int .i64 r.1.op,.string r.1.name,.int .i64 r.1.cmp,.int .i64 r.1.num,.slice A r.1.kids.length cap])/\
  FmR (λb=>w.heap.size<=b) w' r.1 [.int .i64 r.1.op,.string r.1.name,.int .i64 r.1.cmp,.int .i64 r.1.num,.slice A r.1.kids.length cap]/\PsR P fin s w' r.2/\zA (λc=>c≠P) w w'
def zF1(P:Nat)(fin:Int)(s:ByteArray)(g:FuncId)(n:Nat)(part:PSt->Fm × PSt):Prop:=
 ∀(st:PSt)(w:World),st.toks.length<n->PsR P fin s w st->Calls prog g #[.pointer (some ⟨P,0,none⟩)] w (zL0 P fin s w (part st))
structure zHP (B:Nat) (wr:World) (v:Value) (ks:List Fm) (csl:List (List Value)):Prop where
 own:wr.ownsRow B 40 5 v ks.length csl.flatten
 each:zc (λcs f=>FmR (λb=>B<=b/\b<wr.heap.size/\v.ownBlock≠some b) wr f cs) 5 ks csl
theorem zHP.step(h:zHP B wr v ks csl)(d:zA (λc=>c≠P) wr x)(i:P<B):zHP B x v ks csl:=
 ⟨zX (Z:=λc=>c≠P) h.own d (λb a=>by have:=(h.own.lt b a).1;show b≠P;omega),
  h.each.imp λg f e=>FmR.mono (λb a=>⟨a.1,Nat.lt_of_lt_of_le a.2.1 d.size,a.2.2⟩) _ _ (FmR.keep (d.mono λb _ a=>by show b≠P;omega) _ _ e)⟩
theorem zHP.push{x0 x a:World}{v d:Value}{f:Fm}{cs:List Value}{o:Obj}(h:zHP B x v ks csl)(m:B<=x0.heap.size)(c:∀b,v.ownBlock=some b->b<x0.heap.size)(q:FmR (λb=>x0.heap.size<=b) x f cs)
  (s:(x.alloc o).grownBy a v.ownBlock)(D:a.ownsRow B 40 5 d (ks.length+1) (csl.flatten++cs))(i:d.ownBlock=v.ownBlock\/d.ownBlock=some (x.alloc o).heap.size):zHP B a d (ks++[f]) (csl++[cs]):=by
 have E:(x.alloc o).heap.size =x.heap.size+1:=by simp
 have F:(x.alloc o).heap.size <=a.heap.size:=s.size
 have t:∀b,B<=b/\b<x.heap.size/\v.ownBlock≠some b->B<=b/\b<a.heap.size/\d.ownBlock≠some b:=by
  intro b ⟨y,H,z⟩;refine⟨y,by omega,λe=> ?_⟩;rcases i with g|g
  ·exact z (by rw[<-g,e])
  ·rw[g]at e;injection e with e;omega
 have u:zA (λb=>B<=b/\b<x.heap.size/\v.ownBlock≠some b) x a:=zA.grown ((zA.refl _ x).alloc o) s (λk e _ A=>A.2.2 e);refine⟨by rw[List.length_append,List.length_singleton,List.flatten_append];simpa using D,(h.each.imp λw G j=>FmR.mono t _ _ (FmR.keep u _ _ j)).append (zc.one ?_ q.size)⟩;have C:=FmR.live _ _ q;exact FmR.mono t _ _ (FmR.keep u _ _ (FmR.mono (λb n=>⟨Nat.le_trans m n.1,n.2,λe=>by have:=c b e;omega⟩) _ _ C))
theorem zHP.node(h:zHP B wr (.slice A n cap) ks csl)(w:n=ks.length){op:Int}(i:I64 op)(v:ks.length*56<=140737488355328):FmR (λb=>B<=b) wr (.mk op za 0 0 ks) [.int .i64 op,.string za,.int .i64 0,.int .i64 0,.slice A ks.length cap]:=by
 subst w;obtain⟨y,j,e,o,q,s⟩:=Row.of_own h.own (by decide);injection e with e1 e2 e3;subst e1 e3;unfold FmR;refine⟨i,by decide,by unfold I64;omega,by unfold I64;omega,A,cap,rfl,o,by simpa[maxLen]using q,v,zi.of_seq ?_⟩
 cases ks with
 |nil=>unfold zm;trivial
 |cons k r=>
  obtain⟨c,d,rfl⟩:∃c d,csl=c::d:=by
   cases csl with
   |nil=>exact h.each.elim
   |cons c d=>exact⟨c,d,rfl⟩
  have a:=h.each.size;obtain⟨b,x,rfl,g,t⟩:=s (by intro m;rw[m]at a;simp at a);exact zc.rows (Z:=λb=>B<=b) g (h.each.imp λd f u=>FmR.mono (λ_ g=>g.1) _ _ u) t
def zEg(word:ByteArray)(ts:List Tok):Bool:=match ts with
 |[]=>false
 |t::_=>decide (t.kind=1)&&decide (t.text=word)
theorem zUQ{part:PSt->Fm × PSt}{e p:Int}(h:zEg word ts=false):zCv word part (n+1) ⟨ts,e,p⟩ acc=(acc,⟨ts,e,p⟩):=by
 cases ts with
 |nil=>rfl
 |cons t r=>
  simp only[zCv];rw[if_neg];rintro⟨h1,h2⟩;simp[zEg,h1,h2]at h
theorem zTK{part:PSt->Fm × PSt}{e p:Int}(h:zEg word ts=true):∃t r,ts=t::r/\zCv word part (n+1) ⟨ts,e,p⟩ acc=zCv word part n (part ⟨r,e,p⟩).2 (acc++[(part ⟨r,e,p⟩).1]):=by
 cases ts with
 |nil=>cases h
 |cons t r=>
  refine⟨t,r,rfl,?_⟩;simp only[zEg,Bool.and_eq_true,decide_eq_true_eq]at h;simp only[zCv];rw[if_pos h]
theorem Tryz.eForm2:zB0 prog 40 5 64:=zBp (z:= .agg #[.int .i64 0,.string ⟨#[]⟩,.int .i64 0,.int .i64 0,.slice none 0 0]) (by kernel_rfl) rfl (by decide)
theorem zA.inner{w w' a:World}(h:zA Z w w')(k:zA (λb=>b≠w.heap.size) w' a):zA Z w a:=
 ⟨k.os.trans h.os,k.tape.trans h.tape,k.output.trans h.output,Nat.le_trans h.size k.size,λi c d=>(k.block i (Nat.lt_of_lt_of_le c h.size) (Nat.ne_of_lt c)).trans (h.block i c d)⟩
theorem zFo{a b c d e:Value}(h:Blk wr B t #[a,b,c,d,e])(v0 v1 v2 v3 v4:Value):
  Blk (((((wr.setCell ⟨B,0,none⟩ v0).setCell ⟨B,1,none⟩ v1).setCell ⟨B,2,none⟩ v2).setCell ⟨B,3,none⟩ v3).setCell ⟨B,4,none⟩ v4) B t #[v0,v1,v2,v3,v4]/\
  zA (λk=>k≠B) wr (((((wr.setCell ⟨B,0,none⟩ v0).setCell ⟨B,1,none⟩ v1).setCell ⟨B,2,none⟩ v2).setCell ⟨B,3,none⟩ v3).setCell ⟨B,4,none⟩ v4):=
 ⟨((((h.set_ 0 v0).set_ 1 v1).set_ 2 v2).set_ 3 v3).set_ 4 v4,
  (((((zA.refl _ _).setCell (p:=⟨B,0,none⟩) (λ_ h=>h rfl) _).setCell (p:=⟨B,1,none⟩) (λ_ h=>h rfl) _).setCell (p:=⟨B,2,none⟩) (λ_ h=>h rfl) _).setCell (p:=⟨B,3,none⟩) (λ_ h=>h rfl) _).setCell (p:=⟨B,4,none⟩) (λ_ h=>h rfl) _⟩
theorem zCU{s:ByteArray}{w wr e:World}{f:Fm}{st:PSt}
  (j:P<w.heap.size)(m:w.heap.size<wr.heap.size)(g:FmR (λb=>w.heap.size+1<=b) wr f [.int .i64 f.op,.string f.name,.int .i64 f.cmp,.int .i64 f.num,.slice A f.kids.length cap])
  (i:PsR P fin s wr st)(h:zA (λc=>c≠P) w wr)(d:zA (λk=>k≠w.heap.size) wr e):
  zL0 P fin s w (f,st) (.returned (.agg #[.int .i64 f.op,.string f.name,.int .i64 f.cmp,.int .i64 f.num,.slice A f.kids.length cap])) e:=
 ⟨A,cap,rfl,FmR.mono (λb a=>by have a:w.heap.size+1<=b:=a;show w.heap.size<=b;omega) _ _ (FmR.keep (d.mono λb _ a=>by have a:w.heap.size+1<=b:=a;show b≠w.heap.size;omega) _ _ g),
  i.keep (d.mono λb _ a=>by have a:b<=P:=a;show b≠w.heap.size;omega),
  h.inner d⟩
theorem zNf(P:Nat)(fin:Int)(s:ByteArray)(op:Int)(bw:I64 op)(word:ByteArray)(g:FuncId)(eg:∀args w,(callFunc g args).run prog w= .ok (.enter g args) w)(n:Nat)(part:PSt->Fm × PSt)(hp:zF1 P fin s g n part)(x:∀st,(part st).2.toks.length <=st.toks.length)(st:PSt)(w:World)(hn:st.toks.length<n)(hs:PsR P fin s w st):
  Calls prog 157 #[.pointer (some ⟨P,0,none⟩),.int .i64 op,.string word,.func (.func g) #[.pointer (some ⟨P,0,none⟩)] #[]] w (zL0 P fin s w (zAk op word part n st)):=by
 have HP:=hid hp;have HS:=hid hs;have ag:=hs.lt;have HL:=hid x;have b3:st.toks.length<=5000:=by obtain⟨⟨A,cap,_,ht⟩,_⟩:=hs;exact ht.few
 clear hp hs x;go_enter func157,ntmps157
 go_wp2_with fail
 refine(HP.out st _ hn (HS.out.below (zF w _))).mono ?_;rintro e K ⟨A,cap,rfl,hf,a8,o⟩;have a3:=HL.out st;generalize bx:part st=r0 at*;obtain⟨i,J⟩:=r0;dsimp only at*;have ab:=hid hf;have ay:=hid a8;have av:=hid ((Blk.new w 40 #[.int .i64 0,.string ⟨#[]⟩,.int .i64 0,.int .i64 0,.slice none 0 0]).keep o (by omega));have ap:=hid (((zA.refl (λc=>c≠P) w).alloc (.cells #[.int .i64 0,.string ⟨#[]⟩,.int .i64 0,.int .i64 0,.slice none 0 0] 40)).trans o);have b1:w.heap.size+1<=K.heap.size:=by have:=o.size;simpa using this
 have aa:(w.alloc (.cells #[.int .i64 0,.string ⟨#[]⟩,.int .i64 0,.int .i64 0,.slice none 0 0] 40)).heap.size =w.heap.size+1:=by simp
 rw[aa]at ab;clear hf a8 o aa
 have W:=hid (show zHP (w.heap.size+1) (K.alloc (.cells #[.int .i64 i.op,.string i.name,.int .i64 i.cmp,.int .i64 i.num,.slice A i.kids.length cap] 40)) (.slice (some ⟨K.heap.size,0,none⟩) 1 1) [i] [[.int .i64 i.op,.string i.name,.int .i64 i.cmp,.int .i64 i.num,.slice A i.kids.length cap]] from
  ⟨⟨by simp,.inr ⟨K.heap.size,1,_,rfl,by omega,heap_alloc_new K _,Nat.le_refl _,by simp[maxLen],by simp,by simp⟩⟩,
   zc.one (FmR.mono (λb hb=>⟨by omega,by simp;omega,by intro e;injection e with e;have e2:K.heap.size=b:=e;omega⟩) _ _ (FmR.keep ((zA.refl (λb=>w.heap.size+1<=b/\b<K.heap.size) K).alloc _) _ _ (FmR.live _ _ ab.out))) rfl⟩)
 have az:=hid (ay.out.below (zF K (.cells #[.int .i64 i.op,.string i.name,.int .i64 i.cmp,.int .i64 i.num,.slice A i.kids.length cap] 40)));have aw:=hid (av.out.alloc (.cells #[.int .i64 i.op,.string i.name,.int .i64 i.cmp,.int .i64 i.num,.slice A i.kids.length cap] 40));have aq:=hid (ap.out.alloc (.cells #[.int .i64 i.op,.string i.name,.int .i64 i.cmp,.int .i64 i.num,.slice A i.kids.length cap] 40));obtain⟨L,E⟩:∃R,R=zCv word part n J [i]:=⟨_,rfl⟩;have au:=hid (show zAk op word part n st=(zOT op L.1,L.2) from by unfold zAk;rw[bx,E]);have X:=hid E.symm;clear E ab ay av ap;have D:=hid (show[i].length +J.toks.length<=5001 from by simp;omega);have ao:=hid (show J.toks.length<n/\J.toks.length<n from by omega);go_wp2_with fail
 generalize K.alloc (.cells #[.int .i64 i.op,.string i.name,.int .i64 i.cmp,.int .i64 i.num,.slice A i.kids.length cap] 40)=w2 at*;generalize K.heap.size=KB at*;go_loopg[9] n (λkx v9 wr=>∃(KA:Option Addr)(kc:Nat)(ks:List Fm)(csl:List (List Value))(z:PSt)(kn:Nat),kn=kx/\v9= .slice KA ks.length kc/\Hid (zHP (w.heap.size+1) wr (.slice KA ks.length kc) ks csl)/\Hid (PsR P fin s wr z)/\Hid (zCv word part kn z ks=L)/\Hid (z.toks.length<kn/\z.toks.length<n)/\Hid (ks.length+z.toks.length<=5001)/\Hid (zA (λc=>c≠P) w wr)/\Hid (Blk wr w.heap.size 40 #[.int .i64 0,.string ⟨#[]⟩,.int .i64 0,.int .i64 0,.slice none 0 0])/\Hid (ks≠[]))
 case atStart=>exact⟨_,_,[i],_,J,n,rfl,rfl,W,az,X,ao,D,aq,aw,hid (by simp)⟩
 case round=>
  obtain⟨KA,kc,ks,csl,z,kn,a2,rfl,H,U,Z,ai,x,ak,F,bu⟩:=hrel;have bj:=hid a2;clear a2 W az X ao D aq aw;obtain⟨al,rfl⟩:∃k',kn=k'+1:=⟨kn-1,by have:=ai.out;omega⟩;have a4:=U.out;obtain⟨⟨TA,b2,ah,bb⟩,ba⟩:=a4;have p0:=ah.at0;have pl:=ah.lt;obtain⟨ts,j,d⟩:=z;dsimp only at*;have ae:=hid bb;clear ah bb ba;have Y:=ae.out.few;have bc:=ae.out.le;go_upto_region 2 with fail
  go_cut[39] from 13 to 46 (λv wx=>v= .bool (zEg word ts)/\wr=wx)
  case first=>
   cases ts with
   |nil=>
    simp only[List.length_nil]at p0;go_wp2;go_meet;exact⟨rfl,rfl⟩
   |cons t r=>
    obtain⟨b,u,rfl,hz,c0,c1,c2,c3⟩:=ae.out.at_ (k:=0) (by simp);simp only[Nat.zero_mul,Nat.add_zero,List.getElem_cons_zero]at c0 c1 c2 c3;simp only[List.length_cons]at p0 Y bc;have bl:=lt_of_cell c0;(have q1:(0:Int)<((r.length+1:Nat):Int):=by omega);obtain⟨tk,tp,tn,tt⟩:=t;dsimp only at c0 c1 c2 c3;by_cases h1:tk=1
    ·(have e1:(tk==(1:Int))=true:=by simp[h1]);by_cases h2:tt=word
     ·(have e2:(tt.toList==word.toList)=true:=by rw[h2];simp);have HQ:=hid (show zEg word (⟨tk,tp,tn,tt⟩::r)=true from by simp[zEg,h1,h2]);clear h1 h2;go_wp2;go_meet;exact⟨congrArg Value.bool HQ.out.symm,rfl⟩
     ·(have e2:(tt.toList==word.toList)=false:=by rw[zAh];simp[h2]);have HQ:=hid (show zEg word (⟨tk,tp,tn,tt⟩::r)=false from by simp[zEg,h2]);clear h1 h2;go_wp2;go_meet;exact⟨congrArg Value.bool HQ.out.symm,rfl⟩
    ·(have e1:(tk==(1:Int))=false:=by simp[h1]);have HQ:=hid (show zEg word (⟨tk,tp,tn,tt⟩::r)=false from by simp[zEg,h1]);clear h1;go_wp2;go_meet;exact⟨congrArg Value.bool HQ.out.symm,rfl⟩
  case rest=>
   obtain⟨rfl,rfl⟩:=hcut;cases a9:zEg word ts
   ·have HR:=hid (show L=(ks,⟨ts,j,d⟩) from by rw[<-Z.out,zUQ a9]);have b5:=x.out;have C:=F.out;have o0:=C.at0;have o1:=C.at1;have o2:=C.at2;have o3:=C.at3;have o4:=C.at4;have g0:=C.frozen 0;have g1:=C.frozen 1;have g2:=C.frozen 2;have g3:=C.frozen 3;have g4:=C.frozen 4;have ol:=C.lt;clear p0 pl C Y bc;by_cases o:ks.length=1
    ·obtain⟨q,a1⟩:∃q,ks=[q]:=by
      cases ks with
      |nil=>simp at o
      |cons a r=>cases r with
       |nil=>exact⟨a,rfl⟩
       |cons _ _=>simp at o
     have G:=H.out;rw[a1]at G
     obtain⟨cs,rfl⟩:∃cs,csl=[cs]:=by
      have h:=G.each
      cases csl with
      |nil=>exact h.elim
      |cons c r=>cases r with
       |nil=>exact⟨c,rfl⟩
       |cons _ _=>exact h.2.elim
     have hF:=G.each.1.1;obtain⟨A1,M,rfl⟩:=FmR.form hF;obtain⟨A',b0,e,-,-,h3⟩:=Row.of_own G.own (by decide);injection e with e1 e2 e3;subst e1 e3;obtain⟨kb,y,rfl,bs,hc⟩:=h3 (by simp);have q0:wr.cell? ⟨kb,y,none⟩=some (.int .i64 q.op):=hc 0 _ rfl;have q1:wr.cell? ⟨kb,y+1,none⟩=some (.string q.name):=hc 1 _ rfl;have q2:wr.cell? ⟨kb,y+2,none⟩=some (.int .i64 q.cmp):=hc 2 _ rfl;have q3:wr.cell? ⟨kb,y+3,none⟩=some (.int .i64 q.num):=hc 3 _ rfl;have q4:wr.cell? ⟨kb,y+4,none⟩=some (.slice A1 q.kids.length M):=hc 4 _ rfl;(have el:((ks.length:Int)==1)=true:=by simp[o]);(have ll:(0:Int)<(ks.length:Int):=by omega);(have nb:¬kb=w.heap.size:=by have:w.heap.size+1<=kb:=bs;omega);have bh:=hid hF;have ad:=hid (show zAk op word part n st=(q,⟨ts,j,d⟩) from by rw[au.out,HR.out,a1];rfl);clear G h3 hc hF o;go_wp2;obtain⟨m,N⟩:=zFo F.out (.int .i64 q.op) (.string q.name) (.int .i64 q.cmp) (.int .i64 q.num) (.slice A1 q.kids.length M);generalize (((((wr.setCell {block:=w.heap.size,off:=0} (Value.int IntKind.i64 q.op)).setCell {block:=w.heap.size,off:=1} (Value.string q.name)).setCell {block:=w.heap.size,off:=2} (Value.int IntKind.i64 q.cmp)).setCell {block:=w.heap.size,off:=3} (Value.int IntKind.i64 q.num)).setCell {block:=w.heap.size,off:=4} (Value.slice A1 q.kids.length M))=wf at*;have r0:=m.at0;have r1:=m.at1;have r2:=m.at2;have r3:=m.at3;have r4:=m.at4;rw[ad.out];exact bodyPost_ret (v:= .agg #[.int .i64 q.op,.string q.name,.int .i64 q.cmp,.int .i64 q.num,.slice A1 q.kids.length M]) (by simp[results,results157,go_sem,r0,r1,r2,r3,r4]) rfl (zCU ag ol (FmR.mono (λb hb=>hb.1) _ _ bh.out) U.out ak.out N)
    ·(have el:((ks.length:Int)==1)=false:=by simp;omega);have ll:ks.length<=5001:=by omega
     have ad:=hid (show zAk op word part n st=(.mk op za 0 0 ks,⟨ts,j,d⟩) from by
      rw[au.out,HR.out]
      cases ks with
      |nil=>exact absurd rfl bu.out
      |cons a r=>cases r with
       |nil=>exact absurd rfl o
       |cons _ _=>rfl)
     have HN:=hid (H.out.node rfl bw (by omega));clear o;go_wp2;obtain⟨m,N⟩:=zFo F.out (.int .i64 op) (.string za) (.int .i64 0) (.int .i64 0) (.slice KA ks.length kc);rw[show za=({data:=#[]}:ByteArray) from rfl]at m N;generalize (((((wr.setCell {block:=w.heap.size,off:=0} (Value.int IntKind.i64 op)).setCell {block:=w.heap.size,off:=1} (Value.string {data:=#[]})).setCell {block:=w.heap.size,off:=2} (Value.int IntKind.i64 0)).setCell {block:=w.heap.size,off:=3} (Value.int IntKind.i64 0)).setCell {block:=w.heap.size,off:=4} (Value.slice KA ks.length kc))=wf at*;have r0:=m.at0;have r1:=m.at1;have r2:=m.at2;have r3:=m.at3;have r4:=m.at4;rw[ad.out];exact bodyPost_ret (v:= .agg #[.int .i64 op,.string ⟨#[]⟩,.int .i64 0,.int .i64 0,.slice KA ks.length kc]) (by simp[results,results157,go_sem,r0,r1,r2,r3,r4]) rfl (zCU (f:= .mk op za 0 0 ks) ag ol HN.out U.out ak.out N)
   ·obtain⟨t,r,rfl,bt⟩:=zTK (part:=part) (n:=al) (e:=j) (p:=d) (acc:=ks) a9;have bo:=hid (zGL P fin s ⟨t::r,j,d⟩);have bk:=hid (H.out);(go_wp2_with fail);have a3:=bo.out wr U.out;refine a3.mono ?_;rintro e w3 ⟨rfl,a5,Q⟩;have a6:PsR P fin s w3 ⟨r,j,d⟩:=a5;have V:=hid (bk.out.step Q (by omega));(have bv:r.length<n:=by have:=ai.out;simp only[List.length_cons]at this;omega);(go_wp2_with fail);refine(HP.out ⟨r,j,d⟩ w3 bv a6).mono ?_;rintro e w4 ⟨A4,B,rfl,br,a7,T⟩;have af:=hid (V.out.step T (by omega));have LF:=hid br;have b8:w3.heap.size<=w4.heap.size:=T.size;have b7:wr.heap.size<=w3.heap.size:=Q.size;have aj:=hid (show ks.length+1<=5001 from by have:=x.out;simp only[List.length_cons]at this;omega);(have bd:w.heap.size+1<=wr.heap.size:=by have:=F.out.lt;omega);(try simp only[List.getElem_toArray,List.getElem_cons_zero,List.getElem_cons_succ]);have b4:=aj.out;(have bq:w.heap.size+1<=(w4.alloc (.cells #[.int .i64 (part ⟨r,j,d⟩).1.op,.string (part ⟨r,j,d⟩).1.name,.int .i64 (part ⟨r,j,d⟩).1.cmp,.int .i64 (part ⟨r,j,d⟩).1.num,.slice A4 (part ⟨r,j,d⟩).1.kids.length B] 40)).heap.size :=by simp;omega);go_wp2_with(at_builtin;refine z6 rfl (.tmp 42) (.tmp 45) _ rfl underlying38 Tryz.eForm2 rfl (af.out.own.alloc _) rfl (news:=[.int .i64 (part ⟨r,j,d⟩).1.op,.string (part ⟨r,j,d⟩).1.name,.int .i64 (part ⟨r,j,d⟩).1.cmp,.int .i64 (part ⟨r,j,d⟩).1.num,.slice A4 (part ⟨r,j,d⟩).1.kids.length B]) rfl (zCn (Blk.new _ _ _)) (by simp[Value.oneCell']) (by unfold maxLen;omega) (by omega) bq ?_;intro v5 w5 I O a0);have b6:P<w.heap.size:=ag;have bn:=hid (af.out.push (x0:=w3) (by omega) (λb hb=>(V.out.own.lt b hb).2) LF.out O I a0);have ac:=hid (λb hb=>(af.out.own.lt b hb).1);obtain⟨bp,bz,rfl,-,-,-⟩:=Row.of_own I (by decide);have ax:=hid (a7.keep ((((zA.refl (λc=>c<=P) w4).alloc _).grown O (λk e _ hk=>by have:=ac.out k e;have hk:k<=P:=hk;omega))));have bi:=hid ((((ak.out.trans Q).trans T).alloc (.cells #[.int .i64 (part ⟨r,j,d⟩).1.op,.string (part ⟨r,j,d⟩).1.name,.int .i64 (part ⟨r,j,d⟩).1.cmp,.int .i64 (part ⟨r,j,d⟩).1.num,.slice A4 (part ⟨r,j,d⟩).1.kids.length B] 40)).grown O (λk e hk _=>by have:=ac.out k e;omega));have bf:=hid ((((F.out.keep Q (by show w.heap.size≠P;omega)).keep T (by show w.heap.size≠P;omega)).alloc (.cells #[.int .i64 (part ⟨r,j,d⟩).1.op,.string (part ⟨r,j,d⟩).1.name,.int .i64 (part ⟨r,j,d⟩).1.cmp,.int .i64 (part ⟨r,j,d⟩).1.num,.slice A4 (part ⟨r,j,d⟩).1.kids.length B] 40)).grown O (λe=>by have:=ac.out _ e;omega));have bm:=HL.out ⟨r,j,d⟩;have bg:=ai.out;have ar:=x.out;simp only[List.length_cons]at bm bg ar;(go_roundg al);(case measure=>have:=bj.out;omega);exact⟨bp,bz,ks++[(part ⟨r,j,d⟩).1],_,(part ⟨r,j,d⟩).2,al,rfl,by rw[List.length_append];rfl,hid (by rw[List.length_append];exact bn.out),ax,hid (by rw[<-bt];exact Z.out),hid (by omega),hid (by rw[List.length_append,List.length_singleton];omega),bi,bf,hid (by simp)⟩
def RdT(w:World)(R:Nat)(s:ByteArray)(A:Option Addr)(cap:Nat)(ts:List Tok)(k:Nat):Prop:=Blk w R 100 #[.string s,.slice A ts.length cap,.int .i64 (k:Int)]
def zIr{α:Type}(R:Nat)(s:ByteArray)(A:Option Addr)(cap:Nat)(ts:List Tok)(enc:α->Value)(w:World)(res:Except Flt (α × List Tok))(e:Ending)(w':World):Prop:=
 zA (λc=>c≠R) w w'/\match res with
 | .error f=>zMO 96 f e
 | .ok (x,r)=>e= .returned (enc x)/\∃k',r=ts.drop k'/\k'<=ts.length/\RdT w' R s A cap ts k'
section
variable {α:Type} {R:Nat} {s:ByteArray} {A:Option Addr} {cap:Nat} {ts:List Tok} {enc:α->Value} {w w':World} {res:Except Flt (α × List Tok)}
theorem zNg(h:res= .error f)(a:zA (λc=>c≠R) w w'):zIr R s A cap ts enc w res (.panicked [{v:=zB1 96 f,recovered:=false}]) w':=by
 subst h;exact⟨a,rfl⟩
theorem zUR{x:α}{k':Nat}(h:res= .ok (x,ts.drop k'))(b:zA (λc=>c≠R) w w')(d:k'<=ts.length)(a:RdT w' R s A cap ts k')(e:v=enc x):zIr R s A cap ts enc w res (.returned v) w':=by
 subst h e;exact⟨b,rfl,k',rfl,d,a⟩
theorem zIr.error_(h:zIr R s A cap ts enc w (.error f) e w'):zA (λc=>c≠R) w w'/\e= .panicked [{v:=zB1 96 f,recovered:=false}]:=h
theorem zIr.ok_{p:α × List Tok}(h:zIr R s A cap ts enc w (.ok p) e w'):zA (λc=>c≠R) w w'/\e= .returned (enc p.1)/\∃k',p.2=ts.drop k'/\k'<=ts.length/\RdT w' R s A cap ts k':=h
end
theorem zIs{a b c d:Value}(h:Blk wr B t #[a,b,c,d])(v0 v1 v2 v3:Value):
  Blk ((((wr.setCell ⟨B,0,none⟩ v0).setCell ⟨B,1,none⟩ v1).setCell ⟨B,2,none⟩ v2).setCell ⟨B,3,none⟩ v3) B t #[v0,v1,v2,v3]/\
  zA (λk=>k≠B) wr ((((wr.setCell ⟨B,0,none⟩ v0).setCell ⟨B,1,none⟩ v1).setCell ⟨B,2,none⟩ v2).setCell ⟨B,3,none⟩ v3):=
 ⟨(((h.set_ 0 v0).set_ 1 v1).set_ 2 v2).set_ 3 v3,
  ((((zA.refl _ _).setCell (p:=⟨B,0,none⟩) (λ_ h=>h rfl) _).setCell (p:=⟨B,1,none⟩) (λ_ h=>h rfl) _).setCell (p:=⟨B,2,none⟩) (λ_ h=>h rfl) _).setCell (p:=⟨B,3,none⟩) (λ_ h=>h rfl) _⟩
theorem zA.inner2{w w' a:World}(h:zA Z w w')(k:zA (λb=>b≠B) w' a)(d:w.heap.size<=B):zA Z w a:=
 ⟨k.os.trans h.os,k.tape.trans h.tape,k.output.trans h.output,Nat.le_trans h.size k.size,λi c e=>(k.block i (Nat.lt_of_lt_of_le c h.size) (Nat.ne_of_lt (Nat.lt_of_lt_of_le c d))).trans (h.block i c e)⟩
def zVz(fin:Int)(ts:List Tok):Except Flt (Tok × List Tok):=match ts with
 |[]=> .error (6,fin)
 |t::_=> .error (5,t.pos)
theorem zUS{fin k:Int}{a:ByteArray}(h:zCl k a ts=false):zAr fin k a ts=zVz fin ts:=by
 cases ts with
 |nil=>rfl
 |cons t r=>show(if zCw k a t=true then _ else _)=_;rw[if_neg (by rw[show zCw k a t=false from h];simp)];rfl
theorem zNA(R:Nat)(s:ByteArray)(A:Option Addr)(j:Nat)(g:List Tok)(k:Nat)(a:Int)(f:ByteArray)(w:World)(C:RdT w R s A j g k)(x:zAt (λc=>c≠R) w A j g)(N:k<=g.length):
  Calls prog 78 #[.pointer (some ⟨R,0,none⟩),.int .i64 a,.string f] w λe w'=>e= .returned (.bool (zCl a f (g.drop k)))/\∃n,w'=w.drewN n:=by
 have h:Blk w R 100 #[.string s,.slice A g.length j,.int .i64 (k:Int)]:=C;have T:w.cell? ⟨R,1,none⟩=some (.slice A g.length j):=h.at1;have U:w.cell? ⟨R,2,none⟩=some (.int .i64 (k:Int)):=h.at2;have V:=h.lt;have I:=x.few;have le:=x.le;have K:=x.max;by_cases he:k=g.length
 ·have i:=hid (show zCl a f (g.drop k)=false from by rw[he,List.drop_length];rfl);have M:¬(k<g.length):=by omega
  clear x h C he;go_enter func78,ntmps78
  go_wp2;go_quiet(fail);go_wp2;go_ret;rw[i.out];exact⟨rfl,_,rfl⟩
 ·have y:k<g.length:=by omega
  obtain⟨b,L,rfl,O,E,c1,c2,c3⟩:=x.at_ y;have i:=hid (show zCl a f (g.drop k)=zCw a f g[k] from by rw[List.drop_eq_getElem_cons y];rfl);have J:=lt_of_cell E;have P:¬((k:Int)<0):=by omega
  have Q:(k:Int)<(g.length:Int):=by omega
  generalize D:g[k]=t at*;obtain⟨q,B,z,u⟩:=t;dsimp only at*;clear x h C he D;by_cases m:q=a
  ·(have F:(q==a)=true:=by simp[m]);by_cases o:f=za
   ·(have G:(f.toList==[])=true:=by rw[o,zGA];rfl);have d:=hid (i.out.trans (show zCw a f ⟨q,B,z,u⟩=true from by simp[zCw,m,o]));clear i m o;(go_enter func78,ntmps78);go_wp2;go_quiet(fail);go_wp2;go_ret;rw[d.out];exact⟨rfl,_,rfl⟩
   ·have G:(f.toList==[])=false:=by
     rw[<-zGA,zAh];simp[o]
    by_cases v:u=f
    ·(have H:(u.toList==f.toList)=true:=by simp[v]);have d:=hid (i.out.trans (show zCw a f ⟨q,B,z,u⟩=true from by simp[zCw,m,v]));clear i m o v;(go_enter func78,ntmps78);go_wp2;go_quiet(fail);go_wp2;go_ret;rw[d.out];exact⟨rfl,_,rfl⟩
    ·(have H:(u.toList==f.toList)=false:=by rw[zAh];simp[v]);have d:=hid (i.out.trans (show zCw a f ⟨q,B,z,u⟩=false from by simp[zCw,o,v]));clear i m o v;(go_enter func78,ntmps78);go_wp2;go_quiet(fail);go_wp2;go_ret;rw[d.out];exact⟨rfl,_,rfl⟩
  ·(have F:(q==a)=false:=by simp[m]);have d:=hid (i.out.trans (show zCw a f ⟨q,B,z,u⟩=false from by simp[zCw,m]));clear i m;(go_enter func78,ntmps78);go_wp2;go_quiet(fail);go_wp2;go_ret;rw[d.out];exact⟨rfl,_,rfl⟩
theorem zNh(R:Nat)(s:ByteArray)(A:Option Addr)(b:Nat)(d:List Tok)(k:Nat)(a:Int)(f:ByteArray)(w:World)(g:RdT w R s A b d k)(j:zAt (λc=>c≠R) w A b d)(i:k<=d.length):
  Calls prog 78 #[.pointer (some ⟨R,0,none⟩),.int .i64 a,.string f] w λe w'=>e= .returned (.bool (zCl a f (d.drop k)))/\Bw w w':=
 (zNA R s A b d k a f w g j i).mono λ_ _ h=>⟨h.1,by obtain⟨n,rfl⟩:=h.2;exact below_drewN' (Below.refl _ _) _⟩
theorem zNi(R:Nat)(s:ByteArray)(A:Option Addr)(j:Nat)(f:List Tok)(k:Nat)(d:Int)(E:ByteArray)(w:World)(hR:RdT w R s A j f k)(V:zAt (λc=>c≠R) w A j f)(hk:k<=f.length)(hs:s.size<=140737488355328):
  Calls prog 48 #[.pointer (some ⟨R,0,none⟩),.int .i64 d,.string E] w (zIr R s A j f zAS w (zAr (s.size:Int) d E (f.drop k))):=by
 have L:=(show Blk w R 100 #[.string s,.slice A f.length j,.int .i64 (k:Int)] from hR).lt;have aa:=hid (λW(q:Bw w W)=>zNh R s A j f k d E W (Blk.below hR q L) (V.keep (.of_below q)) hk);have Z:=hid (show Blk w R 100 #[.string s,.slice A f.length j,.int .i64 (k:Int)] from hR);have HT:=hid V;have al:=V.few;have le:=V.le;have ap:=V.max;clear hR V;go_enter func48,ntmps48
 go_wp2_with fail
 refine(aa.out _ (zF w _)).mono ?_;rintro e y ⟨rfl,O⟩;have P:Bw w y:=(zF w _).trans (O.mono (by simp));have n:=Z.out.below P L;have ac:=(Blk.new w 102 #[.int .i64 0,.int .i64 0,.int .i64 0,.string ⟨#[]⟩]).below O (by simp);have n2:¬R=w.heap.size:=by omega
 have n5:¬w.heap.size=R:=λh=>n2 h.symm
 have HO:=hid ac;have F:=hid P;have Y:=hid n;have r0:=n.at0;have I:=n.at1;have J:=n.at2;have aj:=n.frozen 2;have ad:=n.lt;clear P O n ac aa Z;cases o:zCl d E (f.drop k)
 ·have U:=hid (zUS (fin:=(s.size:Int)) o);clear o;by_cases he:k=f.length
  ·have M:=hid (show zAr (s.size:Int) d E (f.drop k)= .error (6,(s.size:Int)) from by rw[U.out,he,List.drop_length];rfl);(have e1:¬(k<f.length):=by omega);clear U he;go_wp2;go_quiet(fail);go_wp2;refine⟨rfl,zNg M.out (zA.of_below (below_drewN' F.out _))⟩
  ·(have x:k<f.length:=by omega);obtain⟨b,m,rfl,hz,z,c1,c2,c3⟩:=(HT.out.keep (.of_below F.out)).at_ x;have M:=hid (show zAr (s.size:Int) d E (f.drop k)= .error (5,f[k].pos) from by rw[U.out,List.drop_eq_getElem_cons x];rfl);have i:=lt_of_cell z;(have q0:¬((k:Int)<0):=by omega);(have q1:(k:Int)<(f.length:Int):=by omega);generalize Q:f[k]=t at*;obtain⟨tk,tp,tn,tt⟩:=t;dsimp only at*;clear U he Q;go_wp2;go_quiet(fail);go_upto_region 5 with fail
   have G:=hid (λ(W:World)(q:Bw y W)=>(show W.cell? ⟨R,1,none⟩=some (.slice (some ⟨b,m,none⟩) f.length j)/\W.cell? ⟨R,2,none⟩=some (.int .i64 (k:Int))/\R<W.heap.size/\W.cell? ⟨b,m+k*4+1,none⟩=some (.int .i64 tp)/\b<W.heap.size from by
    have h:=Y.out.below q ad
    exact⟨h.at1,h.at2,h.lt,brd q c1 i,Nat.lt_of_lt_of_le i q.size⟩))
   clear r0 I J z c1 c2 c3;refine zL 13 (λW=>Bw y W) (by kernel_rfl) ?_;have B:Bw y (y.drewN nq).drew :=(below_drewN' (Below.refl _ _) _).drew;have g:(λW=>Bw y W) (y.drewN nq).drew :=B;have ae:=hid (F.out.trans (B.mono F.out.size));generalize (y.drewN nq).drew =x0 at*
   (refine tkQ 0 g ?_;simp only[nr])
   try simp only[nq]
   (refine tkQ 1 g ?_;simp only[nr])
   try simp only[nq]
   (refine tkQ 2 g ?_;simp only[nr])
   try simp only[nq]
   (refine tkC 3 [8,9,10,11,12,13] ?_ g ?_ ?_;rotate_left;intro w a;obtain⟨I,J,L,c1,bl⟩:=G.out _ a;clear a;go_simp;(try with_reducible rfl);simp only[nr])
   try simp only[nq]
   (refine tkQ 4 g ?_;simp only[nr])
   try simp only[nq]
   (refine tkQ 5 g ?_;simp only[nr])
   try simp only[nq]
   (refine tkQ 6 g ?_;simp only[nr])
   try simp only[nq]
   (refine tkC 7 [8,9,10,11,12,13] ?_ g ?_ ?_;rotate_left;intro w a;obtain⟨I,J,L,c1,bl⟩:=G.out _ a;clear a;go_simp;(try with_reducible rfl);simp only[nr])
   try simp only[nq]
   (refine tkQ 8 g ?_;simp only[nr])
   try simp only[nq]
   (refine tkQ 9 g ?_;simp only[nr])
   try simp only[nq]
   (refine tkC 10 [11,12,13] ?_ g ?_ ?_;rotate_left;intro w a;obtain⟨I,J,L,c1,bl⟩:=G.out _ a;clear a;go_simp;(try with_reducible rfl);simp only[nr])
   try simp only[nq]
   (refine tkQ 11 g ?_;simp only[nr])
   try simp only[nq]
   (refine tkQ 12 g ?_;simp only[nr])
   (try simp only[nq]);clear g;refine wS1 13 (λK hK=> ?_);(go_wp2_with fail);exact⟨rfl,zNg M.out (zA.of_below ae.out)⟩
 ·obtain⟨x,H⟩:k<f.length/\∀h:k<f.length,zCw d E f[k]=true:=by
   rcases Nat.lt_or_ge k f.length with h|h
   ·exact⟨h,λ_=>by rw[List.drop_eq_getElem_cons h]at o;exact o⟩
   ·rw[List.drop_of_length_le h]at o;cases o
  obtain⟨b,m,rfl,hz,z,c1,c2,c3⟩:=(HT.out.keep (.of_below F.out)).at_ x
  have U:=hid (show zAr (s.size:Int) d E (f.drop k)= .ok (f[k],f.drop (k+1)) from by
   rw[List.drop_eq_getElem_cons x];show(if zCw d E f[k]=true then _ else _)=_
   rw[if_pos (H x)])
  have i:=lt_of_cell z;have D:b≠R:=hz;have q0:¬((k:Int)<0):=by omega
  have q1:(k:Int)<(f.length:Int):=by omega
  have ak:=hid (HT.out.keep (.of_below F.out:zA (λc=>c≠R) w y));clear o H;generalize Q:f[k]=t at*;obtain⟨tk,tp,tn,tt⟩:=t;dsimp only at*;clear Q;go_upto_region 3 with fail
  have N:=hid (Y.out.set_ 2 (.int .i64 ((k:Int)+1)));have ah:=hid (HO.out.far (p:=⟨R,2,none⟩) n5 (.int .i64 ((k:Int)+1)));have u:zA (λc=>c≠R) y (y.setCell ⟨R,2,none⟩ (.int .i64 ((k:Int)+1))):=(zA.refl _ _).setCell (p:=⟨R,2,none⟩) (λ_ h=>h rfl) _;have af:=hid ((zA.of_below F.out:zA (λc=>c≠R) w y).trans u);replace z:=u.cell (p:=⟨b,_,none⟩) D z;replace c1:=u.cell (p:=⟨b,_,none⟩) D c1;replace c2:=u.cell (p:=⟨b,_,none⟩) D c2;replace c3:=u.cell (p:=⟨b,_,none⟩) D c3;clear u r0 I J aj ad;generalize y.setCell ⟨R,2,none⟩ (.int .i64 ((k:Int)+1))=T at*;replace i:=lt_of_cell z;have q3:((k:Int)+1-1)=(k:Int):=by omega
  have G:=hid (λ(W:World)(q:Bw T W)=>(show W.cell? ⟨R,1,none⟩=some (.slice (some ⟨b,m,none⟩) f.length j)/\W.cell? ⟨R,2,none⟩=some (.int .i64 ((k:Int)+1))/\R<W.heap.size/\W.cell? ⟨b,m+k*4,none⟩=some (.int .i64 tk)/\W.cell? ⟨b,m+k*4+1,none⟩=some (.int .i64 tp)/\W.cell? ⟨b,m+k*4+2,none⟩=some (.int .i64 tn)/\W.cell? ⟨b,m+k*4+3,none⟩=some (.string tt)/\b<W.heap.size from by
   have h:=N.out.below q N.out.lt
   exact⟨h.at1,h.at2,h.lt,brd q z i,brd q c1 i,brd q c2 i,brd q c3 i,Nat.lt_of_lt_of_le i q.size⟩))
  clear z c1 c2 c3;refine zL 11 (λW=>Bw T W) (by kernel_rfl) ?_;have B:Bw T T.drew:=(Below.refl _ _).drew;have g:(λW=>Bw T W) T.drew:=B;have X:=hid (ah.out.drew);have ai:=hid (N.out.drew);have ag:=hid (af.out.drew);generalize T.drew=x0 at*
  (refine tkQ 0 g ?_;simp only[nr])
  try simp only[nq]
  (refine tkQ 1 g ?_;simp only[nr])
  try simp only[nq]
  (refine tkQ 2 g ?_;simp only[nr])
  try simp only[nq]
  (refine tkS 3 ?_ g ?_ ?_;rotate_left;intro w a;obtain⟨I,J,L,z,c1,c2,c3,bl⟩:=G.out _ a;clear a;go_simp;(try with_reducible rfl);simp only[nr])
  try simp only[nq]
  (refine tkQ 4 g ?_;simp only[nr])
  try simp only[nq]
  (refine tkQ 5 g ?_;simp only[nr])
  try simp only[nq]
  (refine tkQ 6 g ?_;simp only[nr])
  try simp only[nq]
  (refine tkS 7 ?_ g ?_ ?_;rotate_left;intro w a;obtain⟨I,J,L,z,c1,c2,c3,bl⟩:=G.out _ a;clear a;go_simp;(try with_reducible rfl);simp only[nr])
  try simp only[nq]
  refine tkZ 8 (.int .i64 (k:Int)) g (λW=> ?_) ?_
  ·go_simp;rw[IntKind.wrap_i64];omega
  try simp only[nq]
  (refine tkQ 9 g ?_;simp only[nr])
  try simp only[nq]
  (refine tkS 10 ?_ g ?_ ?_;rotate_left;intro w a;obtain⟨I,J,L,z,c1,c2,c3,bl⟩:=G.out _ a;clear a;go_simp;(try with_reducible rfl);simp only[nr])
  try simp only[nq]
  clear g G;obtain⟨o0,aq,o1,ar,o2,au,o3,av,ol⟩:=X.out.c4;refine wS1 11 (λK hK=> ?_);go_wp2_with fail
  refine hK _ _ (Or.inl rfl) ?_;clear hK K;try simp only[nq]
  refine wSd ?_ _;go_wp2_with fail
  have h4:=zIs X.out (.int .i64 tk) (.int .i64 tp) (.int .i64 tn) (.string tt);obtain⟨C,ab⟩:=h4;have q0:=C.at0;have q1:=C.at1;have q2:=C.at2;have q3:=C.at3;refine bodyPost_ret (v:=zAS ⟨tk,tp,tn,tt⟩) (by simp[results,results48,go_sem,q0,q1,q2,q3,zAS,Tok.cells]) rfl ?_;have ao:=F.out.size;refine zUR U.out (ag.out.inner2 ab (Nat.le_refl _)) (by omega) (Blk.keep ai.out ab n2) rfl
end Go.Proofs.YthpocbeoanipbaaGreatDoor
