/- Texts CX W60 TH3 TF4 TR3. -/
import Derived.Test.YthpocbeoanipbaaGreatDoorM26
import Derived.Test.YthpocbeoanipbaaGreatDoorM25
set_option linter.all false
namespace Go.Proofs.YthpocbeoanipbaaGreatDoor
open Go.RowKit Go.Proofs.Tryz
set_option maxHeartbeats 4000000
set_option maxRecDepth 100000
variable{t:TypeId}{v:Value}{w:World}
def zEz:ByteArray:=⟨#[119,101,105,103,104,116]⟩
def zFA:ByteArray:=⟨#[109,105,108,105,116,97,114,121]⟩
def zUT:List zC:=[⟨zEz,2,0,150⟩,⟨zFA,1,0,1⟩]
def zEh(nm:ByteArray)(c n:Int):Fm:= .mk 3 nm c n []
theorem Tryz.egOne:∀args w,(callFunc 186 args).run prog w= .ok (.enter 186 args) w:=enters_of func186 (by kernel_rfl) rfl
theorem Tryz.egAll:∀args w,(callFunc 158 args).run prog w= .ok (.enter 158 args) w:=enters_of func158 (by kernel_rfl) rfl
theorem zPL(P:Nat)(fin:Int)(s:ByteArray)(n:Nat)(part:PSt->Fm × PSt)(z:zF1 P fin s 186 n part)(h:∀st,(part st).2.toks.length <=st.toks.length):zF1 P fin s 158 n (zAk 5 zE1 part n):=by
 intro st w G t;have F:=hid t;have o:=t.lt;have C:=hid (zNf P fin s 5 (by unfold I64;omega) zE1 186 Tryz.egOne n part z h);clear t z h;go_enter func158,ntmps158
 go_wp2_with fail
 refine(C.out st _ G (F.out.below (zF w _))).mono ?_;rintro e B ⟨A,i,rfl,y,j,g⟩;generalize zAk 5 zE1 part n st=R at*;obtain⟨f,M⟩:=R;dsimp only at*;have u:w.heap.size<B.heap.size:=by have:=g.size;simp at this;omega
 have x:=hid ((Blk.new w 40 #[.int .i64 0,.string ⟨#[]⟩,.int .i64 0,.int .i64 0,.slice none 0 0]).keep g (by show w.heap.size≠P;omega));have E:=hid (((zA.refl (λc=>c≠P) w).alloc (.cells #[.int .i64 0,.string ⟨#[]⟩,.int .i64 0,.int .i64 0,.slice none 0 0] 40)).trans g);have D:=hid (FmR.mono (Z':=λb=>w.heap.size+1<=b) (λb q=>by have q:=q;simpa using q) _ _ y);have k:=hid j;clear y j g;have d:=x.out;have V:=d.at0;have W:=d.at1;have X:=d.at2;have Y:=d.at3;have Z:=d.at4;have N:=d.frozen 0;have O:=d.frozen 1;have Q:=d.frozen 2;have T:=d.frozen 3;have U:=d.frozen 4;clear d;go_wp2_with fail
 obtain⟨a,m⟩:=zFo x.out (.int .i64 f.op) (.string f.name) (.int .i64 f.cmp) (.int .i64 f.num) (.slice A f.kids.length i);generalize (((((B.setCell {block:=w.heap.size,off:=0} (Value.int IntKind.i64 f.op)).setCell {block:=w.heap.size,off:=1} (Value.string f.name)).setCell {block:=w.heap.size,off:=2} (Value.int IntKind.i64 f.cmp)).setCell {block:=w.heap.size,off:=3} (Value.int IntKind.i64 f.num)).setCell {block:=w.heap.size,off:=4} (Value.slice A f.kids.length i))=wf at*;have H:=a.at0;have I:=a.at1;have J:=a.at2;have K:=a.at3;have L:=a.at4;exact bodyPost_ret (v:= .agg #[.int .i64 f.op,.string f.name,.int .i64 f.cmp,.int .i64 f.num,.slice A f.kids.length i]) (by simp[results,results158,go_sem,H,I,J,K,L]) rfl (zCU o u D.out k.out E.out m)
theorem zKr(P:Nat)(fin:Int)(s:ByteArray)(n:Nat)(part:PSt->Fm × PSt)(z:zF1 P fin s 158 n part)(h:∀st,(part st).2.toks.length <=st.toks.length):zF1 P fin s 122 n (zAk 6 bOr part n):=by
 intro st w G t;have F:=hid t;have o:=t.lt;have C:=hid (zNf P fin s 6 (by unfold I64;omega) bOr 158 Tryz.egAll n part z h);clear t z h;go_enter func122,ntmps122
 go_wp2_with fail
 refine(C.out st _ G (F.out.below (zF w _))).mono ?_;rintro e B ⟨A,i,rfl,y,j,g⟩;generalize zAk 6 bOr part n st=R at*;obtain⟨f,M⟩:=R;dsimp only at*;have u:w.heap.size<B.heap.size:=by have:=g.size;simp at this;omega
 have x:=hid ((Blk.new w 40 #[.int .i64 0,.string ⟨#[]⟩,.int .i64 0,.int .i64 0,.slice none 0 0]).keep g (by show w.heap.size≠P;omega));have E:=hid (((zA.refl (λc=>c≠P) w).alloc (.cells #[.int .i64 0,.string ⟨#[]⟩,.int .i64 0,.int .i64 0,.slice none 0 0] 40)).trans g);have D:=hid (FmR.mono (Z':=λb=>w.heap.size+1<=b) (λb q=>by have q:=q;simpa using q) _ _ y);have k:=hid j;clear y j g;have d:=x.out;have V:=d.at0;have W:=d.at1;have X:=d.at2;have Y:=d.at3;have Z:=d.at4;have N:=d.frozen 0;have O:=d.frozen 1;have Q:=d.frozen 2;have T:=d.frozen 3;have U:=d.frozen 4;clear d;go_wp2_with fail
 obtain⟨a,m⟩:=zFo x.out (.int .i64 f.op) (.string f.name) (.int .i64 f.cmp) (.int .i64 f.num) (.slice A f.kids.length i);generalize (((((B.setCell {block:=w.heap.size,off:=0} (Value.int IntKind.i64 f.op)).setCell {block:=w.heap.size,off:=1} (Value.string f.name)).setCell {block:=w.heap.size,off:=2} (Value.int IntKind.i64 f.cmp)).setCell {block:=w.heap.size,off:=3} (Value.int IntKind.i64 f.num)).setCell {block:=w.heap.size,off:=4} (Value.slice A f.kids.length i))=wf at*;have H:=a.at0;have I:=a.at1;have J:=a.at2;have K:=a.at3;have L:=a.at4;exact bodyPost_ret (v:= .agg #[.int .i64 f.op,.string f.name,.int .i64 f.cmp,.int .i64 f.num,.slice A f.kids.length i]) (by simp[results,results122,go_sem,H,I,J,K,L]) rfl (zCU o u D.out k.out E.out m)
theorem Tryz.eFact:zB0 prog 67 4 40:=zBp (z:= .agg #[.string ⟨#[]⟩,.int .i64 0,.int .i64 0,.int .i64 0]) (by kernel_rfl) rfl (by decide)
theorem zTL{Z:zE}{base:Nat}{l:List zC}(h:w.ownsRow base t 4 v l.length (l.flatMap zC.cells))(g:∀c∈l,c.fit)(i:l.length*40<=140737488355328)(k:∀b,v.ownBlock=some b->Z b):Facts Z w v l:=by
 obtain⟨A,a,rfl,d,e,f⟩:=Row.of_own h (by decide);refine⟨⟨A,a,rfl,d,by simpa[maxLen]using e,i,?_⟩,g⟩
 have he:zc (λm c=>m=zC.cells c) 4 l (l.map zC.cells):=by
  clear h g i d e f k
  induction l with
  |nil=>trivial
  |cons c l ih=>exact⟨⟨rfl,rfl⟩,ih⟩
 cases l with
 |nil=>unfold zm;trivial
 |cons c r=>
  obtain⟨b,q,rfl,s,n⟩:=f (by simp[zC.cells]);exact zc.rows (k b rfl) he λj u o=>n j u (by simpa[List.flatMap]using o)
theorem zDa{P:Program}{κ:Type}[DecidableEq κ]{enc:κ->Value}{t k e:TypeId}{b:Nat}{j:List (κ × Value)}{ops:Array Oper}{rest:List Oper}{o:Oper}{a:Act}{Q:Exit->Act->World->Prop}(B:o.guard=none)(m x y:Operand)(i:o.op=Op.insert t m x y)
  (K:zEd P k enc)(D:P.underlying t=some (.map k e))(C:a.eval m= .map (some b))(h:zW enc w b j)(key:κ)(F:a.eval x=enc key)(E:a.eval y=v)
  (A:∀d,zW enc d b (zAU j key v)->zA (λc=>c≠b) w d->d.heap.size=w.heap.size->(∀a,d.cell? a=w.cell? a)->(∀a,d.frozen? a=w.frozen? a)->wpList P ops Q rest (a.put o.dst undef) d):
  wpList P ops Q (o::rest) a w:=by
 subst E;refine wpList_plain B λG g=> ?_
 obtain⟨d,f,n,q,s,u,z⟩:=h.store K D key (a.eval y);unfold Oper.wp;simp[execOp,i,C,F,f,Result.andThen];exact g _ _ (A d n q s u z)
def zF2(s:ByteArray)(w:World)(e:Ending)(w':World):Prop:=
 ∃A cap,e= .returned (.tuple #[.agg #[.slice A (zBB s).1.length cap],.int .i64 (zBB s).2.1,.int .i64 (zBB s).2.2])/\Facts (λb=>w.heap.size<=b) w' (.slice A (zBB s).1.length cap) (zBB s).1/\Bw w w'
theorem zHh(Z:zE)(w:World):Facts Z w (.slice none 0 0) []:=⟨⟨none,0,rfl,Nat.le_refl _,by omega,by simp,trivial⟩,by simp⟩
theorem zRs(s:ByteArray)(w:World)(hs:s.size<=140737488355328)(J:¬(zJ s).2.1=0):Calls prog 50 #[.string s] w (zF2 s w):=by
 have Q:=hid (λW=>zEs s W hs);have I:=hid (show zBB s=(if(zJ s).2.1≠0 then([],(zJ s).2.1,(zJ s).2.2)else match zFT s.size ((zJ s).1.length +1) [] (zJ s).1 with| .error e=>([],e.1,e.2)| .ok d=>(d,0,0)) from rfl);have ab:∀(T:Fn)(first m:Array Value)(w:World),(Instr.makeFunc T first m).run prog w= .ok (.func T first m) w:=λ_ _ _ _=>rfl
 have ac:= @run_makeMap prog;go_enter_defers func50,ntmps50
 go_wp2_with fail
 refine(Q.out _).mono ?_;rintro e y ⟨v,rfl,u,j⟩;obtain⟨A,m,rfl,x⟩:=zAt.of_own u;have X:=(((Blk.new w 24 #[.slice none 0 0]).alloc (.cells #[.int .i64 0] 32)).alloc (.cells #[.int .i64 0] 3)).below j (by simp;omega);have he:=((zBv w (.cells #[.slice none 0 0] 24) 32 #[.int .i64 0]).alloc (.cells #[.int .i64 0] 3)).below j (by simp);have C:=(Blk.new' ((w.alloc (.cells #[.slice none 0 0] 24)).alloc (.cells #[.int .i64 0] 32)) 3 #[.int .i64 0] (n:=w.heap.size+1+1) (by simp)).below j (by simp);have V:Bw w y:=(((zF w (.cells #[.slice none 0 0] 24)).alloc (by simp) (.cells #[.int .i64 0] 32)).alloc (by simp;omega) (.cells #[.int .i64 0] 3)).trans (j.mono (by simp;omega));have H:zAt (λb=>w.heap.size+1+1<b) y A m (zJ s).1:=x.mono λb h=>by simp at h;omega
 clear j u x Q;have e0:=he.at0;have ef:=he.frozen 0;have el:=he.lt;have a0:=C.at0;have af:=C.frozen 0;have al:=C.lt;have O:=hid X;have P:=hid he;have M:=hid C;have N:=hid V;have R:=hid H;clear X he C V H;obtain⟨L,U⟩:∃L,L=zJ s:=⟨_,rfl⟩;have o:=hid (λ(h:(zJ s).2.1=0)=>And.intro (zIe h) (zId h));rw[<-U]at I R o J⊢;clear U;obtain⟨ts,i,a⟩:=L;dsimp only at*;have z:=hid (I.out.trans (if_pos J));have aa:(i !=(0:Int))=true:=by simp[J]
 clear I o;have F:Blk ((y.setCell ⟨w.heap.size+1,0,none⟩ (.int .i64 i)).setCell ⟨w.heap.size+1+1,0,none⟩ (.int .i64 a)) w.heap.size 24 #[.slice none 0 0]:=(O.out.far (p:=⟨w.heap.size+1,0,none⟩) (by show w.heap.size≠w.heap.size+1;omega) _).far (p:=⟨w.heap.size+1+1,0,none⟩) (by show w.heap.size≠w.heap.size+1+1;omega) _;have G:Blk ((y.setCell ⟨w.heap.size+1,0,none⟩ (.int .i64 i)).setCell ⟨w.heap.size+1+1,0,none⟩ (.int .i64 a)) (w.heap.size+1) 32 #[.int .i64 i]:=(P.out.set_ 0 _).far (p:=⟨w.heap.size+1+1,0,none⟩) (by show w.heap.size+1≠w.heap.size+1+1;omega) _;have D:Blk ((y.setCell ⟨w.heap.size+1,0,none⟩ (.int .i64 i)).setCell ⟨w.heap.size+1+1,0,none⟩ (.int .i64 a)) (w.heap.size+1+1) 3 #[.int .i64 a]:=(M.out.far (p:=⟨w.heap.size+1,0,none⟩) (by show w.heap.size+1+1≠w.heap.size+1;omega) _).set_ 0 _;have E:Bw w ((y.setCell ⟨w.heap.size+1,0,none⟩ (.int .i64 i)).setCell ⟨w.heap.size+1+1,0,none⟩ (.int .i64 a)):=(N.out.setCell (by show w.heap.size<=w.heap.size+1;omega) _).setCell (by show w.heap.size<=w.heap.size+1+1;omega) _;go_upto_region 3 with fail
 clear e0 ef a0 af el al O P M N R;generalize (y.setCell ⟨w.heap.size+1,0,none⟩ (.int .i64 i)).setCell ⟨w.heap.size+1+1,0,none⟩ (.int .i64 a)=Y at*;refine zL 5 (λW=>Blk W w.heap.size 24 #[.slice none 0 0]/\Blk W (w.heap.size+1) 32 #[.int .i64 i]/\Blk W (w.heap.size+1+1) 3 #[.int .i64 a]/\Bw w W) (by kernel_rfl) ?_;have c:(λW:World=>Blk W w.heap.size 24 #[.slice none 0 0]/\Blk W (w.heap.size+1) 32 #[.int .i64 i]/\Blk W (w.heap.size+1+1) 3 #[.int .i64 a]/\Bw w W) Y.drew:=⟨F,G,D,E.drew⟩;generalize Y.drew=Z at*;clear F G D E
 (refine tkS 0 ?_ c ?_ ?_ (hQ:=by exact λ_ _ _ h=>zBD rfl (by decide) h);rotate_left;intro w g;have k:=g.1.at0;have q:=g.1.lt;clear g;go_simp;(try with_reducible rfl);simp only[nr])
 try simp only[nq]
 (refine tkS 1 ?_ c ?_ ?_ (hQ:=by exact λ_ _ _ h=>zBD rfl (by decide) h);rotate_left;intro w g;have k:=g.2.1.at0;have q:=g.2.1.lt;clear g;go_simp;(try with_reducible rfl);simp only[nr])
 try simp only[nq]
 (refine tkS 2 ?_ c ?_ ?_ (hQ:=by exact λ_ _ _ h=>zBD rfl (by decide) h);rotate_left;intro w g;have k:=g.2.2.1.at0;have q:=g.2.2.1.lt;clear g;go_simp;(try with_reducible rfl);simp only[nr])
 try simp only[nq]
 have k:=c.1.at0;have B:=c.1.frozen 0;have q:=c.1.lt;refine wS1 3 (λK t=> ?_);go_wp2_with fail
 have f:(λW:World=>Blk W w.heap.size 24 #[.slice none 0 0]/\Blk W (w.heap.size+1) 32 #[.int .i64 i]/\Blk W (w.heap.size+1+1) 3 #[.int .i64 a]/\Bw w W) (Z.setCell ⟨w.heap.size,0,none⟩ (.slice none 0 0)):=⟨c.1.set_ 0 (.slice none 0 0),c.2.1.far (p:=⟨w.heap.size,0,none⟩) (by show w.heap.size+1≠w.heap.size;omega) (.slice none 0 0),c.2.2.1.far (p:=⟨w.heap.size,0,none⟩) (by show w.heap.size+1+1≠w.heap.size;omega) (.slice none 0 0),c.2.2.2.setCell (by show w.heap.size<=w.heap.size;omega) _⟩;refine t _ _ (Or.inr f) ?_;clear t K c k B q;try simp only[nq]
 generalize Z.setCell ⟨w.heap.size,0,none⟩ (.slice none 0 0)=w4 at*;have c:=f;clear f;have k:=c.2.1.at0;have B:=c.2.1.frozen 0;have q:=c.2.1.lt;refine wS1 4 (λK t=> ?_);go_wp2_with fail
 have f:(λW:World=>Blk W w.heap.size 24 #[.slice none 0 0]/\Blk W (w.heap.size+1) 32 #[.int .i64 i]/\Blk W (w.heap.size+1+1) 3 #[.int .i64 a]/\Bw w W) (w4.setCell ⟨w.heap.size+1,0,none⟩ (.int .i64 i)):=⟨c.1.far (p:=⟨w.heap.size+1,0,none⟩) (by show w.heap.size≠w.heap.size+1;omega) (.int .i64 i),c.2.1.set_ 0 (.int .i64 i),c.2.2.1.far (p:=⟨w.heap.size+1,0,none⟩) (by show w.heap.size+1+1≠w.heap.size+1;omega) (.int .i64 i),c.2.2.2.setCell (by show w.heap.size<=w.heap.size+1;omega) _⟩;refine t _ _ (Or.inr f) ?_;clear t K c k B q;try simp only[nq]
 generalize w4.setCell ⟨w.heap.size+1,0,none⟩ (.int .i64 i)=w5 at*;have c:=f;clear f;have k:=c.2.2.1.at0;have B:=c.2.2.1.frozen 0;have q:=c.2.2.1.lt;refine wS1 5 (λK t=> ?_);go_wp2_with fail
 have f:(λW:World=>Blk W w.heap.size 24 #[.slice none 0 0]/\Blk W (w.heap.size+1) 32 #[.int .i64 i]/\Blk W (w.heap.size+1+1) 3 #[.int .i64 a]/\Bw w W) (w5.setCell ⟨w.heap.size+1+1,0,none⟩ (.int .i64 a)):=⟨c.1.far (p:=⟨w.heap.size+1+1,0,none⟩) (by show w.heap.size≠w.heap.size+1+1;omega) (.int .i64 a),c.2.1.far (p:=⟨w.heap.size+1+1,0,none⟩) (by show w.heap.size+1≠w.heap.size+1+1;omega) (.int .i64 a),c.2.2.1.set_ 0 (.int .i64 a),c.2.2.2.setCell (by show w.heap.size<=w.heap.size+1+1;omega) _⟩;refine t _ _ (Or.inr f) ?_;clear t K c k B q;try simp only[nq]
 generalize w5.setCell ⟨w.heap.size+1+1,0,none⟩ (.int .i64 a)=w6 at*;have c:=f;clear f;refine wSd ?_ _;go_wp2_with fail
 have k:=c.1.at0;have d1:=c.2.1.at0;have d2:=c.2.2.1.at0;refine⟨.tuple #[.agg #[.slice none 0 0],.int .i64 i,.int .i64 a],by simp[results,results50,go_sem,k,d1,d2],none,0,?_,?_,c.2.2.2⟩
 ·rw[z.out];rfl
 ·rw[z.out];exact zHh _ _
section
open Go
theorem zGm:mapsRowed prog=true:=by kernel_rfl
theorem zGn:(prog.stops==[])=true:=by kernel_rfl
theorem zGo:(prog.stopKnobs==[])=true:=by kernel_rfl
theorem zGp:prog.stopsHeard=true:=by kernel_rfl
theorem zGq:prog.mayEnter=true:=by kernel_rfl
theorem zGr:(Rows.tariffFirstRow.lifted==prog.liftsFinal)=true:=by kernel_rfl
theorem zIL:(Rows.tariffFirstRow.plainKeys==prog.plainKeys)=true:=by kernel_rfl
theorem zIM:(prog.make==some Rows.tariffFirstRow.make)=true:=by kernel_rfl
end
end Go.Proofs.YthpocbeoanipbaaGreatDoor
