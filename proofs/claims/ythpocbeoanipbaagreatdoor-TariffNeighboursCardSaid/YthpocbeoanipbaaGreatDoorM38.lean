/- Texts TG5 TG6 TG7 TG8. -/
import Derived.Test.YthpocbeoanipbaaGreatDoorM36
set_option linter.all false
namespace Go.Proofs.YthpocbeoanipbaaGreatDoor
open Go.RowKit Go.Proofs.Tryz
set_option maxHeartbeats 8000000
set_option maxRecDepth 100000
def zKY(w:World)(r:Option (List Int) × Int)(e:Ending)(w':World):Prop:=
 ∃v,e= .returned (.tuple #[v,.bool r.1.isSome,.int .i64 r.2])/\zK (λb=>w.heap.size<=b) w' v (r.1.getD [])/\Bw w w'
theorem zU5{Z:zE}{w:World}{d:List (zAI × Value)}{b:List (zAI × List zB)}(h:KvG Z w d b)(o:zAI):∃A a,(zg d o).getD (.agg #[.slice none 0 0])= .agg #[.slice A ((kvD b o).getD []).length a]/\z8 Z w (.slice A ((kvD b o).getD []).length a) ((kvD b o).getD []):=by
 rcases h.get o with⟨h1,h2⟩|⟨v,g,h1,h2,h3⟩
 ·rw[h1,h2];exact⟨none,0,rfl,zJz _ _⟩
 ·obtain⟨A,c,rfl,-⟩:=h3.open_;rw[h1,h2];exact⟨A,c,rfl,h3⟩
theorem zJA(Z:zE)(vd X:Value)(t:zY)(w:World)(h:zAA Z w vd X t)(U:∀b,Z b->b<w.heap.size)(hs:∀l∈t.lines,zG l.when_<=1000000)(s:zAD w.heap.size w):
  Calls prog 15 #[.agg #[vd,X]] w (zKY w (zBF t)):=by
 have HV:=hid (λW(c:Bw w W)=>zBX Z vd X t W (h.keep (.of_below c)) (λb a=>Nat.lt_of_lt_of_le (U b a) c.size) (λx hx=>Nat.le_trans (hs x hx) (by decide)));have H:=hid (λW(c:Bw w W)=>zMY Z vd X t W (h.keep (.of_below c)) (λb a=>Nat.lt_of_lt_of_le (U b a) c.size) hs ((s.on c).mono c.size));have ab:=hid (λW(c:Bw w W)=>(h.d.keep (.of_below c)).mono (Z':=λb=>b<W.heap.size) λb a=>Nat.lt_of_lt_of_le (U b a) c.size);have I:=hid s;have aa:=hid (λ(a:z7 t=false)=>(show zBF t=(none,1) from by unfold zBF;rw[if_pos a]));have m:=hid (λ(a:z7 t=true)(he:(ofS t).err ≠0)=>(show zBF t=(none,(ofS t).err) from by unfold zBF;rw[if_neg (by rw[a];decide),if_pos he]));have n:=hid (λ(a:z7 t=true)(he:(ofS t).err =0)=>(show zBF t=(zBC t.dom ((kvD (ofS t).wh zAi).getD []),0) from by unfold zBF;rw[if_neg (by rw[a];decide),if_neg (by simp[he])]));obtain⟨D,dcap,rfl,-⟩:=h.d.form;obtain⟨⟨LA,C,rfl,ah,ai,aj,T⟩⟩:=h.l;generalize zBF t=aw at*;generalize ofS t=V at*;generalize z7 t=vt at*;generalize t.dom=ds at*;generalize t.lines.length=nl at*;clear h s U hs T ah ai aj;have F:=hid (Blk.new w 27 #[.slice D ds.length dcap,.slice LA nl C]);have E:=hid (zF w (.cells #[.slice D ds.length dcap,.slice LA nl C] 27));go_enter func15,ntmps15
 go_wp2_with fail
 refine(HV.out _ E.out).mono ?_;rintro e w1 ⟨rfl,a⟩;have o:=hid (F.out.below a F.out.lt);have y:=hid (zD E.out a);clear a F E HV;cases vt
 ·go_wp2_with fail
  go_ret3;rw[aa.out (by first|exact rfl|trivial)];exact⟨_,rfl,zK.nil _ _,y.out⟩
 ·have hq:=o.out.lt;obtain⟨o0,al,o1,ao,ol⟩:=o.out.c2;go_wp2_with fail
  refine(H.out _ y.out).mono ?_;rintro e k ⟨R,M,vo,vp,rfl,L⟩;have ag:=hid (o.out.below L.be o.out.lt);have j:=hid (zD y.out L.be);have HG:=hid L;have ax:=L.rl;clear L o y H o0 o1 al ao ol;have m:=hid (m.out (by first|exact rfl|trivial));have n:=hid (n.out (by first|exact rfl|trivial));obtain⟨r0,ap,r1,aq,r2,ar,r3,au,r4,av,rl⟩:=HG.out.box.c5;by_cases he:V.err=0
  ·have n:=hid (n.out he);(have e1:((V.err:Int)==(0:Int))=true:=by simp[he]);(go_upto_region 6 with fail);obtain⟨kv,hm,O⟩:=HG.out.map;obtain⟨J,u,Q,P⟩:=zU5 O zAi;have ae:=hid (P.mono (Z':=λb=>b<k.heap.size) λb a=>a.2.1);have G:=hid hm;have af:=hid Q;clear hm O Q P;generalize (kvD V.wh zAi).getD []=g at*
   have ad:=hid (λ(W:World)(c:zA (λ_=>True) k W)=>(show(Instr.lookup 75 (.map (some M)) (.agg #[.string ⟨#[]⟩,.bool false]) false).run prog W= .ok (.agg #[.slice J g.length u]) W from by
    have ak:zW zE2 W M kv:=G.out.of_block (c.block M G.out.lt trivial);have:=ak.look zGK (t:=75) (e:=83) underlying75 (Tryz.zeroDia W) zAi false;rw[af.out]at this
    exact this))
   have HC:=hid (λ(W:World)(c:zA (λ_=>True) k W)=>(show W.cell? ⟨R,3,none⟩=some (.map (some M))/\R<W.heap.size/\W.cell? ⟨w.heap.size,0,none⟩=some (.slice D ds.length dcap)/\w.heap.size<W.heap.size from by
    have h1:=HG.out.box.keep c trivial;have h2:=ag.out.keep c trivial
    exact⟨h1.at3,h1.lt,h2.at0,h2.lt⟩))
   have ac:=hid (λ(W:World)(c:zA (λ_=>True) k W)=>(show Calls prog 39 #[.agg #[.slice J g.length u],.agg #[.slice D ds.length dcap]] W (zJo W (zBC ds g)) from
    zIp (λb=>b<W.heap.size) _ _ g ds W ((ae.out.keep (c.mono λ_ _ _=>trivial)).mono λb a=>Nat.lt_of_lt_of_le a c.size) (ab.out W (zD j.out c.below)) ((I.out.on (zD j.out c.below)).mono (zD j.out c.below).size)))
   generalize zBC ds g=LE at*;clear r0 r1 r2 r3 r4 ap aq ar au av rl e1;refine zL 12 (λW=>zA (λ_=>True) k W) (by kernel_rfl) ?_;have i:(λW:World=>zA (λ_=>True) k W) k.drew:=(zA.refl _ _).drew;have z:zA (λ_=>True) k k.drew:=(zA.refl _ _).drew;generalize k.drew=x0 at*
   (refine tkQ 0 i ?_;simp only[nr])
   try simp only[nq]
   (refine tkQ 1 i ?_;simp only[nr])
   try simp only[nq]
   (refine tkQ 2 i ?_;simp only[nr])
   try simp only[nq]
   (refine tkS 3 ?_ i ?_ ?_;rotate_left;intro w f;obtain⟨r3,rl,t0,tl⟩:=HC.out _ f;clear f;go_simp;(try with_reducible rfl);simp only[nr])
   try simp only[nq]
   (refine tkQ 4 i ?_;simp only[nr])
   try simp only[nq]
   (refine tkS 5 ?_ i ?_ ?_;rotate_left;intro w f;have ay:=ad.out _ f;clear f;go_simp;(try with_reducible rfl);simp only[nr])
   (try simp only[nr])
   (refine tkQ 6 i ?_;simp only[nr])
   try simp only[nq]
   (refine tkS 7 ?_ i ?_ ?_;rotate_left;intro w f;obtain⟨r3,rl,t0,tl⟩:=HC.out _ f;clear f;go_simp;(try with_reducible rfl);simp only[nr])
   (try simp only[nq]);clear i;refine wS1 8 (λK B=> ?_);(go_wp2_with fail);refine(ac.out x0 z).mono ?_;rintro e x1 ⟨v,rfl,q,a⟩;have A:zA (λ_=>True) k x1:=z.trans (.of_below a);have HI:=hid (q.mono (Z':=λb=>w.heap.size<=b) λb N=>by have:=j.out.size;have:=z.size;have N:x0.heap.size<=b:=N;omega);have Y:=hid (zD j.out A.below);refine B _ _ (Or.inr A) ?_;clear B K q a
   (try simp only[nr])
   have i:(λW:World=>zA (λ_=>True) k W) x1:=A
   (refine tkQ 9 i ?_;simp only[nr])
   (try simp only[nr])
   (refine tkQ 10 i ?_;simp only[nr])
   (try simp only[nr])
   (refine tkQ 11 i ?_;simp only[nr])
   (try simp only[nr])
   clear i;refine wS1 12 (λK B=> ?_);(go_wp2_with fail);refine B _ _ (Or.inl rfl) ?_;clear B K;(try simp only[nq]);refine wS1 13 (λK B=> ?_);(go_wp2_with fail);refine B _ _ (Or.inl rfl) ?_;clear B K;(try simp only[nq]);refine wSd ?_ _;clear z A;(go_wp2_with fail);go_ret3;rw[n.out];exact⟨v,rfl,HI.out,Y.out⟩
  ·have m:=hid (m.out he);(have e1:((V.err:Int)==(0:Int))=false:=by simp[he]);(go_upto_region 5 with fail);go_quiet(fail);(go_wp2_with fail);go_ret3;rw[m.out];exact⟨_,rfl,zK.nil _ _,((zA.of_below (Z:=λ_=>True) j.out).drewN _).below⟩
def zPT(w:World)(r:List Int × Int)(e:Ending)(w':World):Prop:=
 ∃v,e= .returned (.tuple #[v,.int .i64 r.2])/\zK (λb=>w.heap.size<=b) w' v r.1/\Bw w w'
theorem zKx(ds:List zC)(g:List zB):∀(l:List (List zB))(i:Nat),zAL ds (l++[g]) i=zAL ds l i++(if(zBC ds g).isSome then[]else[((i+l.length:Nat):Int)])
 |[],i=>by simp[zAL]
 |a::l,i=>by
  have ih:=zKx ds g l (i+1);simp only[List.cons_append,zAL,ih,List.length_cons,show i+1+l.length=i+(l.length+1) from by omega];split<;>simp
theorem zM3(ds:List zC):∀(l:List (List zB))(i:Nat),(zAL ds l i).length <=l.length/\∀x∈zAL ds l i,0<=x/\x<((i+l.length:Nat):Int)
 |[],i=>by simp[zAL]
 |a::l,i=>by
  obtain⟨d,c⟩:=zM3 ds l (i+1);unfold zAL;split
  ·exact⟨by simp;omega,λx b=>by have:=c x b;simp only[List.length_cons];omega⟩
  ·refine⟨by simp;omega,λx b=> ?_⟩;rcases List.mem_cons.1 b with e|b
   ·subst e;simp only[List.length_cons];omega
   ·have:=c x b;simp only[List.length_cons];omega
theorem zPU(ds:List zC)(ls:List zI):(zBc ds ls).parts.length =ls.length:=by
 have c:∀(ls:List zI)(b:zD7),(ls.foldl (stepG ds) b).parts.length =b.parts.length+ls.length:=by
  intro ls
  induction ls with
  |nil=>intro b;simp
  |cons a l ih=>intro b;rw[List.foldl_cons,ih];simp[stepG];omega
 unfold zBc;rw[c];simp[zHI]
theorem zT7(t:zY):(ofS t).parts.length =t.lines.length:=by show(zBc t.dom t.lines).parts.length =_;exact zPU _ _
theorem zPV{Z:zE}{w:World}:∀{parts:List (List zB)}{csl:List (List Value)},zc (GcR Z w) 1 parts csl->∀k,(b:k<parts.length)->∃v,csl.flatten[k]? =some v/\z8 Z w v parts[k]
 |g::gs,c::cs,h,0,_=>by
  obtain⟨⟨⟨v,rfl,d⟩,_⟩,_⟩:=h;exact⟨v,by simp,d⟩
 |g::gs,c::cs,h,k+1,b=>by
  obtain⟨⟨⟨v,rfl,d⟩,_⟩,e⟩:=h;obtain⟨u,f,a⟩:=zPV e k (by simpa using b);exact⟨u,by simpa using f,by simpa using a⟩
theorem zKD(Z:zE)(vd vl:Value)(t:zY)(w:World)(h:zAA Z w vd vl t)(hz:∀b,Z b->b<w.heap.size)(hs:∀l∈t.lines,zG l.when_<=1000000)(a3:t.lines.length<=1000000)(F:zAD w.heap.size w):
  Calls prog 17 #[.agg #[vd,vl]] w (zPT w (zBe t)):=by
 have HV:=hid (λW(o:Bw w W)=>zBX Z vd vl t W (h.keep (.of_below o)) (λb a=>Nat.lt_of_lt_of_le (hz b a) o.size) (λx hx=>Nat.le_trans (hs x hx) (by decide)));have ac:=hid (λW(o:Bw w W)=>zMY Z vd vl t W (h.keep (.of_below o)) (λb a=>Nat.lt_of_lt_of_le (hz b a) o.size) hs ((F.on o).mono o.size));have au:=hid (λW(o:Bw w W)=>(h.d.keep (.of_below o)).mono (Z':=λb=>b<W.heap.size) λb a=>Nat.lt_of_lt_of_le (hz b a) o.size);have af:=hid F;have aq:=hid (λ(a:z7 t=false)=>(show zBe t=([],1) from by unfold zBe;rw[if_pos a]));have z:=hid (λ(a:z7 t=true)(he:(ofS t).err ≠0)=>(show zBe t=([],(ofS t).err) from by unfold zBe;rw[if_neg (by rw[a];decide),if_pos he]));have B:=hid (λ(a:z7 t=true)(he:(ofS t).err =0)=>(show zBe t=(zAL t.dom (ofS t).parts 0,0) from by unfold zBe;rw[if_neg (by rw[a];decide),if_neg (by simp[he])]));obtain⟨D,dcap,rfl,-⟩:=h.d.form;obtain⟨⟨LA,L,rfl,a0,a1,a2,al⟩⟩:=h.l;have ay:=hid (show(ofS t).parts.length <=1000000 from by rw[zT7];exact a3);generalize zBe t=bf at*;generalize ofS t=f at*;generalize z7 t=vt at*;generalize t.dom=ds at*;generalize t.lines.length=nl at*;clear h F hz hs al a0 a1 a2;have Q:=hid (Blk.new w 27 #[.slice D ds.length dcap,.slice LA nl L]);have O:=hid (zF w (.cells #[.slice D ds.length dcap,.slice LA nl L] 27));go_enter func17,ntmps17
 go_wp2_with fail
 refine(HV.out _ O.out).mono ?_;rintro e w1 ⟨rfl,a⟩;have C:=hid (Q.out.below a Q.out.lt);have H:=hid (zD O.out a);clear a Q O HV;cases vt
 ·go_wp2_with fail
  go_ret2;rw[aq.out (by first|exact rfl|trivial)];exact⟨_,rfl,zK.nil _ _,H.out⟩
 ·have hq:=C.out.lt;obtain⟨o0,U,o1,V,ol⟩:=C.out.c2;go_wp2_with fail
  refine(ac.out _ H.out).mono ?_;rintro e G ⟨R,M,vo,vp,rfl,hG⟩;have ad:=hid (C.out.below hG.be C.out.lt);have u:=hid (zD H.out hG.be);have HG:=hid hG;have bh:=hG.rl;clear hG C H ac o0 o1 U V ol;have z:=hid (z.out (by first|exact rfl|trivial));have B:=hid (B.out (by first|exact rfl|trivial));obtain⟨r0,a8,r1,a9,r2,ba,r3,bb,r4,bc,rl⟩:=HG.out.box.c5;by_cases he:f.err=0
  ·have B:=hid (B.out he);(have e1:((f.err:Int)==(0:Int))=true:=by simp[he]);obtain⟨bg,hp,ai⟩:=HG.out.parts;have HP:=hid hp;have ar:=hid ai
   have av:=hid (λ(W:World)(o:Bw G W)(v:Value) g(hg:z8 (Gy w1 G R M (λ_=>False) vo vp) G v g)=>(show Calls prog 39 #[.agg #[v],.agg #[.slice D ds.length dcap]] W (zJo W (zBC ds g)) from
    zIp (λb=>b<W.heap.size) _ _ g ds W (((hg.mono (Z':=λb=>b<G.heap.size) λb a=>a.2.1).keep (.of_below o)).mono λb a=>Nat.lt_of_lt_of_le a o.size) (au.out W (zD u.out o)) ((af.out.on (zD u.out o)).mono (zD u.out o).size)))
   (obtain⟨PA,N,a6⟩:∃PA N,vp= .slice PA f.parts.length N:=by obtain⟨A,c,e,-⟩:=Row.of_own hp (by decide);exact⟨A,c,e⟩);subst a6;have bk:=ay.out;clear hp ai;have bl:w.heap.size<=G.heap.size:=u.out.size;have Y:=hid (show zAL ds (f.parts.take 0) 0=[] from by simp[zAL]);have ap:=hid (show f.parts.take f.parts.length=f.parts from List.take_length);(go_wp2_with fail);go_loopw[5,29] (λdv i wr=>∃(k:Nat)(A:Option Addr)(c n:Nat),k<=f.parts.length/\i= .int .i64 k/\dv= .slice A n c/\n<=k/\Hid (n=(zAL ds (f.parts.take k) 0).length)/\Hid (wr.ownsRow G.heap.size 3 1 (.slice A n c) n ((zAL ds (f.parts.take k) 0).map (.int .i64)))/\Hid (Bw G wr)) (λ_ i _=>f.parts.length-(intOf i).toNat);case atStart=>exact⟨0,none,0,0,Nat.zero_le _,rfl,rfl,Nat.le_refl _,hid (by rw[Y.out];rfl),hid (by rw[Y.out];exact zEr _ _ _ _),hid (Below.refl _ _)⟩
   case round=>
    obtain⟨k,A,c,n,hk,rfl,rfl,bj,HN,HO,y⟩:=hrel;clear r0 r1 r2 r3 r4 a8 a9 ba bb bc rl e1;have a7:=y.out.size;by_cases T:k<f.parts.length
    ·obtain⟨v,hv,ak⟩:=zPV ar.out k T;obtain⟨q,hq⟩:∃q,f.parts.length=q+1:=⟨f.parts.length-1,by omega⟩;obtain⟨pb,bn,a5⟩:=zAm (by have:=HP.out;rw[hq]at this;exact this);injection a5 with hpe1 hpe2 hpe3;subst hpe1;clear hpe2 hpe3 hq q;have a4:=(HP.out.lt pb rfl).2;have c0:wr.cell? ⟨pb,k,none⟩=some v:=(y.out.cell (p:=⟨pb,k,none⟩) a4).trans (zE5 HP.out hv);have az:=lt_of_cell c0;have bi:((k:Nat):Int)<(f.parts.length:Int):=by omega
     have E:=hid (show zAL ds (f.parts.take (k+1)) 0=zAL ds (f.parts.take k) 0++(if(zBC ds f.parts[k]).isSome then[]else[((k:Nat):Int)]) from by
      rw[List.take_succ_eq_append_getElem T,zKx,List.length_take,Nat.zero_add,Nat.min_eq_left (Nat.le_of_lt T)])
     have aa:=hid ak;clear hv ak;generalize f.parts[k]=g at*;obtain⟨VA,m,rfl,-⟩:=aa.out.open_;have K:Bw G (wr.alloc (.cells #[.slice VA g.length m] 83)):=y.out.alloc a7 _;have X:=hid (av.out _ K (.slice VA g.length m) g aa.out);have ae:=hid (ad.out.below K ad.out.lt);have ab:=hid (HO.out.alloc (.cells #[.slice VA g.length m] 83));have P:=hid K;(go_upto_region 10 with fail);have ag:=hid (Blk.new wr 83 #[.slice VA g.length m]);clear c0 K az;generalize wr.alloc (.cells #[.slice VA g.length m] 83)=w4 at*;generalize zBC ds g=LE at*;obtain⟨x0,bd,xl⟩:=ag.out.c1;obtain⟨o0,U,o1,V,ol⟩:=ae.out.c2;(go_wp2_with fail);refine X.out.mono ?_;rintro e w5 ⟨v5,rfl,-,a⟩;have J:=hid (own_below ab.out a);have I:=hid (P.out.trans (a.mono P.out.size));clear a X ab P ae ag x0 bd xl o0 o1 U V ol HO y;have bm:=I.out.size;obtain⟨b,a⟩:∃b,b=LE.isSome:=⟨_,rfl⟩;rw[<-a]at E⊢;clear a;cases b
     ·have j:=hid (show zAL ds (f.parts.take (k+1)) 0=zAL ds (f.parts.take k) 0++[((k:Nat):Int)] from by rw[E.out];simp);clear E;go_wp2_with(at_builtin;refine z6 rfl (.tmp 43) (.tmp 45) _ rfl underlying28 Tryz.eInt rfl (J.out.alloc _) rfl (news:=[.int .i64 k]) rfl (one_cell (by simp)) (by simp[Value.oneCell']) (by unfold maxLen;omega) (by omega) (by simp;omega) ?_;intro v6 w6 s aj ah;obtain⟨OA,oc,rfl,-⟩:=Row.of_own s (by decide));have ax:=hid (show w6.ownsRow G.heap.size 3 1 (.slice OA (n+1) oc) (n+1) ((zAL ds (f.parts.take (k+1)) 0).map (.int .i64)) from by rw[j.out,List.map_append];exact s);have ao:=hid (ze (I.out.alloc (by omega) _) (J.out.alloc _) aj (by simp;omega) (Nat.le_refl _));have aw:=hid (show n+1=(zAL ds (f.parts.take (k+1)) 0).length from by rw[j.out,List.length_append,<-HN.out];rfl);clear s aj ah J I j;(go_wp2_with fail);go_roundw;(case rel=>exact⟨k+1,OA,oc,n+1,by omega,by go_num,rfl,by omega,aw,ax,ao⟩);case measure=>simp[intOf];omega
     ·have j:=hid (show zAL ds (f.parts.take (k+1)) 0=zAL ds (f.parts.take k) 0 from by rw[E.out];simp);clear E;(go_wp2_with fail);go_roundw;(case rel=>exact⟨k+1,A,c,n,by omega,by go_num,rfl,by omega,hid (by rw[j.out];exact HN.out),hid (by rw[j.out];exact J.out),I⟩);case measure=>simp[intOf];omega
    ·(obtain rfl:k=f.parts.length:=by omega);rw[ap.out]at HO HN;(go_wp2_with fail);go_ret2;rw[B.out];have hm:=zM3 ds f.parts 0;refine⟨_,rfl,(zK.of_own HO.out (λx hx=>by have:=hm.2 x hx;unfold I64;omega) (by have:=hm.1;omega)).mono λb a=>by have a:G.heap.size<=b:=a;omega,zD u.out y.out⟩
  ·have z:=hid (z.out he);(have e1:((f.err:Int)==(0:Int))=false:=by simp[he]);(go_upto_region 5 with fail);go_quiet(fail);(go_wp2_with fail);go_ret2;rw[z.out];exact⟨_,rfl,zK.nil _ _,((zA.of_below (Z:=λ_=>True) u.out).drewN _).below⟩
section
variable {w00 w0 wm w x:World} {R M R2 M2:Nat} {E E' X Z0:zE} {vd vd2 vo vp vo2 vp2:Value} {err er2 e2:Int} {r s:zD7} {outs:List zAI} {wh:List (zAI × List zB)} {parts:List (List zB)} {L L':List (Value × List zB)} {D:Option Addr} {dcap:Nat} {ds:List zC}
theorem RgY.rebase(h:RgY w0 w R M E vd vo vp err outs wh parts L)(a:Bw w00 w0)(f:∀b,E' b->E b\/(w00.heap.size<=b/\b<w0.heap.size)):RgY w00 w R M E' vd vo vp err outs wh parts L:=by
 have q:=a.size;have s:=h.be.size;have c:∀b,Gy w0 w R M E vo vp b->Gy w00 w R M E' vo vp b:=λb d=>⟨by have:=d.1;omega,d.2.1,d.2.2.1,d.2.2.2.1,λe=>(f b e).elim d.2.2.2.2.1 (λe=>by have:=d.1;omega),d.2.2.2.2.2⟩
 obtain⟨y,x,n⟩:=h.map;obtain⟨j,i,he⟩:=h.parts;have u:=h.lim
 refine⟨h.box,zFk h.outs q,⟨y,x,n.imp λv g o=>o.mono c⟩,⟨j,zFk i q,he.imp λz g t=>by obtain⟨v,e,o⟩:=t;exact⟨v,e,o.mono c⟩⟩,λp i=>(h.loc p i).mono c,⟨by omega,by omega,u.2.2⟩,
  λb a=> ?_,λb a=>⟨(h.s1 b a).1,(h.s1 b a).2.1,λe=>(f b e).elim (h.s1 b a).2.2 λe=>by have:=(h.outs.lt b a).1;omega⟩,λb a=>⟨(h.s2 b a).1,(h.s2 b a).2.1,λe=>(f b e).elim (h.s2 b a).2.2 λe=>by have:=(i.lt b a).1;omega⟩,h.s3,a.trans (h.be.mono q)⟩
 rcases f b a with k|k
 ·have m:=h.ex b k;exact⟨by omega,m.2.1,m.2.2.1,m.2.2.2⟩
 ·exact⟨k.1,by omega,by omega,by omega⟩
structure zCE (w0 wm w:World) (R M R2 M2:Nat) (X:zE) (vd vd2 vo vp vo2 vp2:Value) (err er2:Int) (r s:zD7) (L:List (Value × List zB)):Prop where
 a:RgY w0 w R M (λb=>b=R2\/X b) vd vo vp err r.outs r.wh r.parts L
 b:RgY w0 w R2 M2 (λb=>(w0.heap.size<=b/\b<wm.heap.size)\/X b) vd2 vo2 vp2 er2 s.outs s.wh s.parts []
 r:R<wm.heap.size/\M<wm.heap.size
 o:∀b,vo.ownBlock=some b->b<wm.heap.size
 p:∀b,vp.ownBlock=some b->b<wm.heap.size
theorem zCE.alloc(h:zCE w0 wm w R M R2 M2 X vd vd2 vo vp vo2 vp2 err er2 r s L)(o:Obj):zCE w0 wm (w.alloc o) R M R2 M2 (λb=>X b\/b=w.heap.size) vd vd2 vo vp vo2 vp2 err er2 r s L:=
 ⟨(h.a.alloc o).less λb c=>c.elim (λe=> .inl (.inl e)) (λe=>e.elim (λe=> .inl (.inr e)) .inr),(h.b.alloc o).less λb c=>c.elim (λe=> .inl (.inl e)) (λe=>e.elim (λe=> .inl (.inr e)) .inr),h.r,h.o,h.p⟩
theorem zCE.below(h:zCE w0 wm w R M R2 M2 X vd vd2 vo vp vo2 vp2 err er2 r s L)(c:Bw w x):zCE w0 wm x R M R2 M2 X vd vd2 vo vp vo2 vp2 err er2 r s L:=⟨h.a.below c,h.b.below c,h.r,h.o,h.p⟩
theorem zCE.drew(h:zCE w0 wm w R M R2 M2 X vd vd2 vo vp vo2 vp2 err er2 r s L):zCE w0 wm w.drew R M R2 M2 X vd vd2 vo vp vo2 vp2 err er2 r s L:=h.below (Below.refl _ _).drew
theorem zCE.less(h:zCE w0 wm w R M R2 M2 X vd vd2 vo vp vo2 vp2 err er2 r s L){d:zE}(e:∀b,d b->X b):zCE w0 wm w R M R2 M2 d vd vd2 vo vp vo2 vp2 err er2 r s L:=⟨h.a.less λb c=>c.imp id (e b),h.b.less λb c=>c.imp id (e b),h.r,h.o,h.p⟩
theorem zCE.setX(h:zCE w0 wm w R M R2 M2 X vd vd2 vo vp vo2 vp2 err er2 r s L){K:Nat}(c:X K)(i:Nat)(v:Value):zCE w0 wm (w.setCell ⟨K,i,none⟩ v) R M R2 M2 X vd vd2 vo vp vo2 vp2 err er2 r s L:=⟨h.a.setBox (.inr c) i v,h.b.setBox (.inr c) i v,h.r,h.o,h.p⟩
theorem zCE.sub(h:zCE w0 wm w R M R2 M2 X vd vd2 vo vp vo2 vp2 err er2 r s L)(c:∀p∈L',p∈L):zCE w0 wm w R M R2 M2 X vd vd2 vo vp vo2 vp2 err er2 r s L':=⟨h.a.sub c,h.b,h.r,h.o,h.p⟩
theorem zCE.callA(h:zCE w0 wm w R M R2 M2 X vd vd2 vo vp vo2 vp2 err er2 r s L)(d:RgY w0 x R M (λb=>b=R2\/X b) vd vo vp e2 r.outs r.wh r.parts L')(e:zA (λc=>c≠R) w x):zCE w0 wm x R M R2 M2 X vd vd2 vo vp vo2 vp2 e2 er2 r s L':=
 ⟨d,h.b.setE (.inl ⟨h.a.lim.1,h.r.1⟩) e,h.r,h.o,h.p⟩
theorem zCE.callB(h:zCE w0 wm w R M R2 M2 X vd vd2 vo vp vo2 vp2 err er2 r s L){v:Value}{g:List zB}(f:RgY w0 x R2 M2 (λb=>(w0.heap.size<=b/\b<wm.heap.size)\/X b) vd2 vo2 vp2 e2 s.outs s.wh s.parts [(v,g)])(i:zA (λc=>c≠R2) w x):zCE w0 wm x R M R2 M2 X vd vd2 vo vp vo2 vp2 err e2 r s ((v,g)::L):=by
 have k:=h.a.lim;refine⟨(h.a.setE (.inl rfl) i).add ((f.loc _ (.head _)).mono λb d=>⟨d.1,d.2.1,λe=> ?_,λe=> ?_,λe=> ?_,λe=> ?_,λe=> ?_⟩),f.sub (λp j=>by simp at j),h.r,h.o,h.p⟩
 ·exact d.2.2.2.2.1 (.inl ⟨d.1,e▸h.r.1⟩)
 ·exact d.2.2.2.2.1 (.inl ⟨d.1,e▸h.r.2⟩)
 ·exact e.elim d.2.2.1 λe=>d.2.2.2.2.1 (.inr e)
 ·exact d.2.2.2.2.1 (.inl ⟨d.1,h.o b e⟩)
 ·exact d.2.2.2.2.1 (.inl ⟨d.1,h.p b e⟩)
theorem zCE.start{w h j g:World}(d:Bw g w)(f:RgY w h R M (λ_=>False) vd vo vp err r.outs r.wh r.parts [])(a:RgY h j R2 M2 (λ_=>False) vd2 vo2 vp2 er2 s.outs s.wh s.parts []):
  zCE g h j R M R2 M2 (λ_=>False) vd vd2 vo vp vo2 vp2 err er2 r s []:=by
 have m:=d.trans (f.be.mono d.size);have o:=a.lim;have c:RgY g h R M (λ_=>False) vd vo vp err r.outs r.wh r.parts []:=f.rebase d λb a=>a.elim
 refine⟨?_,(a.rebase (w00:=g) m λb a=>a.elim .inr λe=>e.elim),⟨f.rl,f.ml⟩,λb e=>(f.outs.lt b e).2,λb e=>by obtain⟨k,n,_⟩:=f.parts;exact(n.lt b e).2⟩;exact c.gen (K:=R) (.of_below a.be) (.inl rfl) (λb i=>i.elim (λe=> .inr ⟨by omega,by rw[e];exact a.rl⟩) λe=>e.elim) (c.box.below a.be c.rl)
end
theorem zU6{ds:List zC}(b:zN ds=true)(a:List (zAI × List zB))(o:zAI):(atE ds 0 a o).2=0:=by
 unfold atE
 cases kvD a o with
 |some g=>rfl
 |none=>unfold zA6;rw[if_neg (by simp),zNe b]
theorem zQc:∀(l:List zAI)(k:Nat)(a:k<l.length),(l.flatMap zEm)[k*2]? =some (.string l[k].1)/\(l.flatMap zEm)[k*2+1]? =some (.bool l[k].2)
 |o::l,0,_=>by simp[zEm]
 |o::l,k+1,h=>by
  have ih:=zQc l k (by simpa using h);rw[List.flatMap_cons,show(k+1)*2=k*2+2 from by omega,show k*2+2+1=k*2+1+2 from by omega];exact ih
def zU7(w wm:World)(R M R2 M2 T:Nat)(vd vd2 vl vo vp vo2 vp2:Value)(r s:zD7)(st:List zB × Int)(wr:World):Prop:=
 ∃TA tcap,zCE w wm wr R M R2 M2 (λb=>b=T) vd vd2 vo vp vo2 vp2 st.2 0 r s [(.slice TA st.1.length tcap,st.1)]/\Blk wr T 83 #[.slice TA st.1.length tcap]/\Blk wr w.heap.size 27 #[vd,vl]
theorem zDn(Z Z':zE)(vd vl az bo:Value)(t u:zY)(w:World)(h:zAA Z w vd vl t)(h2:zAA Z' w az bo u)(hz:∀b,Z b->b<w.heap.size)(bg:∀b,Z' b->b<w.heap.size)(hs:∀l∈t.lines,zG l.when_<=1000000)(cr:∀l∈u.lines,zG l.when_<=1000000)(O:zAD w.heap.size w):
  Calls prog 18 #[.agg #[vd,vl],.agg #[az,bo]] w (zKY w (zS t u)):=by
 have HV:=hid (λW(H:Bw w W)=>zBX Z vd vl t W (h.keep (.of_below H)) (λb j=>Nat.lt_of_lt_of_le (hz b j) H.size) (λx hx=>Nat.le_trans (hs x hx) (by decide)));have dc:=hid (λW(H:Bw w W)=>zBX Z' az bo u W (h2.keep (.of_below H)) (λb j=>Nat.lt_of_lt_of_le (bg b j) H.size) (λx hx=>Nat.le_trans (cr x hx) (by decide)));have cx:=hid (λW(H:Bw w W)=>zPi Z Z' vd az t.dom u.dom W (h.d.keep (.of_below H)) (h2.d.keep (.of_below H)));have cz:=hid (λW(H:Bw w W)=>zMY Z vd vl t W (h.keep (.of_below H)) (λb j=>Nat.lt_of_lt_of_le (hz b j) H.size) hs ((O.on H).mono H.size));have bp:=hid (λW(H:Bw w W)=>zMY Z' az bo u W (h2.keep (.of_below H)) (λb j=>Nat.lt_of_lt_of_le (bg b j) H.size) cr ((O.on H).mono H.size));have Q:=hid (zKA.mk h.d hz O);have dp:=hid (zKA.mk h2.d bg O);have a2:=hid (λ(j:z7 t=false\/z7 u=false\/t.dom≠u.dom)=>(show zS t u=(none,1) from by unfold zS;rw[if_pos j]));have ad:=hid (λ(j:¬(z7 t=false\/z7 u=false\/t.dom≠u.dom))(he:(ofS t).err ≠0\/(ofS u).err ≠0)=>(show zS t u=(none,max (ofS t).err (ofS u).err) from by unfold zS;rw[if_neg j,if_pos he]));have ae:=hid (λ(j:¬(z7 t=false\/z7 u=false\/t.dom≠u.dom))(he:¬((ofS t).err ≠0\/(ofS u).err ≠0))(hl:(zD8 t.dom (ofS t) (ofS u)).2≠0)=>(show zS t u=(none,(zD8 t.dom (ofS t) (ofS u)).2) from by unfold zS;rw[if_neg j,if_neg he,if_pos hl]));have af:=hid (λ(j:¬(z7 t=false\/z7 u=false\/t.dom≠u.dom))(he:¬((ofS t).err ≠0\/(ofS u).err ≠0))(hl:¬(zD8 t.dom (ofS t) (ofS u)).2≠0)=>(show zS t u=(zBC t.dom (zD8 t.dom (ofS t) (ofS u)).1,0) from by unfold zS;rw[if_neg j,if_neg he,if_neg hl]));have dd:=hid (λ(hv:z7 t=true)=>(show zN t.dom=true from by unfold z7 at hv;simp only[Bool.and_eq_true]at hv;exact hv.1.1.1));obtain⟨D,dcap,rfl,-⟩:=h.d.form;obtain⟨D2,m,rfl,-⟩:=h2.d.form;obtain⟨⟨LA,C,rfl,-⟩⟩:=h.l;obtain⟨⟨ao,I,rfl,-⟩⟩:=h2.l;generalize zS t u=eh at*;generalize ofS t=r at*;generalize ofS u=s at*;generalize z7 t=vt at*;generalize z7 u=vu at*;generalize t.dom=ds at*;generalize u.dom=aa at*;generalize t.lines.length=nl at*;generalize u.lines.length=ax at*;clear h h2 O hz bg hs cr;have a4:=hid ((Blk.new w 27 #[.slice D ds.length dcap,.slice LA nl C]).alloc (.cells #[.slice D2 aa.length m,.slice ao ax I] 27));have cg:=hid (Blk.new' (w.alloc (.cells #[.slice D ds.length dcap,.slice LA nl C] 27)) 27 #[.slice D2 aa.length m,.slice ao ax I] (n:=w.heap.size+1) (by simp));have b7:=hid ((zF w (.cells #[.slice D ds.length dcap,.slice LA nl C] 27)).alloc (by simp) (.cells #[.slice D2 aa.length m,.slice ao ax I] 27));go_enter func18,ntmps18
 go_upto_region 1 with fail
 generalize (w.alloc (.cells #[.slice D ds.length dcap,.slice LA nl C] 27)).alloc (.cells #[.slice D2 aa.length m,.slice ao ax I] 27)=w0 at*;obtain⟨o0,bh,o1,bi,ol⟩:=a4.out.c2;go_wp2_with fail
 refine(HV.out _ b7.out).mono ?_;rintro e w1 ⟨rfl,j⟩;have a5:=hid (a4.out.below j a4.out.lt);have a9:=hid (cg.out.below j cg.out.lt);have a0:=hid (zD b7.out j);clear j a4 cg b7 HV o0 o1 bh bi ol;cases vt
 ·go_wp2_with fail
  go_ret3;rw[a2.out (.inl (by first|exact rfl|trivial))];exact⟨_,rfl,zK.nil _ _,a0.out⟩
 ·have hq:=a5.out.lt;obtain⟨q0,ct,q1,cu,ql⟩:=a9.out.c2;go_wp2_with fail
  refine(dc.out _ a0.out).mono ?_;rintro e w2 ⟨rfl,j⟩;have ag:=hid (a5.out.below j a5.out.lt);have ba:=hid (a9.out.below j a9.out.lt);have a1:=hid (zD a0.out j);clear j a5 a9 a0 dc q0 q1 ct cu ql;cases vu
  ·(go_wp2_with fail);go_ret3;rw[a2.out (.inr (.inl (by first|exact rfl|trivial)))];exact⟨_,rfl,zK.nil _ _,a1.out⟩
  ·have er:=ag.out.lt;obtain⟨o0,bh,o1,bi,ol⟩:=ag.out.c2;obtain⟨q0,ct,q1,cu,ql⟩:=ba.out.c2;(go_wp2_with fail);refine(cx.out _ a1.out).mono ?_;rintro e w3 ⟨rfl,j⟩;have a6:=hid (ag.out.below j ag.out.lt);have db:=hid (ba.out.below j ba.out.lt);have ab:=hid (zD a1.out j);clear j ag ba a1 cx q0 q1 ct cu ql o0 o1 bh bi ol;by_cases hd:ds=aa
   ·subst hd;(have e1:decide (ds=ds)=true:=by simp);go_upto_region 3 with fail
    have HC:=hid (λ(W:World)(H:zA (λ_=>True) w3 W)=>(show W.cell? ⟨w.heap.size,0,none⟩=some (.slice D ds.length dcap)/\W.cell? ⟨w.heap.size,1,none⟩=some (.slice LA nl C)/\w.heap.size<W.heap.size/\W.cell? ⟨w.heap.size+1,0,none⟩=some (.slice D2 ds.length m)/\W.cell? ⟨w.heap.size+1,1,none⟩=some (.slice ao ax I)/\w.heap.size+1<W.heap.size from by
     have h1:=a6.out.keep H trivial;have h2:=db.out.keep H trivial
     exact⟨h1.at0,h1.at1,h1.lt,h2.at0,h2.at1,h2.lt⟩))
    refine zL 5 (λW=>zA (λ_=>True) w3 W) (by kernel_rfl) ?_;have ap:zA (λ_=>True) w3 w3.drew:=(zA.refl _ _).drew;have hS:(λW:World=>zA (λ_=>True) w3 W) w3.drew:=ap;generalize w3.drew=x0 at*
    (refine tkS 0 ?_ hS ?_ ?_;rotate_left;intro w z;obtain⟨t0,t1,tl,u0,u1,ul⟩:=HC.out _ z;clear z;go_simp;(try with_reducible rfl);simp only[nr])
    try simp only[nq]
    (refine tkS 2 ?_ hS ?_ ?_;rotate_left;intro w z;obtain⟨t0,t1,tl,u0,u1,ul⟩:=HC.out _ z;clear z;go_simp;(try with_reducible rfl);simp only[nr])
    (try simp only[nq]);clear hS;have au:=zD ab.out ap.below;refine wS1 1 (λK y=> ?_);(go_wp2_with fail);refine(cz.out x0 au).mono ?_;rintro e x1 ⟨R,M,vo,vp,rfl,ar⟩;have bb:=ap.trans (.of_below ar.be);refine y _ _ (Or.inr bb) ?_;clear y K
    (try simp only[nr])
    refine wS1 3 (λK y=> ?_);(go_wp2_with fail);refine(bp.out x1 (zD ab.out bb.below)).mono ?_;rintro e x2 ⟨R2,M2,vo2,vp2,rfl,bc⟩;have aq:=bb.trans (.of_below bc.be);refine y _ _ (Or.inr aq) ?_;clear y K
    (try simp only[nr])
    have a8:=hid (zCE.start au ar bc);(have ej:w.heap.size<R/\w.heap.size<R2:=by have:=ar.lim.1;have:=bc.lim.1;have:=ar.be.size;have:=ap.size;have:=a6.out.lt;omega);have c9:=hid (a6.out.keep aq trivial);have b8:=hid (zD ab.out aq.below);refine wS1 4 (λK y=> ?_);(go_wp2_with fail);refine y _ _ (Or.inr aq) ?_;clear y K;(try simp only[nq]);refine wS1 5 (λK y=> ?_);(go_wp2_with fail);refine y _ _ (Or.inl rfl) ?_;clear y K;(try simp only[nq]);refine wSd ?_ _;clear ap bb aq ar bc au cz bp a6 db ab HC e1;(rename World=>w4);generalize d9:x1=wm at*;clear d9 x1;obtain⟨r0,bj,r1,bk,r2,bl,r3,bm,r4,bn,rl⟩:=a8.out.a.box.c5;obtain⟨s0,ea,s1,eb,s2,ec,s3,ed,s4,ee,sl⟩:=a8.out.b.box.c5;have dt:Hid (¬(true=false\/true=false\/ds≠ds)):=hid (by simp);by_cases he:r.err≠0\/s.err≠0
    ·have ad:=hid (ad.out (by simp) he);by_cases P:r.err=0
     ·have bf:s.err≠0:=he.resolve_left (λh=>h P);(have e1:((r.err:Int)==(0:Int))=true:=by simp[P]);(have e2:((s.err:Int)==(0:Int))=false:=by simp[bf]);(go_upto_region 5 with fail);go_quiet(fail);(go_wp2_with fail);go_ret3;rw[ad.out,P];exact⟨_,rfl,zK.nil _ _,((zA.of_below (Z:=λ_=>True) b8.out).drewN _).below⟩
     ·(have e1:((r.err:Int)==(0:Int))=false:=by simp[P]);(go_upto_region 5 with fail);go_quiet(fail);(go_wp2_with fail);go_ret3;rw[ad.out];exact⟨_,rfl,zK.nil _ _,((zA.of_below (Z:=λ_=>True) b8.out).drewN _).below⟩
    ·(have P:r.err=0:=Classical.byContradiction λh=>he (.inl h));(have bf:s.err=0:=Classical.byContradiction λh=>he (.inr h));(have e1:((r.err:Int)==(0:Int))=true:=by simp[P]);(have e2:((s.err:Int)==(0:Int))=true:=by simp[bf]);have ae:=hid (ae.out (by simp) he);have af:=hid (af.out (by simp) he);(go_upto_region 6 with fail);have cy:=hid (show zD8 ds r s=(r.outs.take r.outs.length).foldl (zBt ds r s) (zA6 ds 0 tFm) from by rw[List.take_length];rfl);have de:=hid (dd.out (by first|exact rfl|trivial));have al:=hid (show zCE w wm w4 R M R2 M2 (λ_=>False) (.slice D ds.length dcap) (.slice D2 ds.length m) vo vp vo2 vp2 0 0 r s [] from by have:=a8.out;rw[P,bf]at this;exact this);clear a8 ad a2 dd dt he e1 e2;have b9:=hid (al.out.a.build Q.out (f:=tFm) (cs:=[.int .i64 1,.string ⟨#[]⟩,.int .i64 0,.int .i64 0,.slice none 0 0]) (FmR.leaf (Z:=λ_=>False) (w:=w4) (op:=1) (by unfold I64;omega)) (λb h=>h.elim) (by rw[show zG tFm=1 from by simp[tFm,zG,zM]];decide));obtain⟨G,dg⟩:∃G,G=zA6 ds 0 tFm:=⟨_,rfl⟩;rw[<-dg]at b9 cy;clear dg r0 r1 r2 r3 r4 bj bk bl bm bn rl s0 s1 s2 s3 s4 ea eb ec ed ee sl;(go_wp2_with fail);refine b9.out.mono ?_;rintro e w5 ⟨GA,J,rfl,L,j⟩;have bx:=hid (al.out.callA L j);have cf:=hid (c9.out.keep j (show w.heap.size≠R by omega));clear L j b9 al c9 b8;(go_upto_region 7 with fail);have o:=hid (bx.out.alloc (.cells #[.slice GA G.1.length J] 83));have df:=hid (Blk.new w5 83 #[.slice GA G.1.length J]);have da:=hid (cf.out.alloc (.cells #[.slice GA G.1.length J] 83));have bq:=hid cf.out;clear bx cf;generalize d8:w5.alloc (.cells #[.slice GA G.1.length J] 83)=w6 at*;have es:w.heap.size<w5.heap.size:=bq.out.lt;generalize hT:w5.heap.size=T at*;clear bq d8 hT w5;have dx:=hid (show w.heap.size≠T from by omega);have cw:=hid (show zU7 w wm R M R2 M2 T (.slice D ds.length dcap) (.slice D2 ds.length m) (.slice LA nl C) vo vp vo2 vp2 r s ((r.outs.take 0).foldl (zBt ds r s) G) w6 from⟨GA,J,o.out.less λb h=> .inr h,df.out,da.out⟩);have cq:=o.out.a.outs;(obtain⟨OA,b0,d6,eo⟩:∃A c,vo= .slice A r.outs.length c/\r.outs.length<=c:=by obtain⟨A,c,e,h,-⟩:=Row.of_own cq (by decide);exact⟨A,c,e,h⟩);(have ep:r.outs.length<=9223372036854775807:=by obtain⟨A,c,e,h,h2,-⟩:=Row.of_own cq (by decide);unfold maxLen at h2;omega);subst d6;obtain⟨r0,bj,r1,bk,r2,bl,r3,bm,r4,bn,rl⟩:=o.out.a.box.c5;clear cq o df da;(go_wp2_with fail);go_loopw[65] (λi wr=>∃k:Nat,k<=r.outs.length/\i= .int .i64 k/\zU7 w wm R M R2 M2 T (.slice D ds.length dcap) (.slice D2 ds.length m) (.slice LA nl C) (.slice OA r.outs.length b0) vp vo2 vp2 r s ((r.outs.take k).foldl (zBt ds r s) G) wr) (λi _=>r.outs.length-(intOf i).toNat);case atStart=>exact⟨0,Nat.zero_le _,rfl,cw.out⟩
     case round=>
      obtain⟨k,hk,rfl,di⟩:=hrel;have ac:=hid di;clear di cw r0 r1 r2 r3 r4 bj bk bl bm bn rl;by_cases dj:k<r.outs.length
      ·obtain⟨TA,ay,B,av,aw⟩:=ac.out;obtain⟨q,hq⟩:∃q,r.outs.length=q+1:=⟨r.outs.length-1,by omega⟩;obtain⟨ob,eu,d5⟩:=zAm (by have:=B.a.outs;rw[hq]at this;exact this);injection d5 with hoe1 hoe2 hoe3;subst hoe1;clear hoe2 hoe3 hq q;have co:=zQc r.outs k dj;have c0:=zE5 B.a.outs co.1;have c1:=zE5 B.a.outs co.2;have d4:=lt_of_cell c0;(have en:((k:Nat):Int)<(r.outs.length:Int):=by omega);have du:=hid (show(r.outs.take (k+1)).foldl (zBt ds r s) G=zBt ds r s ((r.outs.take k).foldl (zBt ds r s) G) r.outs[k] from by rw[List.take_succ_eq_append_getElem dj,List.foldl_append];rfl);generalize r.outs[k]=x at*;obtain⟨E,F⟩:=x;generalize (r.outs.take k).foldl (zBt ds r s) G=st at*;dsimp only at c0 c1;have o:=hid B;have ah:=hid av;have a7:=hid aw;clear B av aw co ac;(go_upto_region 10 with fail);have bz:=hid (o.out.alloc (.cells #[.string E,.bool F] 85));have c6:=hid (Blk.new wr 85 #[.string E,.bool F]);have ai:=hid (ah.out.alloc (.cells #[.string E,.bool F] 85));have ak:=hid (a7.out.alloc (.cells #[.string E,.bool F] 85));have ek:=o.out.a.rl;have ef:=o.out.b.rl;have em:=(o.out.a.ex T (.inr rfl)).2.2.1;have eg:=(o.out.b.ex T (.inr rfl)).2.2.1;clear o ah a7 c0 c1 d4;generalize d7:wr.alloc (.cells #[.string E,.bool F] 85)=w5 at*;generalize d0:wr.heap.size=OX at*;clear d7 d0 wr
       have HC:=hid (λ(W:World)(H:zA (λb=>b=T\/b=OX) w5 W)=>(show W.cell? ⟨T,0,none⟩=some (.slice TA st.1.length ay)/\T<W.heap.size/\W.cell? ⟨OX,0,none⟩=some (.string E)/\W.cell? ⟨OX,1,none⟩=some (.bool F)/\OX<W.heap.size from by
        have h1:=ai.out.keep H (.inl rfl);have h3:=c6.out.keep H (.inr rfl)
        exact⟨h1.at0,h1.lt,h3.at0,h3.at1,h3.lt⟩))
       (have bd:∀b:Nat,b=T\/b=OX->b≠R:=λb h=>by rcases h with rfl|rfl<;>omega);(have d3:∀b:Nat,b=T\/b=OX->b≠R2:=λb h=>by rcases h with rfl|rfl<;>omega);refine zL 12 (λW=>zA (λb=>b=T\/b=OX) w5 W) (by kernel_rfl) ?_;have ch:zA (λb=>b=T\/b=OX) w5 w5.drew:=(zA.refl _ _).drew;have hS:(λW:World=>zA (λb=>b=T\/b=OX) w5 W) w5.drew:=ch;have ca:=hid bz.out.drew;have br:=hid ak.out.drew;generalize w5.drew=x0 at*
       (refine tkQ 0 hS ?_;simp only[nr])
       try simp only[nq]
       (refine tkS 1 ?_ hS ?_ ?_;rotate_left;intro w z;obtain⟨t0,tl,o0,o1,ol⟩:=HC.out _ z;clear z;go_simp;(try with_reducible rfl);simp only[nr])
       try simp only[nq]
       (refine tkQ 2 hS ?_;simp only[nr])
       try simp only[nq]
       (refine tkQ 3 hS ?_;simp only[nr])
       try simp only[nq]
       (refine tkS 4 ?_ hS ?_ ?_;rotate_left;intro w z;obtain⟨t0,tl,o0,o1,ol⟩:=HC.out _ z;clear z;go_simp;(try with_reducible rfl);simp only[nr])
       try simp only[nq]
       (refine tkQ 6 hS ?_;simp only[nr])
       try simp only[nq]
       (refine tkS 7 ?_ hS ?_ ?_;rotate_left;intro w z;obtain⟨t0,tl,o0,o1,ol⟩:=HC.out _ z;clear z;go_simp;(try with_reducible rfl);simp only[nr])
       (try simp only[nq]);clear hS;obtain⟨X,hX⟩:∃X,X=atE ds st.2 r.wh (E,F):=⟨_,rfl⟩;have b2:=hid (ca.out.a.at_ Q.out (E,F));rw[<-hX]at b2;have dy:=hid hX;clear hX;refine wS1 5 (λK y=> ?_);(go_wp2_with fail);refine b2.out.mono ?_;rintro e x1 ⟨XA,dm,rfl,L,j⟩;have cb:=hid (ca.out.callA L j);have bs:=hid (br.out.keep j (show w.heap.size≠R by omega));have ci:=ch.trans (j.mono λb _ h=>bd b h);refine y _ _ (Or.inr ci) ?_;clear y K j L ca b2 br
       (try simp only[nr])
       obtain⟨Y,hY⟩:∃Y,Y=atE ds 0 s.wh (E,F):=⟨_,rfl⟩;(have dh:Y.2=0:=by rw[hY];exact zU6 de.out _ _);have b3:=hid (cb.out.b.at_ dp.out (E,F));rw[<-hY]at b3;have dz:=hid hY;clear hY;refine wS1 8 (λK y=> ?_);(go_wp2_with fail);refine b3.out.mono ?_;rintro e x2 ⟨YA,dn,rfl,L,j⟩;have a3:=hid (cb.out.callB L j);rw[dh]at a3;clear dh;have bt:=hid (bs.out.keep j (show w.heap.size≠R2 by omega));have cj:=ci.trans (j.mono λb _ h=>d3 b h);refine y _ _ (Or.inr cj) ?_;clear y K j L cb b3 bs
       (try simp only[nr])
       obtain⟨V,hV⟩:∃V,V=zAx ds X.2 X.1 Y.1:=⟨_,rfl⟩;have b4:=hid (a3.out.a.and Q.out (va:= .slice XA X.1.length dm) (vb:= .slice YA Y.1.length dn) (a:=X.1) (b:=Y.1) (by simp) (by simp));rw[<-hV]at b4;have dw:=hid hV;clear hV;refine wS1 9 (λK y=> ?_);(go_wp2_with fail);refine b4.out.mono ?_;rintro e x3 ⟨VA,dl,rfl,L,j⟩;have cc:=hid (a3.out.callA L j);have bu:=hid (bt.out.keep j (show w.heap.size≠R by omega));have ck:=cj.trans (j.mono λb _ h=>bd b h);refine y _ _ (Or.inr ck) ?_;clear y K j L a3 b4 bt
       (try simp only[nr])
       obtain⟨N,hN⟩:∃N,N=zAC V.1:=⟨_,rfl⟩;have b5:=hid (cc.out.a.not (v:= .slice VA V.1.length dl) (g:=V.1) (by simp));rw[<-hN]at b5;have dr:=hid hN;clear hN;refine wS1 10 (λK y=> ?_);(go_wp2_with fail);refine b5.out.mono ?_;rintro e x4 ⟨NA,dk,rfl,L,j⟩;have cd:=hid (cc.out.callA L j);have bv:=hid (bu.out.keep j (show w.heap.size≠R by omega));have cm:=ck.trans (j.mono λb _ h=>bd b h);refine y _ _ (Or.inr cm) ?_;clear y K j L cc b5 bu
       (try simp only[nr])
       obtain⟨U,hU⟩:∃U,U=zAx ds V.2 st.1 N:=⟨_,rfl⟩;have b6:=hid (cd.out.a.and Q.out (va:= .slice TA st.1.length ay) (vb:= .slice NA N.length dk) (a:=st.1) (b:=N) (by simp) (by simp));rw[<-hU]at b6;have dv:=hid hU;clear hU;refine wS1 11 (λK y=> ?_);(go_wp2_with fail);refine b6.out.mono ?_;rintro e x5 ⟨UA,b1,rfl,L,j⟩;have ce:=hid (cd.out.callA L j);have bw:=hid (bv.out.keep j (show w.heap.size≠R by omega));have cn:=cm.trans (j.mono λb _ h=>bd b h);have aj:=hid (ai.out.keep cn (.inl rfl));refine y _ _ (Or.inr cn) ?_;clear y K j L cd b6 bv ch ci cj ck cm cn
       (try simp only[nr])
       obtain⟨c0,ei,cl⟩:=aj.out.c1;refine wS1 12 (λK y=> ?_);(go_wp2_with fail);refine y _ _ (Or.inl rfl) ?_;clear y K;(try simp only[nq]);refine wSd ?_ _;have d2:=(ak.out.lt);have d1:=(ce.out.a.ex T (.inr (.inl rfl))).1
       have c8:=hid (show zU7 w wm R M R2 M2 T (.slice D ds.length dcap) (.slice D2 ds.length m) (.slice LA nl C) (.slice (some ⟨ob,0,none⟩) r.outs.length b0) vp vo2 vp2 r s (zBt ds r s st (E,F)) (x5.setCell ⟨T,0,none⟩ (.slice UA U.1.length b1)) from by
        have e:zBt ds r s st (E,F)=U:=by
         unfold zBt;dsimp only;rw[<-dy.out,<-dz.out,<-dw.out,<-dr.out,<-dv.out]
        rw[e]
        exact⟨UA,b1,((ce.out.setX (.inl rfl) 0 _).less λb h=> .inl h).sub (λp hp=>by simp only[List.mem_singleton]at hp;subst hp;exact .head _),aj.out.set_ 0 _,bw.out.keep ((zA.refl (λc=>c≠T) _).setCell (p:=⟨T,0,none⟩) (λ_ h=>h rfl) _) dx.out⟩)
       clear ce bw aj ai ak bz c6 HC d1 d2;(go_wp2_with fail);go_roundw;(case rel=>exact⟨k+1,by omega,by go_num,by rw[du.out];exact c8.out⟩);case measure=>simp[intOf];omega
      ·(obtain rfl:k=r.outs.length:=by omega);rw[<-cy.out]at ac;generalize zD8 ds r s=LF at*;obtain⟨TA,ay,B,av,aw⟩:=ac.out;have cv:=hid B.a.be;have ah:=hid av;have a7:=hid aw;have dq:=hid (zIp (λb=>b<wr.heap.size) _ _ LF.1 ds wr (B.a.low (.head _)) (Q.out.facts B.a.be) ((Q.out.tab.on B.a.be).mono B.a.be.size));have et:=B.a.be.size;obtain⟨r0,bj,r1,bk,r2,bl,r3,bm,r4,bn,rl⟩:=B.a.box.c5;clear B av aw ac;by_cases hl:LF.2=0
       ·have af:=hid (af.out (λh=>h hl));(have e1:((LF.2:Int)==(0:Int))=true:=by simp[hl]);have hq:=ah.out.lt;obtain⟨t0,ev,tl⟩:=ah.out.c1;obtain⟨o0,bh,o1,bi,ol⟩:=a7.out.c2;generalize zBC ds LF.1=LE at*;(go_wp2_with fail);refine dq.out.mono ?_;rintro e w7 ⟨v,rfl,cp,j⟩;(go_wp2_with fail);go_ret3;rw[af.out];exact⟨v,rfl,cp.mono λb j=>by have j:wr.heap.size<=b:=j;omega,zD cv.out j⟩
       ·have ae:=hid (ae.out hl);(have e1:((LF.2:Int)==(0:Int))=false:=by simp[hl]);(go_upto_region 13 with fail);go_quiet(fail);(go_wp2_with fail);go_ret3;rw[ae.out];exact⟨_,rfl,zK.nil _ _,((zA.of_below (Z:=λ_=>True) cv.out).drewN _).below⟩
   ·(have e1:decide (ds=aa)=false:=by simp[hd]);(go_wp2_with fail);go_ret3;rw[a2.out (.inr (.inr hd))];exact⟨_,rfl,zK.nil _ _,ab.out⟩
end Go.Proofs.YthpocbeoanipbaaGreatDoor
