/- Texts QH PU RT. -/
import Derived.Test.YtimmfbnjndndlaaGreatDoorM34
import Derived.Lib.AtoiTie
import Derived.Test.YtimmfbnjndndlaaGreatDoorM36
import Derived.DeepKeys
import Derived.Laws.StructEq
set_option linter.all false
namespace Go.Proofs.YtimmfbnjndndlaaGreatDoor
open Go.RowKit
set_option maxHeartbeats 4000000
set_option maxRecDepth 100000
section
open Go.Shelf
open Go.Lib (decDigits)
theorem atoi_small(q:Nat)(h:q≤100):Lib.atoiAll (decDigits q)= .ok (q:Int):=by
 have key:∀k:Fin 101,(match Lib.atoiAll (decDigits k.val)with| .ok v=>decide (v=(k.val:Int))| _=>false)=true:=by decide+kernel
 have:=key ⟨q,by omega⟩;revert this;simp only;generalize Lib.atoiAll (decDigits q)=r;rcases r with v| _ | _
 ·intro h;rw[of_decide_eq_true h]
 ·intro h;cases h
 ·intro h;cases h
theorem rfloor_any(r:Rt)(hr:RtOk r)(h0:r.neg=false)(hq:r.num / r.den≤100)(w:World)(htab:TabB w.heap.size w):
  Calls Tryz.prog 34 #[rtV r] w λe w'=>e= .returned (.tuple #[.int .i64 ((r.num / r.den:Nat):Int),.int .i64 0])∧Below w.heap.size w w':=by
 have HV:=hid (λW(hW:Below w.heap.size w W)=>rvalid_any r hr W ((htab.on hW).mono hW.size));have HD:=hid (λW(hW:Below w.heap.size w W)=>Div_any r.num r.den W ((htab.on hW).mono hW.size) hr.numL hr.denL hr.den)
 have HA:=hid (λW=>Tryz.strconv_Atoi_ok (dstr (r.num / r.den)) (by
  rw[dstr_size]
  exact Nat.le_trans (dec_length_le (k:=3) (by decide) (by omega)) (by decide)) ((r.num / r.den:Nat):Int) (by rw[dstr_toList];exact atoi_small _ hq) W)
 obtain⟨x,n,d⟩:=r;dsimp only at*;subst h0;unfold rtV at HV⊢;dsimp only at*;generalize n / d=q at*;generalize n%d=m at*;have b0:=Blk.new w 53 #[.bool false,.string (dstr n),.string (dstr d)];have hB0:=below1 w (.cells #[.bool false,.string (dstr n),.string (dstr d)] 53);clear hr hq htab;go_enter Tryz.func34,Tryz.ntmps34
 go_wp2_with fail
 generalize w.alloc (.cells #[.bool false,.string (dstr n),.string (dstr d)] 53)=w0 at*;refine(HV.out _ hB0).mono ?_;rintro e w1 ⟨rfl,hb1⟩;have b1:=b0.below hb1 b0.lt;have hB1:=HBEL_trans hB0 hb1;have c1:=b1.at1;have c2:=b1.at2;clear b0 hB0 hb1 HV;have HB:=hid b1;clear b1;go_wp2_with fail
 refine(HD.out _ hB1).mono ?_;rintro e w2 ⟨rfl,hb2⟩;have b2:=HB.out.below hb2 HB.out.lt;have hB2:=HBEL_trans hB1 hb2;have c0:=b2.at0;clear HB hB1 hb2 HD c1 c2 b2;go_wp2_with fail
 refine(HA.out _).mono ?_;rintro e w3 ⟨rfl,hb3⟩
 have hB3:Below w.heap.size w w3:=by
  rcases hb3 with rfl|⟨t,rfl⟩
  ·exact hB2
  ·exact HBEL_trans hB2 (below_bytesN _ _ _)
 clear hb3;go_wp2;go_ret2;exact⟨rfl,hB3⟩
theorem rcompare_any(a b:Rt)(ha:RtOk a)(hb:RtOk b)(w:World)(htab:TabB w.heap.size w):
  Calls Tryz.prog 14 #[rtV a,rtV b] w λe w'=>e= .returned (.tuple #[.int .i64 (cmpR a b).1,.int .i64 (cmpR a b).2])∧Below w.heap.size w w':=by
 have HS:=hid (λW(hW:Below w.heap.size w W)=>rsub_any a b ha hb W ((htab.on hW).mono hW.size));obtain⟨C,hC⟩:∃C,C=cmpR a b:=⟨_,rfl⟩;rw[<-hC];unfold cmpR at hC;generalize subR a b=RR at*;obtain⟨⟨x,n,d⟩,ee⟩:=RR;obtain⟨bz,hbz⟩:∃bz,((dstr n).toList ==[48])=bz:=⟨_,rfl⟩;have hz:decide (n=0)=bz:=by rw[<-hbz,is0]
 obtain⟨cv,ce⟩:=C;dsimp only at*;obtain⟨ax,ay,az⟩:=a;obtain⟨bx,by_,b_z⟩:=b;unfold rtV at HS⊢;dsimp only at*;generalize dstr ay=sy at*;generalize dstr az=sz at*;generalize dstr by_=ty at*;generalize dstr b_z=tz at*;have hB:Below w.heap.size w ((w.alloc (.cells #[.bool ax,.string sy,.string sz] 53)).alloc (.cells #[.bool bx,.string ty,.string tz] 53)):=(below1 w _).alloc (by simp) _;clear ha hb htab;go_enter Tryz.func14,Tryz.ntmps14
 go_wp2_with fail
 generalize (w.alloc (.cells #[.bool ax,.string sy,.string sz] 53)).alloc (.cells #[.bool bx,.string ty,.string tz] 53)=w0 at*;refine(HS.out _ hB).mono ?_;by_cases he:ee=0
 ·subst he;have hC:(cv,ce)=if x then((-1:Int),(0:Int))else if n=0 then(0,0)else(1,0):=hC
  have eR:rtE (⟨x,n,d⟩,0)= .agg #[.bool x,.string (dstr n),.string (dstr d)]:=rfl;rw[eR];rintro e w1 ⟨rfl,hb1⟩;have b1:=Blk.new w1 53 #[.bool x,.string (dstr n),.string (dstr d)];have hB1:Below w.heap.size w (w1.alloc (.cells #[.bool x,.string (dstr n),.string (dstr d)] 53)):=(HBEL_trans hB hb1).alloc (HBEL_trans hB hb1).size _;clear hB hb1 HS eR;cases x
  ·by_cases h0:n=0
   ·(have e1:bz=true:=by rw[<-hz];exact decide_eq_true h0);subst e1;rw[if_neg (by decide),if_pos h0]at hC;injection hC with e1 e2;subst e1 e2;clear hz h0;(go_wp2_with fail);go_ret2;exact⟨rfl,hB1⟩
   ·(have e1:bz=false:=by rw[<-hz];exact decide_eq_false h0);subst e1;rw[if_neg (by decide),if_neg h0]at hC;injection hC with e1 e2;subst e1 e2;clear hz h0;(go_wp2_with fail);go_ret2;exact⟨rfl,hB1⟩
  ·rw[if_pos rfl]at hC;injection hC with e1 e2;subst e1 e2;clear hz;(go_wp2_with fail);go_ret2;exact⟨rfl,hB1⟩
 ·have hC:(cv,ce)=((0:Int),ee):=by rw[hC,if_pos he]
  injection hC with e1 e2;subst e1 e2;have eR:rtE (⟨x,n,d⟩,ce)= .agg #[.bool false,.string ⟨#[]⟩,.string ⟨#[]⟩]:=if_neg he;rw[eR];rintro e w1 ⟨rfl,hb1⟩;have hB1:Below w.heap.size w (w1.alloc (.cells #[.bool false,.string ⟨#[]⟩,.string ⟨#[]⟩] 53)):=(HBEL_trans hB hb1).alloc (HBEL_trans hB hb1).size _;have e1:(ce !=0)=true:=by simpa using he
  clear hB hb1 HS eR hz he;go_wp2_with fail
  go_ret2;exact⟨rfl,hB1⟩
end
theorem classT_ok{t:TarD}{c:List Int}(h:(classT t c).2=0):(classT t c).1=(lineOf t c:Nat)∧lineOf t c<t.lines.length:=by
 unfold classT at h⊢;split at h
 ·cases h
 rename_i h1;rw[if_neg h1];split at h
 ·rename_i h2;rw[if_pos h2];exact⟨rfl,h2⟩
 ·cases h
theorem sumQ_le{T T':CompD->Rat}:∀{L:List CompD},(∀c∈L,0≤c.cnt∧T c≤T' c)->sumQ T L≤sumQ T' L
 |[],_=>Rat.le_refl
 |c::L,h=>by
  have h1:=h c (List.mem_cons_self ..);have h2:=sumQ_le (L:=L) λd hd=>h d (List.mem_cons_of_mem _ hd)
  have h3:(0:Rat)≤(c.cnt:Rat):=Rat.intCast_nonneg.2 h1.1;have h4:=Rat.mul_le_mul_of_nonneg_left h1.2 h3;exact Rat.le_trans (Rat.add_le_add_right.2 h4) (Rat.add_le_add_left.2 h2)
theorem sumQ_nonneg{T:CompD->Rat}:∀{L:List CompD},(∀c∈L,0≤c.cnt∧0≤T c)->0≤sumQ T L
 |[],_=>Rat.le_refl
 |c::L,h=>by
  have h1:=h c (List.mem_cons_self ..);have h2:=sumQ_nonneg (L:=L) λd hd=>h d (List.mem_cons_of_mem _ hd)
  have h3:(0:Rat)≤(c.cnt:Rat):=Rat.intCast_nonneg.2 h1.1;exact Rat.add_nonneg (Rat.mul_nonneg h3 h1.2) h2
theorem cnt_of{p:ProdD}(h:oddP p=false):∀c∈p.parts,1≤c.cnt∧c.cnt≤1000:=by
 unfold oddP at h;simp only[Bool.or_eq_false_iff,List.any_eq_false]at h;intro c hc;have:=h.2 c hc;unfold cntOk at this;simpa using this
theorem totC_eq{t:TarD}{l:List ProdD}{o:List ByteArray}(h:OrdOk l o)(r:List RateD)(base:ByteArray)(day:Int){id:ByteArray}{p:ProdD}(hp:prodOf l id=some p):
  totC t l r base day id=if ctlLine t p.cas then totV l r base day id else foldT (λc=>totC t l r base day c.prod) p.parts (rt0,0):=by
 obtain⟨_,q2⟩:=prodOf_some hp;unfold totC;rw[totS_eq h _ hp];unfold ctlP;by_cases hc:ctlLine t p.cas=true
 ·simp only[hc,if_true,q2]
 ·simp only[hc];rfl
theorem ctl_le{t:TarD}{l:List ProdD}{o:List ByteArray}(h:OrdOk l o)(hb:∀p∈l,badP t p=false)(r:List RateD)(base:ByteArray)(day:Int):
  ∀(n:Nat)(id:ByteArray),rk o id<n->id∈idsP l->(totV l r base day id).2=0->0≤(totV l r base day id).1.toQ ∧
   ((totC t l r base day id).2=0->Low (totC t l r base day id).1∧0≤(totC t l r base day id).1.toQ ∧(totC t l r base day id).1.toQ ≤(totV l r base day id).1.toQ)∧
   ((totC t l r base day id).2≠0->(totC t l r base day id).2=2)
 |0,_,hn,_,_=>absurd hn (Nat.not_lt_zero _)
 |n+1,id,hn,hm,h0=>by
  have hlow:=totV_low h hm h0;obtain⟨p,hp⟩:=prodOf_mem hm;obtain⟨q1,q2⟩:=prodOf_some hp;obtain⟨b1,b2,b3,b4⟩:=badP_no (hb p q1);have hcnt:=cnt_of b1;have ev:=totV_eq h r base day hp;have hTl:∀c∈p.parts,(totV l r base day c.prod).2=0->0<(totV l r base day c.prod).1.den :=λc hc hc0=>(totV_low h (h.known _ q1 _ (comp_part hc)) hc0).den
  obtain⟨x0,xk,_,xq⟩:=foldT_ok hTl (λh=>convR_low h) (by rw[<-ev];exact h0);rw[<-ev]at xq;have ih:=λc(hc:c∈p.parts)=>ctl_le h hb r base day n c.prod (by have:=h.down q1 (comp_part hc);rw[q2]at this;omega) (h.known _ q1 _ (comp_part hc)) (xk c hc)
  have hv:0≤(totV l r base day id).1.toQ :=by
   rw[xq];exact Rat.add_nonneg (convR_nonneg x0 b3) (sumQ_nonneg λc hc=>⟨by have:=hcnt c hc;omega,(ih c hc).1⟩)
  refine⟨hv,?_⟩;rw[totC_eq h r base day hp];split
  ·exact⟨λ_=>⟨hlow,hv,Rat.le_refl⟩,λhne=>absurd h0 hne⟩
  ·refine⟨λhc0=> ?_,λhne=> ?_⟩
   ·obtain⟨_,yk,ylow,yq⟩:=foldT_ok (T:=λc=>totC t l r base day c.prod) (λc hc hc0=>((ih c hc).2.1 hc0).1.den) (λ_=>rt0_low) hc0;refine⟨ylow,?_,?_⟩
    ·rw[yq,rt0_q,Rat.zero_add];exact sumQ_nonneg λc hc=>⟨by have:=hcnt c hc;omega,((ih c hc).2.1 (yk c hc)).2.1⟩
    ·rw[yq,rt0_q,Rat.zero_add,xq];(have h1:=sumQ_le (L:=p.parts) (T:=λc=>(totC t l r base day c.prod).1.toQ) (T':=λc=>(totV l r base day c.prod).1.toQ) λc hc=>⟨by have:=hcnt c hc;omega,((ih c hc).2.1 (yk c hc)).2.2⟩);refine Rat.le_trans h1 ?_;have h2:=convR_nonneg x0 b3;have h3:=Rat.add_le_add_right (c:=sumQ (λc=>(totV l r base day c.prod).1.toQ) p.parts).2 h2;rwa[Rat.zero_add]at h3
   ·rcases foldT_err hne with⟨h1,_⟩|⟨c,hc,h1,h2⟩|h1
    ·exact absurd rfl h1
    ·rw[h2];exact(ih c hc).2.2 h1
    ·exact h1
theorem controlP_err{t:TarD}{l:List ProdD}{r:List RateD}{base id:ByteArray}{day:Int}(h:(controlP t l r base id day).2≠0):(valueP t l r base id day).2=0∨(controlP t l r base id day).2=(valueP t l r base id day).2:=by
 unfold controlP valueP at*;split
 ·exact .inr rfl
 ·split
  ·exact .inr rfl
  ·rename_i h1;exact .inl (by simpa using h1)
theorem controlP_ok{t:TarD}{l:List ProdD}{r:List RateD}{base id:ByteArray}{day:Int}(h:(controlP t l r base id day).2=0):
  openE t l r base id day=0∧(totV l r base day id).2=0∧controlP t l r base id day=totC t l r base day id∧valueP t l r base id day=totV l r base day id:=by
 have h0:openE t l r base id day=0:=by
  unfold controlP at h;split at h
  ·contradiction
  ·rename_i h1;simpa using h1
 have h1:(totV l r base day id).2=0:=by
  unfold controlP at h;rw[if_neg (by simpa using h0)]at h;split at h
  ·contradiction
  ·rename_i h1;simpa using h1
 refine⟨h0,h1,?_,valueP_ok h0⟩;unfold controlP;rw[if_neg (by simpa using h0),if_neg (by simpa using h1)]
structure CtlOk (t:TarD) (l:List ProdD) (r:List RateD) (base id:ByteArray) (day:Int) (p:ProdD):Prop where
 val:(valueP t l r base id day).2=0
 low:Low (controlP t l r base id day).1
 lowV:Low (valueP t l r base id day).1
 neg:(controlP t l r base id day).1.neg =false
 pos:0≤(controlP t l r base id day).1.toQ
 le:(controlP t l r base id day).1.toQ ≤(valueP t l r base id day).1.toQ
 cls:(classT t p.cas).2=0
 all:ctlLine t p.cas=true->(controlP t l r base id day).1=(valueP t l r base id day).1
 sum:ctlLine t p.cas=false->(sumG (λc=>controlP t l r base c day) p.parts rt0).2=true->(controlP t l r base id day).1=(sumG (λc=>controlP t l r base c day) p.parts rt0).1
theorem control_ok{t:TarD}{l:List ProdD}{r:List RateD}{base id:ByteArray}{day:Int}(h:(controlP t l r base id day).2=0):∃p,prodOf l id=some p∧CtlOk t l r base id day p:=by
 obtain⟨h1,h2,h3,h4⟩:=controlP_ok h;obtain⟨a1,a2,a3,a4⟩:=openE_ok h1;obtain⟨c1,c2,⟨o,c3⟩,c4⟩:=checkP_ok a1;obtain⟨p,hp⟩:=prodOf_mem a4;obtain⟨q1,q2⟩:=prodOf_some hp;obtain⟨k1,k2,-⟩:=ctl_le (t:=t) c3 c2 r base day _ id (Nat.lt_succ_self _) a4 h2;rw[h3]at h;obtain⟨k3,k4,k5⟩:=k2 h;have ec:=totC_eq (t:=t) c3 r base day hp;refine⟨p,hp,?_⟩;refine⟨by rw[h4];exact h2,by rw[h3];exact k3,by rw[h4];exact totV_low c3 a4 h2,by rw[h3];exact k3.nonneg.1 k4,by rw[h3];exact k4,by rw[h3,h4];exact k5,c4 p q1,?_,?_⟩
 ·intro hc;rw[h3,h4,ec,if_pos hc]
 ·intro hc hok;have hx:=foldT_ok (T:=λc=>totV l r base day c.prod) (L:=p.parts) (x:=convR r base p.cur p.units base day) (λc hc hc0=>(totV_low c3 (c3.known _ q1 _ (comp_part hc)) hc0).den) (λh=>convR_low h) (by rw[<-totV_eq c3 r base day hp];exact h2)
  have ef:foldT (λc=>controlP t l r base c.prod day) p.parts (rt0,0)=totC t l r base day id:=by
   rw[ec,if_neg (by simp[hc])];(refine foldT_congr _ λc hc'=> ?_);unfold controlP;rw[if_neg (by simpa using openE_of a1 a2 a3 (c3.known _ q1 _ (comp_part hc'))),if_neg (by simpa using hx.2.1 c hc')]
  rw[sumG_fold,ef,h,if_pos rfl,h3]
theorem divR_ok{a b:Rt}(ha:Low a)(hb:Low b)(h:(divR a b).2=0):Low (divR a b).1∧b.num≠0∧(divR a b).1.toQ *b.toQ=a.toQ:=by
 unfold divR at h⊢;split at h
 ·cases h
 rename_i h1;split at h
 ·cases h
 rename_i h2;rw[if_neg h1,if_neg h2];have hbd:0<(⟨b.neg,b.den,b.num⟩:Rt).den :=by show 0<b.num;omega
 refine⟨prodQ_low ha.den hbd,h1,?_⟩;show(prodQ a ⟨b.neg,b.den,b.num⟩).toQ *b.toQ=a.toQ;rw[prodQ_q ha.den hbd,Rat.mul_assoc]
 have e:(⟨b.neg,b.den,b.num⟩:Rt).toQ *b.toQ=1:=by
  unfold Rt.toQ;rw[Rat.mkRat_mul_mkRat];show mkRat (sgI b.neg b.den*sgI b.neg b.num) (b.num*b.den)=1;rw[sgI_mul]
  have e2:sgI (b.neg !=b.neg) (b.den*b.num)=((b.num*b.den:Nat):Int):=by
   unfold sgI;simp[Nat.mul_comm]
  rw[e2];have hz:b.num*b.den≠0:=Nat.mul_ne_zero h1 (by have:=hb.den;omega);have e3:=Rat.mkRat_mul_right (n:=1) (d:=1) (a:=b.num*b.den) hz;simp only[Int.one_mul,Nat.one_mul]at e3;rw[e3];rfl
 rw[e,Rat.mul_one]
theorem fieldsRat:∃f0 f1 f2:Field,Tryz.prog.underlying 53=some (.struct #[f0,f1,f2])∧f0.name≠ "_" ∧f1.name≠ "_" ∧f2.name≠ "_" ∧f0.type=4∧f1.type=9∧f2.type=9∧f0.offset=0∧f1.offset=1∧f2.offset=2:=
 ⟨_,_,_,Tryz.underlying53,by decide,by decide,by decide,rfl,rfl,rfl,rfl,rfl,rfl⟩
theorem run_eql_rat(w:World)(a a':Bool)(b b' c c':ByteArray):
  (Op.equalIn 10000 53 (.agg #[.bool a,.string b,.string c]) (.agg #[.bool a',.string b',.string c'])).run Tryz.prog w= .ok (a==a'&&(b==b'&&c==c')) w:=by
 obtain⟨f0,f1,f2,hu,n0,n1,n2,t0,t1,t2,o0,o1,o2⟩:=fieldsRat;have hF:Tryz.prog.underlying 53=some (.struct (Tryz.prog.fieldsOf 53)):=by kernel_rfl
 have hfs:(Tryz.prog.fieldsOf 53).toList =[f0,f1,f2]:=by unfold Program.fieldsOf;rw[hu]
 have hb:Tryz.prog.plainKey 4=true:=by kernel_rfl
 have hs:Tryz.prog.plainKey 9=true:=by kernel_rfl
 have p0:∀(x:Bool)(y z:ByteArray),(part 4 #[.bool x,.string y,.string z] 0).run Tryz.prog w= .ok (.bool x) w:=λx y z=>run_part_plain w hb rfl
 have p1:∀(x:Bool)(y z:ByteArray),(part 9 #[.bool x,.string y,.string z] 1).run Tryz.prog w= .ok (.string y) w:=λx y z=>run_part_plain w hs rfl
 have p2:∀(x:Bool)(y z:ByteArray),(part 9 #[.bool x,.string y,.string z] 2).run Tryz.prog w= .ok (.string z) w:=λx y z=>run_part_plain w hs rfl
 have g0:∀d:Nat,(Op.equalIn (d+1) 4 (.bool a) (.bool a')).run Tryz.prog w= .ok (a==a') w:=λd=>by simp[Op.equalIn,run_underlying Tryz.underlying4]
 have g1:∀(d:Nat)(x y:ByteArray),(Op.equalIn (d+1) 9 (.string x) (.string y)).run Tryz.prog w= .ok (x==y) w:=λd x y=>by simp[Op.equalIn,run_underlying Tryz.underlying9]
 have e0:(Op.equalIn 9999 4 (.bool a) (.bool a')).run Tryz.prog w= .ok (a==a') w:=g0 9998;have e1:∀x y:ByteArray,(Op.equalIn 9999 9 (.string x) (.string y)).run Tryz.prog w= .ok (x==y) w:=g1 9998;rw[show(10000:Nat)=9999+1 from rfl,run_equalIn_struct w 9999 53 _ _ hF (by kernel_rfl),hfs];simp only[Op.eqFields,n0,n1,n2,t0,t1,t2,o0,o1,o2,ne_eq,not_false_eq_true,if_true,Sem.run_bind,p0,p1,p2,e0,e1,Result.andThen_ok];cases a==a'
 ·simp
 ·simp only[Bool.not_true,Bool.false_eq_true,if_false,Sem.run_bind,p1,e1,Result.andThen_ok,Bool.true_and];cases b==b'
  ·simp
  ·simp only[Bool.not_true,Bool.false_eq_true,if_false,Sem.run_bind,p2,e1,Result.andThen_ok,Bool.true_and];cases c==c'<;>simp
theorem rt_same{x y:Rt}:((x.neg==y.neg)&&(dstr x.num==dstr y.num&&dstr x.den==dstr y.den))=decide (x=y):=by
 have hb:∀u v:Nat,(dstr u==dstr v)=decide (u=v):=λu v=>by
  by_cases h:u=v
  ·rw[decide_eq_true h,h];exact(MapKept.bytes_beq _ _).2 rfl
  ·rw[decide_eq_false h]
   cases e:(dstr u==dstr v)with
   |false=>rfl
   |true=>exact absurd (dstr_inj ((MapKept.bytes_beq _ _).1 e)) h
 rw[hb,hb];obtain⟨a,b,c⟩:=x;obtain⟨a',b',c'⟩:=y;simp only[Rt.mk.injEq];cases a<;>cases a'<;>simp
theorem exec_eqR{o:Oper}{ρ:Operand->Value}{x y:Operand}(p q:Rt)(W:World)(ho:o.op= .binOp .eql 53 x y 53)(hx:ρ x=rtV p)(hy:ρ y=rtV q):
  (execOp ρ o).run Tryz.prog W= .ok (.value (.bool (decide (p=q)))) W:=by
 have h1:(eqGuard .eql 53 x y (rtV p) (rtV q)).run Tryz.prog W= .ok () W:=run_eqGuard_agg W .eql 53 x y _ _ (by kernel_rfl)
 have h2:(binOp .eql 53 (rtV p) (rtV q)).run Tryz.prog W= .ok (.bool (decide (p=q))) W:=by
  unfold rtV;rw[run_eql_struct,run_eql_rat,rt_same];rfl
 unfold execOp;simp only[ho,hx,hy,Sem.run_bind,h1,h2,Result.andThen_ok,Sem.run_pure]
theorem oper_eqR{o:Oper}{a:Act}{w:World}{K:Act->World->Prop}{Q:Exit->Act->World->Prop}(x y:Operand)(ho:o.op= .binOp .eql 53 x y 53)(p q:Rt)(hx:a.eval x=rtV p)(hy:a.eval y=rtV q)
  (hK:K (a.put o.dst (.bool (decide (p=q)))) w):Oper.wp Tryz.prog o a w K Q:=by
 unfold Oper.wp;rw[exec_eqR p q w ho hx hy];exact hK
theorem wpList_eqR{ops:Array Oper}{rest:List Oper}{o:Oper}{a:Act}{w:World}{Q:Exit->Act->World->Prop}(hgd:o.guard=none)(x y:Operand)(ho:o.op= .binOp .eql 53 x y 53)(p q:Rt)(hx:a.eval x=rtV p)(hy:a.eval y=rtV q)
  (h:wpList Tryz.prog ops Q rest (a.put o.dst (.bool (decide (p=q)))) w):wpList Tryz.prog ops Q (o::rest) a w:=
 wpList_plain hgd λK hK=>oper_eqR x y ho p q hx hy (hK _ _ h)
end Go.Proofs.YtimmfbnjndndlaaGreatDoor
