/- Texts QI QJ QK QL. -/
import Derived.Test.YtimmfbnjndndlaaGreatDoorM33
import Derived.Test.YtimmfbnjndndlaaGreatDoorM20
import Derived.DeepKeys
set_option linter.all false
namespace Go.Proofs.YtimmfbnjndndlaaGreatDoor
open Go.RowKit
set_option maxHeartbeats 8000000
set_option maxRecDepth 100000
theorem isCur_any(s:ByteArray)(hs:s.size≤140737488355328)(w:World):
  Calls Tryz.prog 88 #[.string s] w λe w'=>e= .returned (.bool (curOk s))∧w=w':=by
 unfold curOk;go_enter Tryz.func88,Tryz.ntmps88
 go_wp2;go_loop[8] (λi=>∃k:Nat,k≤s.size∧i= .int .i64 k∧Hid (nameTo s.data.toList k)) (λi=>s.size-(intOf i).toNat);case atStart=>exact⟨0,Nat.zero_le _,rfl,nameTo_zero _⟩
 case round=>
  obtain⟨k,hk,rfl,hn⟩:=hrel;by_cases hlt:k<s.size
  ·have hat:=nameAt_eq hlt;(have hk0:(0:Int)≤(k:Int):=by omega);(have hk1:(k:Int)<(s.size:Int):=by omega);(have hkk:k≤140737488355328:=by omega);have HN:=hid hn.out;have HL:=hid hlt;have HAT:=hid hat;clear hat hn;go_wp2
   all_goals first
    |(go_ret
      refine⟨ret_bool (b:=isName s.data.toList) ?_,rfl⟩;rw[isName_false (k:=k) (by simpa using HL.out)];rw[HAT.out];simp only[Hid]at*
      subst_vars
      simp only[decide_eq_false_iff_not];simp at*
      omega)
    |(refine⟨⟨k+1,by have:=HL.out;omega,by first|go_num|(subst_vars;go_num),nameTo_succ HN.out ?_⟩,by have:=HL.out;simp[intOf];omega⟩
      rw[HAT.out];simp only[Hid]at*
      subst_vars
      simp only[decide_eq_true_eq];simp at*
      omega)
  ·(obtain rfl:k=s.size:=by omega);have he:=isName_all (l:=s.data.toList) (by simpa using hn.out);have HE:=hid he;clear he hn
   repeat' (first|(go_big_may;fail)|((with_reducible apply wpList_isG);rfl;first|((with_reducible apply wpList_gen);rfl;rfl;rfl;exact NotVar.app;intro bb hbb;(simp only[nr]))|((with_reducible apply wpList_gen2);rfl;rfl;rfl;exact NotVar.app;intro bb hbb;(simp only[nr]))|((with_reducible apply wpList_gconst);rfl;rfl;rfl;simp only[])|((with_reducible apply wpList_gskip);rfl;rfl;(first|exact Or.inl rfl|exact Or.inr rfl);(simp only[nr]))|((with_reducible apply wpList_ggmove);rfl;rfl;rfl;rfl;exact(by constructor);rfl;(simp only[nr]))|((with_reducible apply wpList_gmove);rfl;rfl;rfl;rfl;exact(by constructor);rfl;(simp only[nr]))|((with_reducible apply wpList_isGPick);rfl;first|((with_reducible apply wpList_gpick_and);rfl;rfl;rfl;exact(by constructor);rfl;rfl;rfl;rfl;(simp only[nr]))|((with_reducible apply wpList_gpick_or);rfl;rfl;rfl;exact(by constructor);rfl;rfl;rfl;rfl;(simp only[nr])))|((with_reducible apply wpList_guarded);rfl;rfl;rfl;exact(by constructor);(intro hG;(try simp only[Bool.and_eq_true,Bool.not_eq_true']at hG);(first|subst hG|(obtain⟨h1,h2⟩:=hG;subst h1;subst h2)|(obtain⟨⟨h1,h2⟩,h3⟩:=hG;subst h1;subst h2;subst h3));(try simp only[gv_true,gv_false,Bool.not_true,Bool.not_false,Bool.true_and,Bool.false_and,Bool.and_self]);go_simp;with_reducible rfl);(simp only[nr]))|((with_reducible apply wpList_gsplit);rfl;rfl;rfl;all_goals(intro hb;subst hb;(try simp only[gv_true,gv_false,Bool.not_true,Bool.not_false,Bool.true_and,Bool.false_and,Bool.and_self])))|((with_reducible apply wpList_gsplit2);rfl;rfl;rfl;all_goals(intro hb;(first|subst hb|((try simp only[Bool.and_eq_true,Bool.not_eq_true']at hb);obtain⟨h1,h2⟩:=hb;subst h1;subst h2));(try simp only[gv_true,gv_false,Bool.not_true,Bool.not_false,Bool.true_and,Bool.false_and,Bool.and_self]))))|((with_reducible apply wpList_isPick);rfl;rfl;first|((with_reducible apply wpList_pick_t);rfl;rfl;rfl;rfl;(simp only[nr]))|((with_reducible apply wpList_pick_f);rfl;rfl;rfl;rfl;(simp only[nr]))|((with_reducible apply wpList_pick_and);rfl;rfl;rfl;rfl;rfl;(simp only[nr]))|((with_reducible apply wpList_pick_or);rfl;rfl;rfl;rfl;rfl;(simp only[nr])))|go_values|go_guarded|go_step|go_upon|go_back|dsimp only)
   go_ret;refine⟨ret_bool (b:=isName s.data.toList) ?_,rfl⟩;rw[HE.out];simp only[Hid]at*
   subst_vars
   (have e24:decide ((s.size:Int)≤24)=decide (s.size≤24):=by rw[Bool.eq_iff_iff];simp only[decide_eq_true_eq];omega);rw[e24,ByteArray.toList_eq,show s.data.toList.isEmpty=decide (s.data.toList=[]) from by rw[Bool.eq_iff_iff];simp];simp
theorem isDay_any(n:Int)(w:World):Calls Tryz.prog 94 #[.int .i64 n] w λe w'=>e= .returned (.bool (dayOk n))∧w=w':=by
 unfold dayOk;rw[Bool.decide_and];obtain⟨b1,h1⟩:∃b,decide (0≤n)=b:=⟨_,rfl⟩;obtain⟨b2,h2⟩:∃b,decide (n≤100000)=b:=⟨_,rfl⟩;rw[h1,h2];cases b1
 ·go_enter Tryz.func94,Tryz.ntmps94
  go_wp2;go_ret;exact⟨rfl,rfl⟩
 ·go_enter Tryz.func94,Tryz.ntmps94
  go_wp2;go_ret;exact⟨rfl,rfl⟩
theorem positive_any(n:Int)(w:World):Calls Tryz.prog 93 #[.int .i64 n] w λe w'=>e= .returned (.bool (posOk n))∧w=w':=by
 unfold posOk;rw[Bool.decide_and];obtain⟨b1,h1⟩:∃b,decide (1≤n)=b:=⟨_,rfl⟩;obtain⟨b2,h2⟩:∃b,decide (n≤1000000)=b:=⟨_,rfl⟩;rw[h1,h2];cases b1
 ·go_enter Tryz.func93,Tryz.ntmps93
  go_wp2;go_ret;exact⟨rfl,rfl⟩
 ·go_enter Tryz.func93,Tryz.ntmps93
  go_wp2;go_ret;exact⟨rfl,rfl⟩
theorem amount_any(s:ByteArray)(u:Int)(hs:s.size≤140737488355328)(w:World):Calls Tryz.prog 54 #[.agg #[.string s,.int .i64 u]] w λe w'=>e= .returned (.bool (amtOk s u))∧Below w.heap.size w w':=by
 have HC:=hid (λW=>isCur_any s hs W);unfold amtOk;rw[Bool.decide_and];obtain⟨b1,h1⟩:∃b,decide (-1000000000000≤u)=b:=⟨_,rfl⟩;obtain⟨b2,h2⟩:∃b,decide (u≤1000000000000)=b:=⟨_,rfl⟩;rw[h1,h2];generalize curOk s=b0 at*;have hB:=below1 w (.cells #[.string s,.int .i64 u] 37);have bk:=Blk.new w 37 #[.string s,.int .i64 u];clear hs;go_enter Tryz.func54,Tryz.ntmps54
 go_wp2_with fail
 generalize w.alloc (.cells #[.string s,.int .i64 u] 37)=w0 at*;refine(HC.out _).mono ?_;rintro e w1 ⟨rfl,rfl⟩;have c1:=bk.at1;clear bk HC;cases b0
 ·go_wp2;go_ret;exact⟨rfl,hB⟩
 ·cases b1
  ·go_wp2;go_ret;exact⟨rfl,hB⟩
  ·go_wp2;go_ret;exact⟨rfl,hB⟩
def encD(p:ByteArray × Int):Value:= .agg #[.string p.1,.int .i64 p.2]
theorem fieldsD:∃f0 f1:Field,Tryz.prog.underlying 151=some (.struct #[f0,f1])∧f0.name≠ "_" ∧f1.name≠ "_" ∧f0.type=9∧f1.type=3∧f0.offset=0∧f1.offset=1:=
 ⟨_,_,Tryz.underlying151,by decide,by decide,rfl,rfl,rfl,rfl⟩
theorem run_equal_dated(w:World)(x y:ByteArray × Int):(Op.equal 151 (encD x) (encD y)).run Tryz.prog w= .ok (decide (x=y)) w:=by
 obtain⟨f0,f1,hu,n0,n1,t0,t1,o0,o1⟩:=fieldsD;have hF:Tryz.prog.underlying 151=some (.struct (Tryz.prog.fieldsOf 151)):=by kernel_rfl
 have hfs:Tryz.prog.fieldsOf 151=#[f0,f1]:=by
  have h1:=Option.some.inj (hu.symm.trans hF);exact(TypeDesc.struct.inj h1).symm
 have hs:Tryz.prog.plainKey 9=true:=by simp[Program.plainKey,Tryz.underlying9]
 have hi:Tryz.prog.plainKey 3=true:=by simp[Program.plainKey,Tryz.underlying3]
 have p0:∀p:ByteArray × Int,(part 9 #[.string p.1,.int .i64 p.2] 0).run Tryz.prog w= .ok (.string p.1) w:=λp=>run_part_plain w hs rfl
 have p1:∀p:ByteArray × Int,(part 3 #[.string p.1,.int .i64 p.2] 1).run Tryz.prog w= .ok (.int .i64 p.2) w:=λp=>run_part_plain w hi rfl
 have g0:∀d:Nat,(Op.equalIn (d+1) 9 (.string x.1) (.string y.1)).run Tryz.prog w= .ok (x.1==y.1) w:=λd=>by simp[Op.equalIn,run_underlying Tryz.underlying9]
 have g1:∀d:Nat,(Op.equalIn (d+1) 3 (.int .i64 x.2) (.int .i64 y.2)).run Tryz.prog w= .ok (x.2==y.2) w:=λd=>by simp[Op.equalIn,run_underlying Tryz.underlying3]
 have e0:(Op.equalIn 9999 9 (.string x.1) (.string y.1)).run Tryz.prog w= .ok (x.1==y.1) w:=g0 9998;have e1:(Op.equalIn 9999 3 (.int .i64 x.2) (.int .i64 y.2)).run Tryz.prog w= .ok (x.2==y.2) w:=g1 9998;unfold Op.equal encD;rw[show Op.maxDepth=9999+1 from rfl,run_equalIn_struct w 9999 151 _ _ hF (by kernel_rfl),hfs];simp only[Op.eqFields,n0,n1,t0,t1,o0,o1,ne_eq,not_false_eq_true,if_true,Sem.run_bind,p0,p1,e0,e1,Result.andThen_ok];have hb:=MapKept.bytes_beq x.1 y.1;by_cases h1:x.1=y.1
 ·rw[hb.2 h1];simp only[Bool.not_true,Bool.false_eq_true,if_false,Sem.run_bind,p1,e1,Result.andThen_ok];by_cases h2:x.2=y.2
  ·(have h3:(x.2==y.2)=true:=by simp[h2]);rw[h3];simp[h1,h2,Prod.ext_iff]
  ·(have h3:(x.2==y.2)=false:=by simp[h2]);rw[h3];simp[h2,Prod.ext_iff]
 ·have h3:(x.1==y.1)=false:=by
   cases h4:(x.1==y.1)with
   |false=>rfl
   |true=>exact absurd (hb.1 h4) h1
  rw[h3];simp[h1,Prod.ext_iff]
theorem keyOk_dated:KeyOk Tryz.prog 151 encD where
 check:=λw em x=>by unfold encD;kernel_rfl
 find w x es kv h:=by
  have ask:∀(es:List MapEntry)(kv:List ((ByteArray × Int) × Value))(j:Nat),es.map (λe=>(e.key,e.val))=kv.map (λp=>(encD p.1,p.2))->(Instr.findAsking 151 (encD x) es j).run Tryz.prog w= .ok (kvFind kv x j) w:=by
   intro es
   induction es with
   |nil=>intro kv j h;cases kv with
    |nil=>simp[Instr.findAsking,kvFind]
    |cons p kv=>simp at h
   |cons e' es ih=>intro kv j h;cases kv with
    |nil=>simp at h
    |cons p kv=>
     simp only[List.map_cons,List.cons.injEq,Prod.mk.injEq]at h;obtain⟨⟨h1,h2⟩,h3⟩:=h;have h4:=run_equal_dated w x p.1;unfold Instr.findAsking kvFind;rw[h1];simp only[Sem.run_bind,h4,Result.andThen_ok];by_cases hx:x=p.1
     ·simp[hx,h2]
     ·simp[hx,ih kv (j+1) h3]
  obtain⟨fs,hfs⟩:∃fs,Tryz.prog.underlying 151=some (.struct fs):=⟨_,Tryz.underlying151⟩
  cases es with
  |nil=>
   cases kv with
   |nil=>simp[Instr.findKey,run_underlying hfs,Instr.findNow,kvFind]
   |cons p kv=>simp at h
  |cons e' es=>
   have h0:=h
   cases kv with
   |nil=>simp at h
   |cons p kv=>
    simp only[List.map_cons,List.cons.injEq,Prod.mk.injEq]at h
    have hn:Instr.findNow (.struct fs) (encD x) (e'::es) 0=none:=by
     unfold Instr.findNow;rw[h.1.1];simp[Instr.sameNow]
    simp only[Instr.findKey,Sem.run_bind,run_underlying hfs,Result.andThen_ok,hn];exact ask _ _ 0 h0
 stays w x:=by
  have h:=(MapKept.bytes_beq x.1 x.1).2 rfl;simp[Instr.keyThatStays,encD,Instr.sameBits,h]
def RateD.cells(r:RateD):List Value:=[.string r.cur,.int .i64 r.day,.int .i64 r.num,.int .i64 r.den]
def RateD.fit(r:RateD):Prop:=r.cur.size≤140737488355328∧I64 r.day∧I64 r.num∧I64 r.den
structure Rates (Z:Zone) (w:World) (v:Value) (l:List RateD):Prop where
 is:∃A cap,v= .slice A l.length cap∧l.length≤cap∧cap≤9223372036854775807∧l.length*40≤140737488355328∧SeqR (λcs r=>cs=RateD.cells r) 4 Z w l A
 fit:∀r∈l,r.fit
theorem Rates.keep{Z:Zone}{w w':World}{v:Value}{l:List RateD}(h:Rates Z w v l)(hk:Keeps Z w w'):Rates Z w' v l:=by
 obtain⟨⟨A,cap,e,h1,h2,h2b,hr⟩,hf⟩:=h;exact⟨⟨A,cap,e,h1,h2,h2b,hr.imp (λ_ _ h=>h) hk (λ_ h=>h)⟩,hf⟩
theorem Rates.mono{Z Z':Zone}{w:World}{v:Value}{l:List RateD}(h:Rates Z w v l)(hz:∀b,Z b->Z' b):Rates Z' w v l:=by
 obtain⟨⟨A,cap,e,h1,h2,h2b,hr⟩,hf⟩:=h;exact⟨⟨A,cap,e,h1,h2,h2b,hr.imp (λ_ _ h=>h) (Keeps.refl Z w) hz⟩,hf⟩
def SeenD(kv:List ((ByteArray × Int) × Value))(l:List (ByteArray × Int)):Prop:=∀x,(x∈l->kvGet kv x=some (.bool true))∧(x∉l->kvGet kv x=none)
theorem SeenD.add{kv:List ((ByteArray × Int) × Value)}{l:List (ByteArray × Int)}(h:SeenD kv l)(x:ByteArray × Int):SeenD (kvSet kv x (.bool true)) (l++[x]):=λy=>by
 by_cases e:y=x
 ·subst e;exact⟨λ_=>kvGet_set_same _ _ _,λhn=>absurd (by simp) hn⟩
 ·exact⟨λhy=>by rw[kvGet_set_other e];exact(h y).1 (by simpa[e]using hy),λhy=>by rw[kvGet_set_other e];exact(h y).2 (by simp at hy;exact hy.1)⟩
theorem SeenD.look{kv:List ((ByteArray × Int) × Value)}{l:List (ByteArray × Int)}(h:SeenD kv l)(x:ByteArray × Int):∃b:Bool,(kvGet kv x).getD (.bool false)= .bool b∧(b=true↔x∈l):=by
 by_cases hx:x∈l
 ·exact⟨true,by rw[(h x).1 hx];rfl,by simp[hx]⟩
 ·exact⟨false,by rw[(h x).2 hx];rfl,by simp[hx]⟩
theorem Tryz.eMPos:∀args w,(callFunc 93 args).run Tryz.prog w= .ok (.enter 93 args) w:=enters_of Tryz.func93 (by kernel_rfl) rfl
theorem rate_cells{w:World}{b o:Nat}{f:RateD}(hc:∀j u,(RateD.cells f)[j]? =some u->w.cell? ⟨b,o+j,none⟩=some u):
  w.cell? ⟨b,o,none⟩=some (.string f.cur)∧w.cell? ⟨b,o+1,none⟩=some (.int .i64 f.day)∧w.cell? ⟨b,o+2,none⟩=some (.int .i64 f.num)∧w.cell? ⟨b,o+3,none⟩=some (.int .i64 f.den):=
 ⟨hc 0 _ rfl,hc 1 _ rfl,hc 2 _ rfl,hc 3 _ rfl⟩
def ratesTo(l:List RateD)(base:ByteArray)(k:Nat):Prop:=(∀r∈l.take k,rateOk base r=true)∧((l.take k).map rateKey).Nodup
theorem ratesTo_succ{l:List RateD}{base:ByteArray}{k:Nat}(h:ratesTo l base k)(hk:k<l.length)(h1:rateOk base l[k]=true)(h2:rateKey l[k]∉(l.take k).map rateKey):ratesTo l base (k+1):=by
 unfold ratesTo at h⊢;rw[take_succ_get hk];refine⟨λr hr=> ?_,?_⟩
 ·rcases List.mem_append.1 hr with hr|hr
  ·exact h.1 r hr
  ·rw[List.mem_singleton.1 hr];exact h1
 ·rw[List.map_append,List.nodup_append];refine⟨h.2,by simp,λa ha b hb e=> ?_⟩;simp only[List.map_cons,List.map_nil,List.mem_singleton]at hb;rw[<-hb,<-e]at h2;exact h2 ha
theorem rates_bad{l:List RateD}{base:ByteArray}{k:Nat}(hk:k<l.length)(h:rateOk base l[k]=false∨rateKey l[k]∈(l.take k).map rateKey):validRates l base=false:=by
 rw[Bool.eq_false_iff];intro hv;unfold validRates at hv;simp only[Bool.and_eq_true,List.all_eq_true,decide_eq_true_eq]at hv;rcases h with h|h
 ·rw[hv.1.2 _ (List.getElem_mem hk)]at h;cases h
 ·have h2:=hv.2;have e:l.map rateKey=(l.take k).map rateKey++(l.drop k).map rateKey:=by rw[<-List.map_append,List.take_append_drop]
  rw[e,List.nodup_append]at h2;refine h2.2.2 _ h _ (List.mem_map_of_mem (f:=rateKey) (a:=l[k]) ?_) rfl;rw[List.drop_eq_getElem_cons hk];exact List.mem_cons_self ..
theorem rates_all{l:List RateD}{base:ByteArray}(h:ratesTo l base l.length)(hb:curOk base=true)(hl:l.length≤400):validRates l base=true:=by
 unfold ratesTo at h;rw[List.take_length]at h;unfold validRates;simp only[Bool.and_eq_true,List.all_eq_true,decide_eq_true_eq];exact⟨⟨⟨hb,hl⟩,h.1⟩,h.2⟩
theorem ratesValid_any(Z:Zone)(v:Value)(l:List RateD)(base:ByteArray)(w:World)(hl:Rates Z w v l)(hb:base.size≤140737488355328):
  Calls Tryz.prog 62 #[v,.string base] w λe w'=>e= .returned (.bool (validRates l base))∧Below w.heap.size w w':=by
 obtain⟨⟨A,cap,rfl,hcap,_,hbytes,hs⟩,hfit⟩:=hl;have hmm:= @run_makeMap Tryz.prog;have HCB:=hid (λW=>isCur_any base hb W);have hll:l.length≤3518437208883:=by omega
 have HS:=hid (And.intro hs hfit)
 have HV0:=hid (λ(h:curOk base=false∨400<l.length)=>(show validRates l base=false from by
  rw[Bool.eq_false_iff];intro hv;unfold validRates at hv;simp only[Bool.and_eq_true,List.all_eq_true,decide_eq_true_eq]at hv;rcases h with h|h
  ·rw[hv.1.1.1]at h;cases h
  ·omega))
 have HB0:=hid (λ(k:Nat)(hk:k<l.length)=> @rates_bad l base k hk);have HA0:=hid (@rates_all l base);obtain⟨bc,hbc⟩:∃bc,bc=curOk base:=⟨_,rfl⟩;rw[<-hbc]at HCB;have HBC:=hid hbc;obtain⟨VV,hVV⟩:∃VV,VV=validRates l base:=⟨_,rfl⟩;rw[<-hVV];have HVV:=hid hVV;clear hs hfit hb hbc hcap hbytes hVV;go_enter Tryz.func62,Tryz.ntmps62
 go_wp2_with fail
 refine(HCB.out _).mono ?_;rintro e w1 ⟨rfl,rfl⟩;clear HCB;cases bc
 ·go_wp2_with fail
  go_ret;exact⟨by rw[HVV.out,HV0.out (.inl HBC.out.symm)];rfl,Below.refl _ _⟩
 ·by_cases h4:400<l.length
  ·have e4:decide ((400:Int)<(l.length:Int))=true:=decide_eq_true (by omega);(go_wp2_with fail);go_ret;exact⟨by rw[HVV.out,HV0.out (.inr h4)];rfl,Below.refl _ _⟩
  ·have e4:decide ((400:Int)<(l.length:Int))=false:=decide_eq_false (by omega);have H4:=hid (Nat.le_of_not_lt h4);clear h4 HV0;go_wp2;go_loopw[21] (λi wr=>∃(k:Nat)(kv:List ((ByteArray × Int) × Value)),k≤l.length∧i= .int .i64 k∧MapIs encD wr w.heap.size kv∧Below w.heap.size w wr∧Hid (ratesTo l base k)∧Hid (SeenD kv ((l.take k).map rateKey))) (λi _=>l.length-(intOf i).toNat)
   case atStart=>
    exact⟨0,[],Nat.zero_le _,rfl,MapIs.made w encD,below1 _ _,hid ⟨by simp,by simp⟩,hid (λx=>⟨λh=>by simp at h,λ_=>rfl⟩)⟩
   case round=>
    obtain⟨k,kv,hk,rfl,hmap,hbel,hto,hseen⟩:=hrel;by_cases hlt:k<l.length
    ·obtain⟨b,off,cs,rfl,hz,hc,rfl⟩:=HS.out.1.at_ hlt;have hbs:b<w.heap.size:=lt_of_cell (rate_cells hc).1;obtain⟨c0,c1,c2,c3⟩:=rate_cells (cells_below hbel hbs hc);have hfk:=HS.out.2 l[k] (List.getElem_mem hlt);have HBAD:=hid (HB0.out k hlt);have HNEXT:=hid (λh1 h2=>ratesTo_succ hto.out hlt h1 h2);have htk:=hid (show(l.take (k+1)).map rateKey=(l.take k).map rateKey++[rateKey l[k]] from by rw[take_succ_get hlt,List.map_append];rfl);obtain⟨sb,hsb,hsb2⟩:=hseen.out.look (rateKey l[k]);have HSB:=hid hsb2;(have hk1:((k:Nat):Int)<(l.length:Int):=by omega);(have hk0:(0:Int)≤((k:Nat):Int):=by omega);clear hc hsb2 hto;generalize l[k]=f at*;obtain⟨cu,dy,nu,dn⟩:=f;obtain⟨hcu,hdy,hnu,hdn⟩:=hfk;unfold rateKey at hsb;simp only at c0 c1 c2 c3 hcu hdy hnu hdn hsb;have HC1:=hid (λW=>isCur_any cu hcu W);have HC3:=hid (λW=>isDay_any dy W);have HC4:=hid (λW=>positive_any nu W);have HC5:=hid (λW=>positive_any dn W);obtain⟨b2,h2⟩:∃b,(cu.toList==base.toList)=b:=⟨_,rfl⟩
     have HRO:=hid (show rateOk base ⟨cu,dy,nu,dn⟩=(curOk cu&& !b2&&dayOk dy&&posOk nu&&posOk dn) from by
      unfold rateOk
      rw[<-h2,toList_beq,decide_not])
     generalize curOk cu=b1 at*;generalize dayOk dy=b3 at*;generalize posOk nu=b4 at*;generalize posOk dn=b5 at*;have bx:=(Blk.new wr 100 #[.string cu,.int .i64 dy,.int .i64 nu,.int .i64 dn]).alloc (.cells #[.string cu,.int .i64 dy] 151);have bk:=Blk.new (wr.alloc (.cells #[.string cu,.int .i64 dy,.int .i64 nu,.int .i64 dn] 100)) 151 #[.string cu,.int .i64 dy];rw[World.size_alloc]at bk
     have hmp2:MapIs encD ((wr.alloc (.cells #[.string cu,.int .i64 dy,.int .i64 nu,.int .i64 dn] 100)).alloc (.cells #[.string cu,.int .i64 dy] 151)) w.heap.size kv:=by
      have h1:=hmap.of_block (Below.heap_alloc wr (.cells #[.string cu,.int .i64 dy,.int .i64 nu,.int .i64 dn] 100) _ hmap.lt);exact h1.of_block (Below.heap_alloc _ _ _ h1.lt)
     have hB2:Below w.heap.size w ((wr.alloc (.cells #[.string cu,.int .i64 dy,.int .i64 nu,.int .i64 dn] 100)).alloc (.cells #[.string cu,.int .i64 dy] 151)):=(hbel.alloc hbel.size _).alloc (by have:=hbel.size;simp;omega) _;obtain⟨X,hX⟩:∃X,X=wr.heap.size:=⟨_,rfl⟩;(have hXw:w.heap.size<X:=by rw[hX];have:=hmap.lt;omega);(go_wp2_with fail);rw[<-hX]at bx bk⊢;clear hX hbel hmap;generalize (wr.alloc (.cells #[.string cu,.int .i64 dy,.int .i64 nu,.int .i64 dn] 100)).alloc (.cells #[.string cu,.int .i64 dy] 151)=w2 at*
     have hlook:(Instr.lookup 149 (.map (some w.heap.size)) (.agg #[.string cu,.int .i64 dy]) false).run Tryz.prog w2= .ok (.bool sb) w2:=by
      have:=MapIs.look hmp2 keyOk_dated (t:=149) (e:=4) Tryz.underlying149 (Tryz.zero4 _) (cu,dy) false;simpa[encD,hsb]using this
     have x0:=bx.at0;have x1:=bx.at1;have x2:=bx.at2;have x3:=bx.at3;have y0:=bk.at0;have y1:=bk.at1;have bl:=bx.lt;have kl:=bk.lt;have HSS:=hid hseen.out;clear bx bk c0 c1 c2 c3 hbs hseen hsb;refine(HC1.out _).mono ?_;rintro e w3 ⟨rfl,hw3⟩;subst hw3;cases b1
     ·(go_wp2_with fail);go_ret;exact⟨by rw[HVV.out,HBAD.out (.inl (by rw[HRO.out];rfl))];rfl,hB2⟩
     ·cases b2
      ·(go_wp2_with fail);refine(HC3.out _).mono ?_;rintro e w3 ⟨rfl,hw3⟩;subst hw3;cases b3
       ·(go_wp2_with fail);go_ret;exact⟨by rw[HVV.out,HBAD.out (.inl (by rw[HRO.out];rfl))];rfl,hB2⟩
       ·(go_wp2_with fail);refine(HC4.out _).mono ?_;rintro e w3 ⟨rfl,hw3⟩;subst hw3;cases b4
        ·(go_wp2_with fail);go_ret;exact⟨by rw[HVV.out,HBAD.out (.inl (by rw[HRO.out];rfl))];rfl,hB2⟩
        ·(go_wp2_with fail);refine(HC5.out _).mono ?_;rintro e w3 ⟨rfl,hw3⟩;subst hw3;cases b5
         ·(go_wp2_with fail);go_ret;exact⟨by rw[HVV.out,HBAD.out (.inl (by rw[HRO.out];rfl))];rfl,hB2⟩
         ·cases sb
          ·go_wp2_with(at_mapUpdate;refine wpList_mapStore rfl (.tmp 65) (.tmp 66) _ rfl keyOk_dated (e:=4) Tryz.underlying149 rfl hmp2 (cu,dy) rfl ?_;intro w4 hm4 hk4 hsz4 hce4 hfr4);have hB4:Below w.heap.size w w4:=below_keeps_ne hB2 hk4 (Nat.le_refl _) hB2.size;have HNX:=hid (And.intro hm4 hB4);clear hm4 hk4 hsz4 hce4 hfr4 hB4;go_roundw
           case rel=>
            refine⟨k+1,_,by omega,by go_num,HNX.out.1,HNX.out.2,hid (HNEXT.out (by rw[HRO.out];rfl) (λh=>by have:=HSB.out.2 h;cases this)),hid ?_⟩;rw[htk.out];exact HSS.out.add _
           case measure=>simp[intOf];omega
          ·(go_wp2_with fail);go_ret;exact⟨by rw[HVV.out,HBAD.out (.inr (HSB.out.mp (by first|exact rfl|trivial)))];rfl,hB2⟩
      ·(go_wp2_with fail);go_ret;exact⟨by rw[HVV.out,HBAD.out (.inl (by rw[HRO.out];rfl))];rfl,hB2⟩
    ·(obtain rfl:k=l.length:=by omega);have HX:=hid (HA0.out hto.out HBC.out.symm H4.out);have HBE:=hid hbel;clear hmap hbel hto hseen;go_wp2;go_ret;exact⟨by rw[HVV.out,HX.out];rfl,HBE.out⟩
def rateV(r:RateD):Value:= .agg #[.string r.cur,.int .i64 r.day,.int .i64 r.num,.int .i64 r.den]
def knownR(cur:ByteArray)(day:Int)(r:RateD):Bool:=decide (r.cur=cur)&&decide (r.day≤day)
theorem bestStep_eq(cur:ByteArray)(day:Int)(o:Option RateD)(x:RateD):bestStep cur day o x=if knownR cur day x=true then(match o with|none=>some x|some y=>if decide (y.day<x.day)=true then some x else some y)else o:=by
 unfold bestStep knownR;by_cases h:x.cur=cur∧x.day≤day
 ·rw[if_pos h,if_pos (by simp[h.1,h.2])]
  cases o with
  |none=>rfl
  |some y=>simp only[decide_eq_true_eq]
 ·rw[if_neg h,if_neg (by simpa using h)]
theorem known_any'(r:RateD)(cur:ByteArray)(day:Int)(Bc Bd:Nat)(w:World)(hc:w.cell? ⟨Bc,0,none⟩=some (.string cur))(hd:w.cell? ⟨Bd,0,none⟩=some (.int .i64 day)):
  Calls Tryz.prog 118 #[rateV r,.pointer (some ⟨Bc,0,none⟩),.pointer (some ⟨Bd,0,none⟩)] w λe w'=>e= .returned (.bool (knownR cur day r))∧Below w.heap.size w w':=by
 have lc:=lt_of_cell hc;have ld:=lt_of_cell hd;unfold knownR rateV;rw[<-toList_beq];obtain⟨b1,h1⟩:∃b,(r.cur.toList==cur.toList)=b:=⟨_,rfl⟩;obtain⟨b2,h2⟩:∃b,decide (r.day≤day)=b:=⟨_,rfl⟩;rw[h1,h2];obtain⟨rc,rd,rn,re⟩:=r;dsimp only at*;cases b1
 ·go_enter Tryz.func118,Tryz.ntmps118
  go_wp2;go_ret;exact⟨rfl,below1 _ _⟩
 ·go_enter Tryz.func118,Tryz.ntmps118
  go_wp2;go_ret;exact⟨rfl,below1 _ _⟩
theorem better_any(r y:RateD)(w:World):Calls Tryz.prog 120 #[rateV r,rateV y] w λe w'=>e= .returned (.bool (decide (y.day<r.day)))∧Below w.heap.size w w':=by
 obtain⟨rc,rd,rn,re⟩:=r;obtain⟨yc,yd,yn,ye⟩:=y;unfold rateV;dsimp only;go_enter Tryz.func120,Tryz.ntmps120
 go_wp2;go_ret;exact⟨rfl,(below1 _ _).alloc (by simp) _⟩
theorem bestR_take{l:List RateD}{cur:ByteArray}{day:Int}{k:Nat}(hk:k<l.length):bestR (l.take (k+1)) cur day=bestStep cur day (bestR (l.take k) cur day) l[k]:=by
 unfold bestR;rw[take_succ_get hk,List.foldl_append];rfl
theorem best_any(Z:Zone)(v:Value)(l:List RateD)(cur:ByteArray)(day:Int)(Bc Bd:Nat)(w:World)(hl:Rates Z w v l)(hz:∀b,Z b->b<w.heap.size)(hc:w.cell? ⟨Bc,0,none⟩=some (.string cur))(hd:w.cell? ⟨Bd,0,none⟩=some (.int .i64 day)):
  Calls Tryz.prog 119 #[v,.func (.func 118) #[] #[.pointer (some ⟨Bc,0,none⟩),.pointer (some ⟨Bd,0,none⟩)],.func (.func 120) #[] #[]] w λe w'=>
   e= .returned (.tuple #[rateV ((bestR l cur day).getD rate0),.bool (bestR l cur day).isSome])∧Below w.heap.size w w':=by
 obtain⟨⟨A,cap,rfl,hcap,_,hbytes,hs⟩,hfit⟩:=hl;have hll:l.length≤3518437208883:=by omega
 have HS:=hid hs;have lc:=lt_of_cell hc;have ld:=lt_of_cell hd;have HK:=hid (λ(r:RateD) W(hW:Below w.heap.size w W)=>known_any' r cur day Bc Bd W (brd hW hc lc) (brd hW hd ld));have HBT:=hid (λr y W=>better_any r y W);have HZ:=hid hz;have HT:=hid (λ(k:Nat)(hk:k<l.length)=> @bestR_take l cur day k hk);have HSE:=hid (λo x=>bestStep_eq cur day o x);clear hs hfit hcap hbytes hc hd hz;go_enter Tryz.func119,Tryz.ntmps119
 go_wp2;go_loopw[7,12] (λfv iv wr=>∃(k:Nat)(o:Option RateD),k≤l.length∧iv= .int .i64 k∧fv= .bool o.isSome∧Hid (o=bestR (l.take k) cur day)∧Blk wr w.heap.size 100 #[.string (o.getD rate0).cur,.int .i64 (o.getD rate0).day,.int .i64 (o.getD rate0).num,.int .i64 (o.getD rate0).den]∧Below w.heap.size w wr) (λ_ iv _=>l.length-(intOf iv).toNat);case atStart=>exact⟨0,none,Nat.zero_le _,rfl,rfl,hid rfl,Blk.new _ _ _,below1 _ _⟩
 case round=>
  obtain⟨k,o,hk,rfl,rfl,ho,hblk,hbel⟩:=hrel;by_cases hlt:k<l.length
  ·obtain⟨b,off,cs,rfl,hzb,hcs,rfl⟩:=HS.out.at_ hlt;have hbs:=HZ.out b hzb;obtain⟨c0,c1,c2,c3⟩:=rate_cells (cells_below hbel hbs hcs);have HTK:=hid ((HT.out k hlt).trans (by rw[<-ho.out,HSE.out]));(have hk1:((k:Nat):Int)<(l.length:Int):=by omega);(have hk0:(0:Int)≤((k:Nat):Int):=by omega);clear hcs ho;generalize l[k]=f at*;have HKF:=hid (HK.out f);have HBF:=hid (HBT.out f);obtain⟨cu,dy,nu,dn⟩:=f;unfold rateV at HKF HBF;simp only at c0 c1 c2 c3 HKF HBF;have h2:=hblk.alloc (.cells #[.string cu,.int .i64 dy,.int .i64 nu,.int .i64 dn] 100);have hx:=Blk.new wr 100 #[.string cu,.int .i64 dy,.int .i64 nu,.int .i64 dn];have hB2:Below w.heap.size w (wr.alloc (.cells #[.string cu,.int .i64 dy,.int .i64 nu,.int .i64 dn] 100)):=hbel.alloc hbel.size _;obtain⟨X,hX⟩:∃X,X=wr.heap.size:=⟨_,rfl⟩;(have hXw:w.heap.size<X:=by rw[hX];exact hblk.lt);(go_wp2_with fail);rw[<-hX]at hx⊢;clear hX hbel hblk c0 c1 c2 c3;generalize wr.alloc (.cells #[.string cu,.int .i64 dy,.int .i64 nu,.int .i64 dn] 100)=w2 at*;refine(HKF.out _ hB2).mono ?_;rintro e w3 ⟨rfl,hb3⟩;replace h2:=h2.below hb3 h2.lt;replace hx:=hx.below hb3 hx.lt;have hB3:=HBEL_trans hB2 hb3;clear hb3 hB2 HKF;have x0:=hx.at0;have x1:=hx.at1;have x2:=hx.at2;have x3:=hx.at3;have xl:=hx.lt;have HX:=hid hx;clear hx;cases hkn:knownR cur day ⟨cu,dy,nu,dn⟩
   ·rw[hkn]at HTK;have HF:=hid (And.intro h2 hB3);clear h2 hB3;(go_wp2_with fail);go_roundw;(case rel=>exact⟨k+1,o,by omega,by go_num,rfl,hid (HTK.out.trans (if_neg (by decide))).symm,HF.out.1,HF.out.2⟩);case measure=>simp[intOf];omega
   ·rw[hkn]at HTK;clear hkn
    cases o with
    |none=>
     simp only[Option.getD_none]at h2;have HTK2:=hid (show bestR (l.take (k+1)) cur day=some ⟨cu,dy,nu,dn⟩ from HTK.out.trans (if_pos rfl));clear HTK;have g0:=h2.frozen 0;have g1:=h2.frozen 1;have g2:=h2.frozen 2;have g3:=h2.frozen 3;have q0:=h2.at0;have q1:=h2.at1;have q2:=h2.at2;have q3:=h2.at3;have ql:=h2.lt
     have HF:=hid (show Blk ((((w3.setCell ⟨w.heap.size,0,none⟩ (.string cu)).setCell ⟨w.heap.size,1,none⟩ (.int .i64 dy)).setCell ⟨w.heap.size,2,none⟩ (.int .i64 nu)).setCell ⟨w.heap.size,3,none⟩ (.int .i64 dn)) w.heap.size 100 #[.string cu,.int .i64 dy,.int .i64 nu,.int .i64 dn]∧Below w.heap.size w ((((w3.setCell ⟨w.heap.size,0,none⟩ (.string cu)).setCell ⟨w.heap.size,1,none⟩ (.int .i64 dy)).setCell ⟨w.heap.size,2,none⟩ (.int .i64 nu)).setCell ⟨w.heap.size,3,none⟩ (.int .i64 dn)) from
      ⟨(((h2.set_ 0 _).set_ 1 _).set_ 2 _).set_ 3 _,(((hB3.setCell (Nat.le_refl _) _).setCell (Nat.le_refl _) _).setCell (Nat.le_refl _) _).setCell (Nat.le_refl _) _⟩)
     clear h2 hB3;(go_wp2_with fail);go_roundw;(case rel=>exact⟨k+1,some ⟨cu,dy,nu,dn⟩,by omega,by go_num,rfl,hid HTK2.out.symm,HF.out.1,HF.out.2⟩);case measure=>simp[intOf];omega
    |some y=>
     simp only[Option.getD_some]at h2;have HBY:=hid (HBF.out y w3);obtain⟨yc,yd,yn,ye⟩:=y;dsimp only at h2 HBY;have hdd:∃b,decide (yd<dy)=b:=⟨_,rfl⟩;obtain⟨bd,hbd⟩:=hdd;rw[hbd]at HBY;have HTK2:=hid (HTK.out.trans (if_pos rfl));have HTF:=hid (λ(h:bd=false)=>(show bestR (l.take (k+1)) cur day=some ⟨yc,yd,yn,ye⟩ from HTK2.out.trans (if_neg (show ¬decide (yd<dy)=true by rw[hbd,h];decide))));have HTT:=hid (λ(h:bd=true)=>(show bestR (l.take (k+1)) cur day=some ⟨cu,dy,nu,dn⟩ from HTK2.out.trans (if_pos (hbd.trans h))));clear HTK HBF hbd HTK2;have g0:=h2.frozen 0;have g1:=h2.frozen 1;have g2:=h2.frozen 2;have g3:=h2.frozen 3;have q0:=h2.at0;have q1:=h2.at1;have q2:=h2.at2;have q3:=h2.at3;have ql:=h2.lt;have H2:=hid h2;clear h2;(go_wp2_with fail);refine HBY.out.mono ?_;rintro e w4 ⟨rfl,hb4⟩;have h2:=H2.out.below hb4 H2.out.lt;replace hB3:=HBEL_trans hB3 hb4;replace HX:=hid (HX.out.below hb4 HX.out.lt);have x0:=HX.out.at0;have x1:=HX.out.at1;have x2:=HX.out.at2;have x3:=HX.out.at3;have xl:=HX.out.lt;clear hb4 HBY H2 g0 g1 g2 g3 q0 q1 q2 q3 ql;cases bd
     ·have HTR:=hid (HTF.out rfl);clear HTF HTT;have HF:=hid (And.intro h2 hB3);clear h2 hB3;(go_wp2_with fail);go_roundw;(case rel=>exact⟨k+1,some ⟨yc,yd,yn,ye⟩,by omega,by go_num,rfl,hid HTR.out.symm,HF.out.1,HF.out.2⟩);case measure=>simp[intOf];omega
     ·have HTR:=hid (HTT.out rfl);clear HTF HTT;have g0:=h2.frozen 0;have g1:=h2.frozen 1;have g2:=h2.frozen 2;have g3:=h2.frozen 3;have q0:=h2.at0;have q1:=h2.at1;have q2:=h2.at2;have q3:=h2.at3;have ql:=h2.lt
      have HF:=hid (show Blk ((((w4.setCell ⟨w.heap.size,0,none⟩ (.string cu)).setCell ⟨w.heap.size,1,none⟩ (.int .i64 dy)).setCell ⟨w.heap.size,2,none⟩ (.int .i64 nu)).setCell ⟨w.heap.size,3,none⟩ (.int .i64 dn)) w.heap.size 100 #[.string cu,.int .i64 dy,.int .i64 nu,.int .i64 dn]∧Below w.heap.size w ((((w4.setCell ⟨w.heap.size,0,none⟩ (.string cu)).setCell ⟨w.heap.size,1,none⟩ (.int .i64 dy)).setCell ⟨w.heap.size,2,none⟩ (.int .i64 nu)).setCell ⟨w.heap.size,3,none⟩ (.int .i64 dn)) from
       ⟨(((h2.set_ 0 _).set_ 1 _).set_ 2 _).set_ 3 _,(((hB3.setCell (Nat.le_refl _) _).setCell (Nat.le_refl _) _).setCell (Nat.le_refl _) _).setCell (Nat.le_refl _) _⟩)
      clear h2 hB3;(go_wp2_with fail);go_roundw;(case rel=>exact⟨k+1,some ⟨cu,dy,nu,dn⟩,by omega,by go_num,rfl,hid HTR.out.symm,HF.out.1,HF.out.2⟩);case measure=>simp[intOf];omega
  ·(obtain rfl:k=l.length:=by omega);rw[List.take_length]at ho;have HO:=hid ho.out;clear ho;have r0:=hblk.at0;have r1:=hblk.at1;have r2:=hblk.at2;have r3:=hblk.at3;have g0:=hblk.frozen 0;have g1:=hblk.frozen 1;have g2:=hblk.frozen 2;have g3:=hblk.frozen 3;have gl:=hblk.lt
   have HF:=hid (show Blk ((((wr.setCell ⟨w.heap.size,0,none⟩ (.string (o.getD rate0).cur)).setCell ⟨w.heap.size,1,none⟩ (.int .i64 (o.getD rate0).day)).setCell ⟨w.heap.size,2,none⟩ (.int .i64 (o.getD rate0).num)).setCell ⟨w.heap.size,3,none⟩ (.int .i64 (o.getD rate0).den)) w.heap.size 100 #[.string (o.getD rate0).cur,.int .i64 (o.getD rate0).day,.int .i64 (o.getD rate0).num,.int .i64 (o.getD rate0).den]∧Below w.heap.size w ((((wr.setCell ⟨w.heap.size,0,none⟩ (.string (o.getD rate0).cur)).setCell ⟨w.heap.size,1,none⟩ (.int .i64 (o.getD rate0).day)).setCell ⟨w.heap.size,2,none⟩ (.int .i64 (o.getD rate0).num)).setCell ⟨w.heap.size,3,none⟩ (.int .i64 (o.getD rate0).den)) from
    ⟨(((hblk.set_ 0 _).set_ 1 _).set_ 2 _).set_ 3 _,(((hbel.setCell (Nat.le_refl _) _).setCell (Nat.le_refl _) _).setCell (Nat.le_refl _) _).setCell (Nat.le_refl _) _⟩)
   have HY:=hid (show Ending.returned (.tuple #[.agg #[.string (o.getD rate0).cur,.int .i64 (o.getD rate0).day,.int .i64 (o.getD rate0).num,.int .i64 (o.getD rate0).den],.bool o.isSome])=Ending.returned (.tuple #[rateV ((bestR l cur day).getD rate0),.bool (bestR l cur day).isSome]) from by rw[<-HO.out];rfl);generalize o.isSome=fo at*;generalize o.getD rate0=R at*;obtain⟨rc,rd,rn,re⟩:=R;dsimp only at*;clear hblk hbel HO;go_wp2;have p0:=HF.out.1.at0;have p1:=HF.out.1.at1;have p2:=HF.out.1.at2;have p3:=HF.out.1.at3;exact bodyPost_ret (v:= .tuple #[.agg #[.string rc,.int .i64 rd,.int .i64 rn,.int .i64 re],.bool fo]) (by simp[results,Tryz.results119,go_sem,p0,p1,p2,p3]) rfl ⟨HY.out,HF.out.2⟩
end Go.Proofs.YtimmfbnjndndlaaGreatDoor
