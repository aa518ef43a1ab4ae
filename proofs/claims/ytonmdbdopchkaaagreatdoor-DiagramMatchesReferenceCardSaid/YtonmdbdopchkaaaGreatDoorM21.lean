/- Texts W26 W29. -/
import Derived.Test.YtonmdbdopchkaaaGreatDoorM18
import Derived.Laws.EntriesVeiled
import Derived.StillTailTactics
set_option linter.all false
namespace Go.Proofs.YtonmdbdopchkaaaGreatDoor
open Go.RowKit
set_option maxHeartbeats 4000000
set_option maxRecDepth 100000
theorem Tryz.egFrom1:∀args w,(callFunc 83 args).run Tryz.prog w= .ok (.enter 83 args) w:=enters_of Tryz.func83 (by kernel_rfl) rfl
theorem Tryz.lookII{w:World}{b:Nat}{kv:List (Int × Value)}(h:zu encI w b kv)(s:Int)(c:Bool):
  (Instr.lookup 126 (.map (some b)) (.int .i64 s) c).run Tryz.prog w= .ok (if c then .tuple #[(zA5 kv s).getD (.int .i64 0),.bool (zA5 kv s).isSome]else(zA5 kv s).getD (.int .i64 0)) w:=
 h.look (zMo (P:=Tryz.prog) (k:=3) Tryz.underlying3) (t:=126) (e:=3) Tryz.underlying126 (Tryz.zeroInt w) s c
theorem MkS.node_at{w:World}{M:Nat}{all:List zB}{F Z:Nat->Prop}(h:MkS w M all F Z){i:Nat}(hi:i<all.length):
  ∃g cap vc vk,w.cell? ⟨M,0,none⟩=some (.slice (some ⟨g,0,none⟩) all.length cap)∧F g∧w.cell? ⟨g,i*4,none⟩=some (.bool all[i].leaf)∧w.cell? ⟨g,i*4+1,none⟩=some (.int .i64 all[i].fact)∧
   w.cell? ⟨g,i*4+2,none⟩=some vc∧w.cell? ⟨g,i*4+3,none⟩=some vk∧I64 all[i].fact ∧zL Z w vc all[i].cuts ∧zL Z w vk all[i].kids :=by
 obtain⟨⟨v,mp,csl,h1,h2,h3,_,h5⟩,_⟩:=h;obtain⟨n,hn⟩:∃n,all.length=n+1:=⟨all.length-1,by omega⟩;have h2':=h2;rw[hn]at h2';obtain⟨g,cap,rfl⟩:=zAZ h2';obtain⟨cs,⟨vc,vk,rfl,hf,hc,hk⟩,hcs⟩:=h3.at_ i hi
 have hce:∀j u,([.bool all[i].leaf,.int .i64 all[i].fact,vc,vk]:List Value)[j]? =some u->w.cell? ⟨g,i*4+j,none⟩=some u:=λj u hu=>by
  have:=h2.cells (g:=g) rfl (i*4+j) u (hcs j u hu);rwa[show(⟨g,0,none⟩:Addr).add (i*4+j)=⟨g,i*4+j,none⟩ from by unfold Addr.add;split<;>simp_all]at this
 exact⟨g,cap,vc,vk,by rw[hn];exact h1.cell 0,(h5 g rfl).1,hce 0 _ rfl,hce 1 _ rfl,hce 2 _ rfl,hce 3 _ rfl,hf,hc,hk⟩
def kvO:List Int->Nat->List (Int × Value)
 |[],_=>[]
 |n::r,i=>(n,.int .i64 (i:Nat))::kvO r (i+1)
theorem zL8:∀(o:List Int)(i:Nat)(n:Int),zA5 (kvO o i) n=if n∈o then some (.int .i64 ((i+o.idxOf n:Nat):Int))else none
 |[],_,_=>by simp[kvO,zA5]
 |m::r,i,n=>by
  unfold kvO zA5;by_cases h:n=m
  ·subst h;rw[if_pos rfl,if_pos (by simp)];simp
  ·rw[if_neg h,zL8 r (i+1) n];simp only[List.mem_cons,h,false_or];split
   ·rw[List.idxOf_cons];(have:(m==n)=false:=by simp;exact λe=>h e.symm);rw[this];simp;omega
   ·rfl
theorem zPe:∀(o:List Int)(i:Nat)(n:Int),n∉o->zAt (kvO o i) n (.int .i64 ((i+o.length:Nat):Int))=kvO (o++[n]) i
 |[],_,_,_=>by simp[kvO,zAt]
 |m::r,i,n,h=>by
  simp only[List.mem_cons,not_or]at h;have ih:=zPe r (i+1) n h.2;simp only[kvO,zAt,List.cons_append,List.length_cons];rw[if_neg h.1,<-ih,show i+(r.length+1)=i+1+r.length by omega]
structure zJv (w:World) (P O Mv V pb M B:Nat) (all:List zB) (F Z:Nat->Prop):Prop where
 p:One w P (.map (some pb))
 m:One w Mv (.pointer (some ⟨M,0,none⟩))
 v:One w V (.func (.func 83) #[] #[.pointer (some ⟨P,0,none⟩),.pointer (some ⟨O,0,none⟩),.pointer (some ⟨Mv,0,none⟩),.pointer (some ⟨V,0,none⟩)])
 maker:MkS w M all F Z
 off:∀b,(F b∨Z b∨b=P∨b=Mv∨b=V)->b<B∧b≠pb∧b≠O
 o:O<B∧O≠pb
 size:B≤w.heap.size
def zJw(w:World)(O pb B:Nat)(order:List Int):Prop:=
 ∃vo,One w O vo∧w.ownsRow B 3 1 vo order.length (order.map (.int .i64))∧zu encI w pb (kvO order 0)
def zQX(O pb B:Nat):zD:=λb=>b<B∧b≠pb∧b≠O
theorem zJv.keep{w w':World}{P O Mv V pb M B:Nat}{all:List zB}{F Z:Nat->Prop}(h:zJv w P O Mv V pb M B all F Z)(hk:zA (zQX O pb B) w w'):zJv w' P O Mv V pb M B all F Z:=by
 obtain⟨h1,h2,h3,h4,h5,h6,h7⟩:=h;exact⟨h1.keep hk (h5 _ (Or.inr (Or.inr (Or.inl rfl)))),h2.keep hk (h5 _ (Or.inr (Or.inr (Or.inr (Or.inl rfl))))),h3.keep hk (h5 _ (Or.inr (Or.inr (Or.inr (Or.inr rfl))))),h4.keep (hk.mono λb _ hb=>h5 b (by rcases hb with h|h;exact Or.inl h;exact Or.inr (Or.inl h))),h5,h6,Nat.le_trans h7 hk.size⟩
theorem zSr{w w1 w5:World}{P O Mv V pb M B:Nat}{all:List zB}{F Z:Nat->Prop}{v:Value}{n:Nat}{xs:List Value}{o:Obj}(_hC:zJv w P O Mv V pb M B all F Z)(hk1:zA (λc=>c≠pb) w w1)
  (ho:w1.ownsRow B 3 1 v n xs)(hg:(w1.alloc o).grownBy w5 v.ownBlock):∀u,zA (zQX O pb B) w (w5.setCell ⟨O,0,none⟩ u):=λu=>
 (((hk1.mono λb _ hb=>hb.2.1).trans ((zA.refl _ _).alloc o)).grown hg (λk hk _ hz=>by have:=(ho.lt k hk).1;have:=hz.1;omega)).setCell (λ_ hz=>hz.2.2 rfl) u
theorem zSs{w w1 w5:World}{P O Mv V pb M B:Nat}{all:List zB}{F Z:Nat->Prop}{v v5 v0:Value}{order:List Int}{i:Int}{o:Obj}(hC:zJv w P O Mv V pb M B all F Z)(_hk1:zA (λc=>c≠pb) w w1)
  (hm1:zu encI w1 pb (zAt (kvO order 0) i (.int .i64 ((order.length:Nat):Int))))(ho:w1.ownsRow B 3 1 v order.length (order.map (.int .i64)))(hO5:One w5 O v0)(hg:(w1.alloc o).grownBy w5 v.ownBlock)
  (hown:w5.ownsRow B 3 1 v5 (order.length+1) (order.map (.int .i64)++[.int .i64 i]))(hs:zAt (kvO order 0) i (.int .i64 ((order.length:Nat):Int))=kvO (order++[i]) 0):zJw (w5.setCell ⟨O,0,none⟩ v5) O pb B (order++[i]):=by
 have hpl:pb<(w1.alloc o).heap.size :=by have:=hm1.lt;simp;omega
 refine⟨v5,hO5.set_ v5,?_,?_⟩
 ·have:=zl (Z:=λc=>c≠O) hown ((zA.refl _ _).setCell (p:=⟨O,0,none⟩) (λ_ h=>h rfl) v5) (λk hk e=>by have:=(hown.lt k hk).1;have:=hC.o.1;omega);simpa using this
 ·rw[<-hs];refine((hm1.of_block (Below.heap_alloc _ _ _ hm1.lt)).of_block (hg.block pb hpl (λe=>zHl ho hm1 e.symm))).of_block (Below.heap_setCell _ _ _ _ (λe=>hC.o.2 e.symm))
theorem zRc(ds:List zC)(all:List zB)(hg:Good ds all)(hall:all.length≤1000000)(P O Mv V pb M B:Nat)(F Z:Nat->Prop):∀(k:Nat)(i:Int)(order:List Int)(w:World),Rng all i->zBr ds all i<k->(∀x∈order,Rng all x)->order.Nodup->
  zJv w P O Mv V pb M B all F Z->zJw w O pb B order->
  Calls Tryz.prog 83 #[.int .i64 i,.pointer (some ⟨P,0,none⟩),.pointer (some ⟨O,0,none⟩),.pointer (some ⟨Mv,0,none⟩),.pointer (some ⟨V,0,none⟩)] w λe w'=>
   e= .returned (.tuple #[])∧zJw w' O pb B (z8 all k i order)∧zA (zQX O pb B) w w':=by
 intro k
 induction k with
 |zero=>intro i order w _ h;omega
 |succ k ih=>
 intro i order w hi hr ho hn hC hO;have eg:=Tryz.egFrom1;have IH:=hid ih;clear ih;obtain⟨vo,hov,hown,hmap⟩:=hO;have p1:=hC.p.cell;have p2:=hC.p.lt;have o1:=hov.cell;have o2:=hov.lt;have hl:=Tryz.lookII hmap i true;rw[zL8]at hl;by_cases hm:i∈order
 ·rw[if_pos hm]at hl;simp only[Option.getD_some,Option.isSome_some,if_true]at hl;have HV:=hid (show z8 all (k+1) i order=order from by unfold z8;rw[if_pos hm]);have HO:=hid (show zJw w O pb B order from⟨vo,hov,hown,hmap⟩);clear hm hC hov hown hmap ho hn hg;go_enter Tryz.func83,Tryz.ntmps83
  go_wp2;exact bodyPost_ret (v:= .tuple #[]) (by simp[results,Tryz.results83,go_sem]) rfl ⟨rfl,by rw[HV.out];exact HO.out,.refl _ _⟩
 ·rw[if_neg hm]at hl;simp only[Option.getD_none,Option.isSome_none,if_true]at hl;have hset:=zPe order 0 i hm;rw[Nat.zero_add]at hset;have zFd:=hid hset;have HV:=hid (show z8 all (k+1) i order=(nAt all i).kids.foldl (λo x=>z8 all k x o) (order++[i]) from by rw[z8,if_neg hm]);have hol:order.length≤1000000:=Nat.le_trans (zD6 _ _ hn ho) hall;obtain⟨A,cap,rfl,-,-,-⟩:=Row.of_own hown (by decide);have HC:=hid hC;have HOV:=hid (And.intro hov (And.intro hown hmap));have zO8:=hid (And.intro ho (And.intro hn hm));clear hC hov hown hmap ho hn hm hset;go_enter Tryz.func83,Tryz.ntmps83
  go_upto_region 4 with(first
   |(at_mapUpdate;refine zBm rfl (.tmp 17) (.tmp 18) _ rfl (zMo (P:=Tryz.prog) (k:=3) Tryz.underlying3) (e:=3) Tryz.underlying126 rfl (HOV.out.2.2) i rfl ?_;intro w1 hm1 hk1 hsz1 hce1 hfr1;have hob:=(HOV.out.1.keep hk1 HC.out.o.2);have hne:=zHl HOV.out.2.1 HOV.out.2.2;have hown1:=zl HOV.out.2.1 hk1 (λk hk e=>hne (e▸hk));have o1':=hob.cell;have o2':=hob.lt;have o3':=hob.free;have HK1:=hid (And.intro hm1 (And.intro hk1 (And.intro hsz1 hob)));have zO9:=hid hown1;clear hm1 hk1 hsz1 hce1 hfr1 hob hne hown1 o1 o2 hl)
   |(at_builtin;refine zf rfl (.tmp 21) (.tmp 23) _ rfl Tryz.underlying31 Tryz.eInt rfl (zO9.out.alloc _) rfl (news:=[.int .i64 i]) rfl (one_cell (by simp)) (by simp[Value.oneCell']) (by unfold maxLen;omega) (by omega) (by have:=HC.out.size;have:=HK1.out.2.1.size;simp;omega) ?_;intro v5 w5 hown5 hg5 hat5;obtain⟨g5,cap5,hv5⟩:=zAZ hown5;subst hv5;have hO5:=(HK1.out.2.2.2.alloc (.cells #[.int .i64 i] 3)).of_block (hg5.block O (by simp;omega) (λe=>by have:=(zO9.out.lt O e.symm).1;have:=HC.out.o.1;omega));have d0:=hO5.cell;have d1:=hO5.free;have d2:=hO5.lt;have HX:=hid (zSs HC.out HK1.out.2.1 HK1.out.1 zO9.out hO5 hg5 hown5 zFd.out);have HCX:=hid (zSr HC.out HK1.out.2.1 zO9.out hg5);clear hown5 hg5 hat5 hO5 o1' o2' o3'))
  have hkw:=HCX.out (.slice (some ⟨g5,0,none⟩) (order.length+1) cap5);have HKW:=hid hkw;have hx:=HX.out;clear hkw HX HCX d0 d1 d2 HK1 zO9;generalize (w5.setCell ⟨O,0,none⟩ (.slice (some ⟨g5,0,none⟩) (order.length+1) cap5))=W at*;have hC:=HC.out.keep HKW.out;obtain⟨n,rfl⟩:=Int.eq_ofNat_of_zero_le hi.1;have hin:n<all.length:=by have:=hi.2;omega
  have e1:=hC.m.cell;have e1l:=hC.m.lt;obtain⟨g,gcap,vc,vk,e2,hgF,e3,e4,e5,e6,hf,hic,hik⟩:=hC.maker.node_at hin;have e2l:=lt_of_cell e2;have e6l:=lt_of_cell e6;have hni:(n:Int)<(all.length:Nat):=by omega
  have hn0:(0:Int)≤(n:Int):=by omega
  have hnat:=zAI hin;have hrk:=λx hx=>hg.rank_kid hi (k:=x) hx
  rw[hnat]at hrk HV;have HIK:=hid hik;have HRK:=hid hrk;have HC5:=hid hC;have HX5:=hid hx;obtain⟨⟨KA,kcap,rfl,-,-,hk3,-⟩,-⟩:=hik;have HG:=hid hg;clear hC hic hx hnat hrk hgF hf hg;generalize all[n].kids =kids at*;go_wp2;go_loopw[35] (λix wr=>∃j:Nat,j≤kids.length∧ix= .int .i64 j∧zJw wr O pb B ((kids.take j).foldl (λo x=>z8 all k x o) (order++[(n:Int)]))∧zA (zQX O pb B) w wr∧Hid ((∀x∈(kids.take j).foldl (λo x=>z8 all k x o) (order++[(n:Int)]),Rng all x)∧((kids.take j).foldl (λo x=>z8 all k x o) (order++[(n:Int)])).Nodup)) (λix _=>kids.length-(intOf ix).toNat)
  case atStart=>
   refine⟨0,Nat.zero_le _,rfl,HX5.out,HKW.out,λx hx=> ?_,?_⟩
   ·rcases List.mem_append.1 hx with h|h
    ·exact zO8.out.1 x h
    ·simp at h;subst h;exact⟨hn0,hni⟩
   ·show(order++[(n:Int)]).Nodup;rw[List.nodup_append];exact⟨zO8.out.2.1,by simp,λa ha b hb e=>by simp at hb;subst hb;exact zO8.out.2.2 (e▸ha)⟩
  case round=>
   obtain⟨j,hj,rfl,hO,hkp,hord⟩:=hrel;clear e1 e1l e2 e3 e4 e5 e6 e2l e6l;by_cases hjl:j<kids.length
   ·obtain⟨b,off,rfl,hz,hbl,hc⟩:=HIK.out.at_ hjl;have hCr:=HC.out.keep hkp;have hzb:=HC.out.off b (Or.inr (Or.inl hz))
    have hc':wr.cell? ⟨b,off+j,none⟩=some (.int .i64 kids[j]):=by
     have hlt0:=HC.out.maker.liveZ b hz;have hb1:=hkp.block b hlt0 hzb;have hb2:=HKW.out.block b hlt0 hzb;rw[World.cell?_of_block (w:=W) (a:=⟨b,off+j,none⟩) (hb1.trans hb2.symm)];exact hc
    have v1:=hCr.v.cell;have v2:=hCr.v.lt;have hbl2:=lt_of_cell hc';have hrj:=HRK.out kids[j] (List.getElem_mem hjl);have HI:=hid (IH.out kids[j] _ wr hrj.1 (by omega) hord.out.1 hord.out.2 hCr hO)
    have hts:(kids.take (j+1)).foldl (λo x=>z8 all k x o) (order++[(n:Int)])=z8 all k kids[j] ((kids.take j).foldl (λo x=>z8 all k x o) (order++[(n:Int)])):=by
     rw[List.take_succ_eq_append_getElem hjl,List.foldl_append];rfl
    have HVS:=hid (zEA HG.out k kids[j] _ hrj.1 (by omega) hord.out.1 hord.out.2);have HTS:=hid hts;have HKP:=hid hkp;clear hts hrj hO hkp hord hCr hc;generalize (kids.take j).foldl (λo x=>z8 all k x o) (order++[(n:Int)])=od at*;generalize kids[j]=x at*;(go_wp2_with fail);refine HI.out.mono ?_;rintro e w9 ⟨rfl,hO9,hk9⟩;have H9:=hid (And.intro hO9 (HKP.out.trans hk9));clear hO9 hk9 HI v1 v2 hc';go_wp2;go_roundw
    case rel=>
     refine⟨j+1,by omega,by go_num,?_,H9.out.2,?_⟩
     ·rw[HTS.out];exact H9.out.1
     ·rw[HTS.out];exact⟨HVS.out.1.rng,HVS.out.1.nodup⟩
    case measure=>simp[intOf];omega
   ·(obtain rfl:j=kids.length:=by omega);rw[List.take_length]at hO;have HO9:=hid hO;have HKP:=hid hkp;clear hO hkp hord;go_wp2;go_end0;refine⟨rfl,?_,HKP.out⟩;rw[HV.out];exact HO9.out
theorem zQY(Z:zD)(v:Value)(xs:List Int)(w:World)(h:zL Z w v xs):
  Calls Tryz.prog 84 #[v] w λe w'=>∃v',e= .returned v'∧w'.ownsRow w.heap.size 3 1 v' xs.length (xs.map (.int .i64))∧Below w.heap.size w w':=by
 by_cases hne:xs=[]
 ·subst hne;obtain⟨⟨A,cap,rfl,h1,_,_,_⟩,_⟩:=h
  cases A with
  |none=>
   refine(Tryz.slices_Clone_int_nil _ cap w).mono ?_;rintro e w' ⟨rfl,rfl⟩;exact⟨_,rfl,World.ownsRow_nil _ _ _ _,Below.refl _ _⟩
  |some a=>
   refine(Tryz.slices_Clone_int_zero a cap w).mono ?_;rintro e w' ⟨v',rfl,h1,_,h3⟩;exact⟨v',rfl,h1,h3⟩
 ·obtain⟨b,off,cap,rfl,_,_,hle,hc⟩:=h.open_ hne;obtain⟨⟨_,_,e,_,_,hb,_⟩,_⟩:=h;refine(Tryz.slices_Clone_int b off xs.length cap xs w (Nat.le_refl _) hb hc).mono ?_;rintro e w' ⟨v',rfl,h1,_,h3⟩;rw[List.take_length]at h1;exact⟨v',rfl,h1,h3⟩
theorem zJx{w:World}{base:Nat}{e:TypeId}{g n cap:Nat}{xs:List Value}(h:w.ownsRow base e 1 (.slice (some ⟨g,0,none⟩) n cap) n xs)(j:Nat)(u:Value):
  (w.setCell ⟨g,j,none⟩ u).ownsRow base e 1 (.slice (some ⟨g,0,none⟩) n cap) n (xs.set j u):=by
 refine⟨by simpa using h.1,?_⟩;rcases h.2 with⟨h,_⟩|⟨g',cap',cur,e',hb,hg,h1,h2,h3,h4⟩
 ·cases h
 ·injection e' with e1 e2 e3;injection e1 with e1;injection e1 with e1;subst e1 e3;refine Or.inr ⟨g,cap,cur.setIfInBounds j u,rfl,hb,?_,h1,h2,by simpa using h3,?_⟩
  ·have:Blk w g e cur:=hg;exact this.set_ j u
  ·rw[<-h4];simp only[Nat.mul_one,Array.toList_setIfInBounds,List.take_set]
theorem zIR{w:World}{base:Nat}{e:TypeId}{g n cap:Nat}{xs:List Value}(h:w.ownsRow base e 1 (.slice (some ⟨g,0,none⟩) n cap) n xs){j:Nat}{u:Value}(hu:xs[j]? =some u):w.cell? ⟨g,j,none⟩=some u∧w.frozen? ⟨g,j,none⟩=false:=by
 have:=h.cells (g:=g) rfl j u hu;rw[show(⟨g,0,none⟩:Addr).add j=⟨g,j,none⟩ from by unfold Addr.add;split<;>simp_all]at this;refine⟨this,?_⟩;rcases h.2 with⟨h,_⟩|⟨g',cap',cur,e',hb,hg,_⟩
 ·cases h
 ·injection e' with e1 e2 e3;injection e1 with e1;injection e1 with e1;subst e1;exact(show Blk w g e cur from hg).frozen j
theorem zQZ{od:List Int}{k:Int}:(if false=true then Value.tuple #[(zA5 (kvO od 0) k).getD (.int .i64 0),.bool (zA5 (kvO od 0) k).isSome]else(zA5 (kvO od 0) k).getD (.int .i64 0))= .int .i64 (za od k):=by
 rw[if_neg (by simp),zL8];unfold za;split<;>simp
theorem zSt(l:List Int)(f:Int->Int){x:Nat}(hx:x<l.length):
  ((l.take (x+1)).map f++l.drop (x+1)).map (Value.int .i64)=(((l.take x).map f++l.drop x).map (Value.int .i64)).set x (.int .i64 (f l[x])):=by
 rw[List.take_succ_eq_append_getElem hx,List.drop_eq_getElem_cons hx];simp only[List.map_append,List.map_cons,List.map_nil,List.append_assoc];rw[List.set_append_right _ _ (by simp;omega)];simp[Nat.min_eq_left (Nat.le_of_lt hx)]
def zAg(ds:List zC)(g:List zB)(i:Int):List zB × Int:=if 4000<(zBH ds g i).length then([],2)else(zAQ ds g i,0)
def zEz(Z:zD)(r:List zB × Int)(w:World)(e:Ending)(w':World):Prop:=
 ∃v,e= .returned (.tuple #[.agg #[v],.int .i64 r.2])∧zO (λb=>Z b∨w.heap.size≤b) w' v r.1∧Below w.heap.size w w'
def zFs(w:World)(M:Nat):World:=
 ((((((w.alloc (.cells #[.pointer (some ⟨M,0,none⟩)] 58)).alloc (.cells #[.slice none 0 0] 30)).alloc (.map #[] 0)).alloc (.cells #[.map (some (w.heap.size+1+1))] 126)).alloc (.cells #[.slice none 0 0] 31)).alloc
  (.cells #[.func (.func 83) #[] #[.pointer (some ⟨w.heap.size+1+1+1,0,none⟩),.pointer (some ⟨w.heap.size+1+1+1+1,0,none⟩),.pointer (some ⟨w.heap.size,0,none⟩),.pointer (some ⟨w.heap.size+1+1+1+1+1,0,none⟩)]] 127))
theorem zGK(w:World)(v:Value)(t:TypeId){n:Nat}(h:w.heap.size=n):One (w.alloc (.cells #[v] t)) n v:=h▸One.new w v t
theorem zQ0{w:World}{M:Nat}{all:List zB}{F Z:Nat->Prop}(h:MkS w M all F Z):
  zJv (zFs w M) (w.heap.size+1+1+1) (w.heap.size+1+1+1+1) w.heap.size (w.heap.size+1+1+1+1+1) (w.heap.size+1+1) M (w.heap.size+1+1+1+1+1+1) all F Z∧
  zJw (zFs w M) (w.heap.size+1+1+1+1) (w.heap.size+1+1) (w.heap.size+1+1+1+1+1+1) []∧Below w.heap.size w (zFs w M)∧Blk (zFs w M) (w.heap.size+1) 30 #[.slice none 0 0]∧(zFs w M).heap.size =w.heap.size+1+1+1+1+1+1:=by
 have hb:Below w.heap.size w (zFs w M):=((((((Below.refl _ _).alloc (Nat.le_refl _) _).alloc (by simp) _).alloc (by simp;omega) _).alloc (by simp;omega) _).alloc (by simp;omega) _).alloc (by simp;omega) _;have hs:(zFs w M).heap.size =w.heap.size+1+1+1+1+1+1:=by simp[zFs]
 refine⟨⟨?_,?_,?_,h.below hb,λb hb=> ?_,by omega,by omega⟩,?_,hb,?_,hs⟩
 ·exact((zGK _ _ _ (by simp)).alloc _).alloc _
 ·exact(((((One.new w _ _).alloc _).alloc _).alloc _).alloc _).alloc _
 ·exact zGK _ _ _ (by simp)
 ·rcases hb with hb|hb|rfl|rfl|rfl
  ·have:=h.liveF b hb;omega
  ·have:=h.liveZ b hb;omega
  ·omega
  ·omega
  ·omega
 ·refine⟨.slice none 0 0,(zGK _ _ _ (by simp)).alloc _,World.ownsRow_nil _ _ _ _,?_⟩;have:=zu.made ((w.alloc (.cells #[.pointer (some ⟨M,0,none⟩)] 58)).alloc (.cells #[.slice none 0 0] 30)) encI;simp only[World.size_alloc]at this;have h2:zu encI (zFs w M) (w.heap.size+1+1) []:=this.of_block (((Below.heap_alloc _ _ _ (by simp;try omega)).trans (Below.heap_alloc _ _ _ (by simp;try omega))).trans (Below.heap_alloc _ _ _ (by simp;try omega)));exact h2
 ·have:=((((Blk.new (w.alloc (.cells #[.pointer (some ⟨M,0,none⟩)] 58)) 30 #[.slice none 0 0]).alloc (.map #[] 0)).alloc (.cells #[.map (some (w.heap.size+1+1))] 126)).alloc (.cells #[.slice none 0 0] 31)).alloc (.cells #[.func (.func 83) #[] #[.pointer (some ⟨w.heap.size+1+1+1,0,none⟩),.pointer (some ⟨w.heap.size+1+1+1+1,0,none⟩),.pointer (some ⟨w.heap.size,0,none⟩),.pointer (some ⟨w.heap.size+1+1+1+1+1,0,none⟩)]] 127);simp only[World.size_alloc]at this;exact this
def zK8(w1 wr:World)(Z:zD)(all:List zB)(od:List Int)(k:Nat):Prop:=
 ∃cur csl,Blk wr w1.heap.size 51 cur∧cur.size=od.length*4∧cur.toList.take (k*4)=csl.flatten∧
  NdL (λb=>(Z b∨w1.heap.size+1<b)∧b<wr.heap.size∧b≠w1.heap.size) wr ((od.take k).map (zAS all od)) csl∧
  Blk wr (w1.heap.size+1) 30 #[.slice (some ⟨w1.heap.size,0,none⟩) od.length od.length]∧Below w1.heap.size w1 wr
theorem zPF{w1:World}{Z:zD}{all:List zB}{od:List Int}{cz:Array Value}{n:Nat}(_h:n≤w1.heap.size)(hc:cz.size=od.length*4):
  zK8 w1 ((w1.alloc (.cells cz 51)).alloc (.cells #[.slice (some ⟨w1.heap.size,0,none⟩) od.length od.length] 30)) Z all od 0:=by
 refine⟨cz,[],(Blk.new w1 _ cz).alloc _,hc,by simp,trivial,?_,zAy w1 _ _⟩;have:=Blk.new (w1.alloc (.cells cz 51)) 30 #[.slice (some ⟨w1.heap.size,0,none⟩) od.length od.length];simp only[World.size_alloc]at this;exact this
theorem Tryz.szN:(Tryz.prog.info? 51).map (·.size)=some 4:=by kernel_rfl
theorem Row.live{Z:zD}{w:World}{A:Option Addr}{xs:List Value}(h:Row Z w A xs):Row (λb=>Z b∧b<w.heap.size) w A xs:=λhne=>by
 obtain⟨b,off,e,h1,hc⟩:=h hne;obtain⟨x,r,rfl⟩:=List.exists_cons_of_ne_nil hne;exact⟨b,off,e,⟨h1,lt_of_cell (hc 0 x rfl)⟩,hc⟩
theorem zL.live{Z:zD}{w:World}{v:Value}{xs:List Int}(h:zL Z w v xs):zL (λb=>Z b∧b<w.heap.size) w v xs:=by
 obtain⟨⟨A,cap,e,h1,h2,h2b,hr⟩,hf⟩:=h;exact⟨⟨A,cap,e,h1,h2,h2b,hr.live⟩,hf⟩
theorem NdL.rows{Z:zD}{w:World}{b:Nat}(hb:Z b):∀{fs:List zB}{csl:List (List Value)}{off:Nat},NdL Z w fs csl->(∀j u,csl.flatten[j]? =some u->w.cell? ⟨b,off+j,none⟩=some u)->zAT (zd Z w) 4 Z w fs (some ⟨b,off,none⟩)
 |[],[],_,_,_=>by unfold zAT;trivial
 |f::fs,c::cs,off,h,hc=>by
  unfold zAT;have hl:c.length=4:=h.1.size;refine⟨b,off,c,rfl,hb,λj u hu=> ?_,h.1,NdL.rows hb h.2 λj u hu=> ?_⟩
  ·refine hc j u ?_;rw[List.flatten_cons,List.getElem?_append_left (by have:=List.getElem?_eq_some_iff.1 hu;obtain⟨h,_⟩:=this;exact h)];exact hu
  ·have:=hc (4+j) u (by rw[List.flatten_cons,List.getElem?_append_right (by omega)];rw[show 4+j-c.length=j by omega];exact hu);rwa[show off+4+j=off+(4+j) by omega]
 |[],_::_,_,h,_=>h.elim
 | _::_,[],_,h,_=>h.elim
theorem zME{od:List Int}(hl:od.length≤4000)(k:Int):I64 (za od k):=by
 unfold za;split
 ·rename_i h;have:=List.idxOf_lt_length_of_mem h;unfold I64;omega
 ·unfold I64;omega
theorem below_setCells{B:Nat}{w wr:World}(h:Below B w wr){g:Nat}(hg:B≤g)(o:Nat)(vs:List Value):Below B w (wr.setCells g o vs):=by
 obtain⟨s1,s2,s3,s4⟩:=size_setCells g vs o wr;exact⟨s2.trans h.os,s3.trans h.tape,s4.trans h.output,by rw[s1];exact h.size,λk hk=>(zBX g vs o wr k (by omega)).trans (h.block k hk)⟩
theorem zQ1{w1 wv wr:World}{Z:zD}{all:List zB}{od:List Int}{k:Nat}{cs:List Value}{nd:zB}(hL:zK8 w1 wv Z all od k)(hk:k<od.length)
  (hb:Below wv.heap.size wv wr)(hn:zd (λb=>(Z b∨w1.heap.size+1<b)∧b<wr.heap.size∧b≠w1.heap.size) wr cs nd)(hget:(od.take (k+1)).map (zAS all od)=(od.take k).map (zAS all od)++[nd]):
  wr.there w1.heap.size (k*4) 4∧zK8 w1 (wr.setCells w1.heap.size (k*4) cs) Z all od (k+1):=by
 obtain⟨cur,csl,hgN,hcs,htk,hnd,hb9,hbel⟩:=hL;have hg2:=hgN.below hb hgN.lt;have hcl:=hn.size;obtain⟨s1,s2,s3,s4⟩:=size_setCells w1.heap.size cs (k*4) wr;have hkp:zA (λb=>(Z b∨w1.heap.size+1<b)∧b<wr.heap.size∧b≠w1.heap.size) wr (wr.setCells w1.heap.size (k*4) cs):=⟨s2,s3,s4,Nat.le_of_eq s1.symm,λb _ hb=>zBX _ _ _ _ _ hb.2.2⟩;refine⟨λj hj=> ?_,zC8 cur cs (k*4),csl++[cs],hg2.setCells cs (k*4) wr cur,?_,?_,?_,?_,?_⟩
 ·obtain⟨h1,h2⟩:=hg2.there (k*4+j) (by omega);rw[Nat.zero_add]at h1 h2;exact⟨h1,h2⟩
 ·have:∀(vs:List Value)(o:Nat)(c:Array Value),(zC8 c vs o).size =c.size:=by
   intro vs
   induction vs with
   |nil=>intro o c;rfl
   |cons v r ih=>intro o c;unfold zC8;rw[ih];simp
  rw[this,hcs]
 ·apply List.ext_getElem?;intro j;rw[List.flatten_append,List.flatten_singleton,<-htk];have hk4:(cur.toList.take (k*4)).length =k*4:=by simp;omega
  by_cases hj:j<(k+1)*4
  ·rw[List.getElem?_take_of_lt hj,Array.getElem?_toList,zFO _ _ _ (by omega) j];by_cases hj2:k*4≤j
   ·rw[if_pos (by omega),List.getElem?_append_right (by omega),hk4]
   ·rw[if_neg (by omega),List.getElem?_append_left (by omega),List.getElem?_take_of_lt (by omega),Array.getElem?_toList]
  ·rw[List.getElem?_eq_none (by simp;omega),List.getElem?_eq_none (by simp;omega)]
 ·rw[hget]
  have h1:zd (λb=>(Z b∨w1.heap.size+1<b)∧b<(wr.setCells w1.heap.size (k*4) cs).heap.size ∧b≠w1.heap.size) (wr.setCells w1.heap.size (k*4) cs) cs nd:=by
   rw[s1];exact hn.keep hkp
  refine NdL.snoc h1 ?_;have h2:=((hnd.keep (.of_below hb)).mono (Z':=λb=>(Z b∨w1.heap.size+1<b)∧b<wr.heap.size∧b≠w1.heap.size) λb hb2=>⟨hb2.1,Nat.lt_of_lt_of_le hb2.2.1 hb.size,hb2.2.2⟩).keep hkp;exact h2.mono λb hb=>by rw[s1];exact hb
 ·refine(hb9.below hb hb9.lt).keep (Z:=λb=>b≠w1.heap.size) ⟨s2,s3,s4,Nat.le_of_eq s1.symm,λb _ hb=>zBX _ _ _ _ _ hb⟩ (by omega)
 ·exact below_setCells (hbel.trans (hb.mono hbel.size)) (Nat.le_refl _) _ _
theorem zJy(ds:List zC)(all:List zB)(hg:Good ds all)(hall:all.length≤1000000)(M:Nat)(F Z:Nat->Prop)(i:Int)(w:World)(hi:Rng all i)(h:MkS w M all F Z):
  Calls Tryz.prog 37 #[.pointer (some ⟨M,0,none⟩),.int .i64 i] w (zEz Z (zAg ds all i) w):=by
 have eg:=Tryz.egFrom1;have hmm:= @run_makeMap Tryz.prog;have hO:=zCf hg hi;have hrk:=zCG (ds:=ds) (g:=all) i;have HO:=hid hO;have HG:=hid hg;have HM:=hid h;have HI:=hid hi;have HV:=hid (λP O Mv V pb B W hC hO=>zRc ds all hg hall P O Mv V pb M B F Z (ds.length+1) i [] W hi (by omega) (by simp) (by simp) hC hO);obtain⟨hC0,hO0,hb0,hbx0,hs0⟩:=zQ0 h;have HS0:=hid (And.intro hC0 (And.intro hO0 (And.intro hb0 (And.intro hbx0 hs0))));clear hO hg h hi hrk hC0 hO0 hb0 hbx0 hs0;go_enter Tryz.func37,Tryz.ntmps37
 go_wp2_with fail
 refine(HV.out _ _ _ _ _ _ _ HS0.out.1 HS0.out.2.1).mono ?_;rintro e w1 ⟨rfl,hO1,hk1⟩;have HO2:=hid (show zJw w1 (w.heap.size+1+1+1+1) (w.heap.size+1+1) (w.heap.size+1+1+1+1+1+1) (zBH ds all i) from hO1);have HC:=hid (HS0.out.1.keep hk1);have hbx:=HS0.out.2.2.2.1.keep hk1 (by show _∧_∧_;omega);have hbel:=zGz (((zFJ HS0.out.2.2.1)).trans (hk1.mono λb _ hb=>by show _∧_∧_;omega)) (Nat.le_refl _);have hsz1:=HC.out.size;have HB:=hid (And.intro hbx (And.intro hbel hsz1));clear hO1 hk1 hbx hbel HS0 HV;have zD1:=hid HO.out.length_le;have hlen:(zBH ds all i).length ≤1000000:=Nat.le_trans HO.out.length_le hall;obtain⟨vo,o0,oown,omap⟩:=HO2.out;have oc:=o0.cell;have ol:=o0.lt;have HOO:=hid (And.intro o0 (And.intro oown omap));have m1:=HC.out.m.cell;have m1l:=HC.out.m.lt;have p1:=HC.out.p.cell;have p1l:=HC.out.p.lt;have x1:=HB.out.1.at0;have x1f:=HB.out.1.frozen 0;have x1l:=HB.out.1.lt;have HFR:=hid (show zAg ds all i=if 4000<(zBH ds all i).length then([],2)else(zAQ ds all i,0) from rfl);have HCA:=hid (show zAQ ds all i=(zBH ds all i).map (zAS all (zBH ds all i)) from rfl);generalize zBH ds all i=od at*;obtain⟨A,cap,rfl,-,-,orow⟩:=Row.of_own oown (by decide);have zOb:=hid orow;clear o0 oown omap HO2 orow;by_cases hbig:4000<od.length
 ·have HE:=hid (HFR.out.trans (if_pos hbig));have hb':(4000:Int)<(od.length:Int):=by omega
  go_wp2;have hx:=(HB.out.1.set_ 0 (.slice none 0 0));have r0:(w1.setCell ⟨w.heap.size+1,0,none⟩ (.slice none 0 0)).cell? ⟨w.heap.size+1,0,none⟩=some (.slice none 0 0):=hx.cell 0;refine bodyPost_ret (v:= .tuple #[.agg #[.slice none 0 0],.int .i64 2]) (by simp[results,Tryz.results37,go_sem,r0]) rfl ⟨.slice none 0 0,?_,?_,HB.out.2.1.setCell (by show w.heap.size≤w.heap.size+1;omega) _⟩
  ·rw[HE.out]
  ·rw[HE.out];exact⟨none,0,rfl,Nat.le_refl _,by decide,by decide,trivial⟩
 ·have HE:=hid (HFR.out.trans (if_neg hbig));have hb':¬(4000:Int)<(od.length:Int):=by omega
  obtain⟨_,i0,z0,hi0,hz0,hsz0,hby0,hzs0⟩:=Tryz.eNode;have hms:=λW=>run_makeSlice (w:=W) 28 51 i0 z0 Tryz.underlying28 hi0 hz0 .i64 .i64 (od.length:Int) (od.length:Int) (by omega) (Int.le_refl _) (by rw[hsz0,Int.toNat_natCast];omega) (by rw[hby0];omega) (by omega)
  have hcz:=size_madeCells z0.cells (od.length*4);simp only[Int.toNat_natCast,hsz0]at hms;generalize madeCells z0.cells (od.length*4)=cz at*;clear hi0 hz0 hsz0 hby0 hzs0;have HCZ:=hid hcz;have hol:od.length≤4000:=by omega
  go_wp2;have zVk:=hid (zPF (Z:=Z) (all:=all) (HB.out.2.2) hcz);clear hms hcz x1 x1f x1l;go_loopw[29] (λix wr=>∃k:Nat,k≤od.length∧ix= .int .i64 k∧zK8 w1 wr Z all od k) (λix _=>od.length-(intOf ix).toNat);case atStart=>exact⟨0,Nat.zero_le _,rfl,zVk.out⟩
  case round=>
   (rename World=>wv);obtain⟨k,hk,rfl,hL⟩:=hrel;by_cases hkl:k<od.length
   ·obtain⟨ob,ooff,rfl,-,hoc⟩:=zOb.out (by intro e;rw[List.map_eq_nil_iff]at e;rw[e]at hkl;simp at hkl);have hoc1:=hoc k (.int .i64 od[k]) (by simp[hkl]);have hmem:od[k]∈od:=List.getElem_mem hkl;have hxr:=HO.out.rng od[k] hmem;have HKL:=hid hkl;(have hget:(od.take (k+1)).map (zAS all od)=(od.take k).map (zAS all od)++[zAS all od od[k]]:=by rw[List.take_succ_eq_append_getElem hkl,List.map_append];rfl);have zUz:=hid hget;generalize hx:od[k]=x at*;have HX:=hid hx;clear hx hget hoc hmem;obtain⟨n,rfl⟩:=Int.eq_ofNat_of_zero_le hxr.1;(have hin:n<all.length:=by have:=hxr.2;omega);(have hni:(n:Int)<(all.length:Nat):=by omega);(have hn0:(0:Int)≤(n:Int):=by omega);(have hren:zAS all od (n:Int)=⟨all[n].leaf,all[n].fact,all[n].cuts,all[n].kids.map (za od)⟩:=by unfold zAS;rw[zAI hin]);obtain⟨cur,csl,hgN,hcs,htk,hnd,hb9,hbel⟩:=hL;have hsz2:=hb9.lt;obtain⟨g,gcap,vc,vk,e2,hgF,e3,e4,e5,e6,hf,hic,hik⟩:=(HC.out.maker.below hbel).node_at hin;have hc1:=hbel.cell (p:=⟨w.heap.size,0,none⟩) m1l;rw[m1]at hc1;have hc2:=brd hbel hoc1 (lt_of_cell hoc1);have hc3:=hbel.cell (p:=⟨w.heap.size+1+1+1,0,none⟩) p1l;rw[p1]at hc3;have l1:=lt_of_cell hc1;have l2:=lt_of_cell hc2;have l3:=lt_of_cell hc3;have l4:=lt_of_cell e2;have l5:=lt_of_cell e3;have HN:=hid (And.intro hf (And.intro hic hik));have HFL:=hid (show zK8 w1 wv Z all od k from⟨cur,csl,hgN,hcs,htk,hnd,hb9,hbel⟩);have HL:=hid (And.intro hgN (And.intro hcs (And.intro htk (And.intro hnd (And.intro hb9 hbel)))));rw[hren]at zUz;obtain⟨⟨AC,capC,rfl,-,-,-,-⟩,-⟩:=hic;obtain⟨⟨AK,capK,rfl,-,-,hk8,-⟩,-⟩:=hik;(have hkk:all[n].kids.length ≤17592186044416:=by omega);clear hren hxr hgF hf hk8 hgN hcs htk hnd hb9 hbel hoc1 m1 m1l p1 p1l;generalize all[n]=nd at*;have HCL:=hid (λW(hb:Below wv.heap.size wv W)=>zQY Z (.slice AK nd.kids.length capK) nd.kids W (HN.out.2.2.keep (.of_below hb)));(go_wp2_with fail);refine(HCL.out _ (zE _ _)).mono ?_;rintro e w3 ⟨v3,rfl,hown3,hb3⟩;have hbx3:=(Blk.new wv 51 #[.bool nd.leaf,.int .i64 nd.fact,.slice AC nd.cuts.length capC,.slice AK nd.kids.length capK]).below hb3 (by simp);have hbw3:=zy (zE wv _) hb3;obtain⟨A3,cap3,rfl,-,-,-⟩:=Row.of_own hown3 (by decide);have x3:=hbx3.at3;have x3f:=hbx3.frozen 3;have x3l:=hbx3.lt;have hown4:=zl (zH5 hown3 (show wv.heap.size+1≤_ by simp)) (w':=w3.setCell ⟨wv.heap.size,3,none⟩ (.slice A3 nd.kids.length cap3)) ((zA.refl (λb=>b≠wv.heap.size) _).setCell (λ_ h=>h rfl) _) (λk hk e=>by have:=(hown3.lt k hk).1;simp at this;omega);have H4:=hid (And.intro (hbx3.set_ 3 (.slice A3 nd.kids.length cap3)) (And.intro (hbw3.setCell (p:=⟨wv.heap.size,3,none⟩) (Nat.le_refl _) (.slice A3 nd.kids.length cap3)) hown4));clear hbx3 hbw3 hown3 hown4 hb3;(go_upto_region 14 with(fail));generalize (w3.setCell ⟨wv.heap.size,3,none⟩ (.slice A3 nd.kids.length cap3))=w4 at*;have y3:=H4.out.1.at3;have y3l:=H4.out.1.lt;clear x3 x3f x3l e2 e3 e4 e5 e6 hc1 hc2 hc3 l1 l2 l3 l4 l5;go_wp2;go_loopw[49] (λix wr=>∃x:Nat,x≤nd.kids.length∧ix= .int .i64 x∧wr.ownsRow (wv.heap.size+1) 3 1 (.slice A3 nd.kids.length cap3) nd.kids.length (((nd.kids.take x).map (za od)++nd.kids.drop x).map (.int .i64))∧zA (λb=>(Value.slice A3 nd.kids.length cap3).ownBlock ≠some b) w4 wr) (λix _=>nd.kids.length-(intOf ix).toNat);case atStart=>exact⟨0,Nat.zero_le _,rfl,by simpa using H4.out.2.2,.refl _ _⟩
    case round=>
     obtain⟨x,hx,rfl,hown,hkp⟩:=hrel;clear y3 y3l;by_cases hxl:x<nd.kids.length
     ·have hA3:∃gc,A3=some ⟨gc,0,none⟩∧wv.heap.size+1≤gc:=by
       rcases hown.2 with⟨_,h0⟩|⟨gc,c',cur',hv,hge,_⟩
       ·omega
       ·injection hv with hv;exact⟨gc,hv,hge⟩
      obtain⟨gc,rfl,hgc⟩:=hA3
      have hxs:(((nd.kids.take x).map (za od)++nd.kids.drop x).map (Value.int .i64))[x]? =some (.int .i64 nd.kids[x]):=by
       rw[List.getElem?_map,List.getElem?_append_right (by simp;omega)];simp[Nat.min_eq_left (Nat.le_of_lt hxl),hxl]
      obtain⟨hcx,hcf⟩:=zIR hown hxs;have hcl:=lt_of_cell hcx;have hb3x:wr.cell? ⟨wv.heap.size,3,none⟩=some (.slice (some ⟨gc,0,none⟩) nd.kids.length cap3):=hkp.cell (by show some gc≠some wv.heap.size;intro e;injection e with e;omega) (H4.out.1.cell 3)
      have hkw:∀b,b<w1.heap.size->wr.heap[b]? =w1.heap[b]? :=λb hb=>by
       have h1:=HL.out.2.2.2.2.2;rw[hkp.block b (by have:=h1.size;have:=H4.out.2.1.size;omega) (by show some gc≠some b;intro e;injection e with e;have:=h1.size;omega),H4.out.2.1.block b (by have:=h1.size;omega),h1.block b hb]
      have hP:=HC.out.p.of_block (hkw _ HC.out.p.lt);have hpc:=hP.cell;have hpl:=hP.lt;have hmp:=HOO.out.2.2.of_block (hkw _ HOO.out.2.2.lt);have hset:((nd.kids.take (x+1)).map (za od)++nd.kids.drop (x+1)).map (Value.int .i64)=(((nd.kids.take x).map (za od)++nd.kids.drop x).map (Value.int .i64)).set x (.int .i64 (za od nd.kids[x])):=zSt nd.kids (za od) hxl;have zFd:=hid hset;have hown':wr.drew.ownsRow (wv.heap.size+1) 3 1 (.slice (some ⟨gc,0,none⟩) nd.kids.length cap3) nd.kids.length (((nd.kids.take x).map (za od)++nd.kids.drop x).map (.int .i64)):=hown;have hkp':zA (λb=>(Value.slice (some ⟨gc,0,none⟩) nd.kids.length cap3).ownBlock ≠some b) w4 wr.drew:=hkp.drew;have HX2:=hid (And.intro (zJx hown' x (.int .i64 (za od nd.kids[x]))) (hkp'.setCell (p:=⟨gc,x,none⟩) (λ_ h=>h rfl) (.int .i64 (za od nd.kids[x]))));have hbl9:=lt_of_cell hb3x;have HLK:=hid (λ(W:World)(h:zu encI W (w.heap.size+1+1) (kvO od 0))=>(show(Instr.lookup 126 (.map (some (w.heap.size+1+1))) (.int .i64 nd.kids[x]) false).run Tryz.prog W= .ok (.int .i64 (za od nd.kids[x])) W from(Tryz.lookII h nd.kids[x] false).trans (by rw[zQZ])));clear hown hkp hxs hkw hP hset hown' hkp';generalize za od nd.kids[x]=px at*;generalize nd.kids[x]=kx at*;go_wp2;refine zAO 11 (λW=>W.cell? ⟨wv.heap.size,3,none⟩=some (.slice (some ⟨gc,0,none⟩) nd.kids.length cap3)∧W.cell? ⟨w.heap.size+1+1+1,0,none⟩=some (.map (some (w.heap.size+1+1)))∧W.cell? ⟨gc,x,none⟩=some (.int .i64 kx)∧zu encI W (w.heap.size+1+1) (kvO od 0)) (by kernel_rfl) ?_;have hS:(λW:World=>W.cell? ⟨wv.heap.size,3,none⟩=some (.slice (some ⟨gc,0,none⟩) nd.kids.length cap3)∧W.cell? ⟨w.heap.size+1+1+1,0,none⟩=some (.map (some (w.heap.size+1+1)))∧W.cell? ⟨gc,x,none⟩=some (.int .i64 kx)∧zu encI W (w.heap.size+1+1) (kvO od 0)) wr.drew:=⟨hb3x,hpc,hcx,hmp⟩;have hcx6:wr.drew.cell? ⟨gc,x,none⟩=some (.int .i64 kx):=hcx;have hcf6:wr.drew.frozen? ⟨gc,x,none⟩=false:=hcf;have hcl6:gc<wr.drew.heap.size:=hcl;clear hcx hcf hcl hb3x hpc hmp hpl hbl9;generalize wr.drew=w6 at*
      (refine tkS 0 ?_ hS ?_ ?_;rotate_left;intro w hSw;obtain⟨h1,h2,h3,h4⟩:=hSw;go_simp;(try with_reducible rfl);simp only[nr])
      (refine tkS 1 ?_ hS ?_ ?_;rotate_left;intro w hSw;obtain⟨h1,h2,h3,h4⟩:=hSw;go_simp;(try with_reducible rfl);simp only[nr])
      (refine tkZ 2 ?_ hS ?_ ?_;rotate_left;intro w;go_simp;(try with_reducible rfl);simp only[nr])
      (refine tkS 3 ?_ hS ?_ ?_;rotate_left;intro w hSw;obtain⟨h1,h2,h3,h4⟩:=hSw;go_simp;(try with_reducible rfl);simp only[nr])
      (refine tkS 4 ?_ hS ?_ ?_;rotate_left;intro w hSw;obtain⟨h1,h2,h3,h4⟩:=hSw;go_simp;(try with_reducible rfl);simp only[nr])
      (refine tkS 5 ?_ hS ?_ ?_;rotate_left;intro w hSw;obtain⟨h1,h2,h3,h4⟩:=hSw;go_simp;(try with_reducible rfl);simp only[nr])
      (refine tkZ 6 ?_ hS ?_ ?_;rotate_left;intro w;go_simp;(try with_reducible rfl);simp only[nr])
      (refine tkZ 7 ?_ hS ?_ ?_;rotate_left;intro w;go_simp;(try with_reducible rfl);simp only[nr])
      (refine tkS 8 ?_ hS ?_ ?_;rotate_left;intro w hSw;obtain⟨h1,h2,h3,h4⟩:=hSw;go_simp;(try with_reducible rfl);simp only[nr])
      (refine tkS 9 ?_ hS ?_ ?_;rotate_left;intro w hSw;obtain⟨h1,h2,h3,h4⟩:=hSw;have hlk:=HLK.out _ h4;go_simp;(try with_reducible rfl);simp only[nr])
      (refine tkZ 10 ?_ hS ?_ ?_;rotate_left;intro w;go_simp;(try with_reducible rfl);simp only[nr])
      refine wS1 11 (λK hK=> ?_);(go_wp2_with fail);refine hK _ _ (Or.inl rfl) ?_;clear hK K hS hcx6 hcf6 hcl6
      (try simp only[nr])
      refine wSd ?_ _;go_wp2;go_roundw
      case rel=>
       refine⟨x+1,by omega,by go_num,?_,HX2.out.2⟩;rw[zFd.out];exact HX2.out.1
      case measure=>simp[intOf];omega
     ·(obtain rfl:x=nd.kids.length:=by omega);(have hne:∀b,b≤wv.heap.size->(Value.slice A3 nd.kids.length cap3).ownBlock ≠some b:=λb hb e=>by have:=(hown.lt b e).1;omega);have hkb:Below wv.heap.size wv wr:=H4.out.2.1.trans ⟨hkp.os,hkp.tape,hkp.output,hkp.size,λb hb=>hkp.block b (by have:=H4.out.2.1.size;omega) (hne b (by omega))⟩;have hbx4:=H4.out.1.keep hkp (hne _ (Nat.le_refl _));rw[List.take_length,List.drop_length,List.append_nil]at hown
      have hki:zL (λb=>wv.heap.size+1≤b∧b<wr.heap.size) wr (.slice A3 nd.kids.length cap3) (nd.kids.map (za od)):=by
       refine(zL.of_own (xs:=nd.kids.map (za od)) hown (λx hx=> ?_) (by rw[List.length_map];omega)).live;obtain⟨y,_,rfl⟩:=List.mem_map.1 hx;exact zME hol y
      have hw19:=HL.out.2.2.2.2.1.lt
      have hnr:zd (λb=>(Z b∨w1.heap.size+1<b)∧b<wr.heap.size∧b≠w1.heap.size) wr [.bool nd.leaf,.int .i64 nd.fact,.slice AC nd.cuts.length capC,.slice A3 nd.kids.length cap3] ⟨nd.leaf,nd.fact,nd.cuts,nd.kids.map (za od)⟩:=
       ⟨_,_,rfl,HN.out.1,(HN.out.2.1.keep (.of_below hkb)).live.mono λb hb=>⟨Or.inl hb.1,hb.2,by have:=HM.out.liveZ b hb.1;omega⟩,hki.mono λb hb=>⟨Or.inr (by omega),hb.2,by omega⟩⟩
      have hst:=zQ1 (all:=all) (od:=od) HFL.out HKL.out hkb hnr zUz.out;have HST:=hid hst.2;have hth:=hst.1;have hc0:=hbx4.at0;have hc1:=hbx4.at1;have hc2:=hbx4.at2;have hc3:=hbx4.at3;have hd0:wr.cell? ⟨w1.heap.size+1,0,none⟩=some (.slice (some ⟨w1.heap.size,0,none⟩) od.length od.length):=(HL.out.2.2.2.2.1.below hkb hw19).cell 0;have hdl:=lt_of_cell hd0;have hcl:=hbx4.lt;have hkl:=HKL.out;clear hne hkb hbx4 hown hki hnr hst hkp hw19;go_wp2_with(refine wpList_store_mid rfl 51 (.tmp 68) (.tmp 67) rfl w1.heap.size (k*4) #[.bool nd.leaf,.int .i64 nd.fact,.slice AC nd.cuts.length capC,.slice A3 nd.kids.length cap3] rfl rfl hth Tryz.szN (by simp[Value.oneCell']) ?_);go_roundw;(case rel=>exact⟨k+1,by omega,by go_num,HST.out⟩);case measure=>simp[intOf];omega
   ·(obtain rfl:k=od.length:=by omega);obtain⟨cur,csl,hgN,hcs,htk,hnd,hb9,hbel⟩:=hL;have hd0:=hb9.at0;have hdl:=hb9.lt;have hx9:=HB.out.1.below hbel HB.out.1.lt;have hx0:=hx9.at0;have hxf:=hx9.frozen 0;have hxl:=hx9.lt;have hol2:=HC.out.size
    have HP:=hid (show zO (λb=>Z b∨w.heap.size≤b) (wv.setCell ⟨w.heap.size+1,0,none⟩ (.slice (some ⟨w1.heap.size,0,none⟩) od.length od.length)) (.slice (some ⟨w1.heap.size,0,none⟩) od.length od.length) (zAg ds all i).1∧Below w.heap.size w (wv.setCell ⟨w.heap.size+1,0,none⟩ (.slice (some ⟨w1.heap.size,0,none⟩) od.length od.length)) from by
     have hle:(od.map (zAS all od)).length =od.length:=List.length_map _;refine⟨?_,(HB.out.2.1.trans (hbel.mono (by omega))).setCell (by show w.heap.size≤w.heap.size+1;omega) _⟩;rw[HE.out,HCA.out];refine zO.keep (Z:=λb=>(Z b∨w1.heap.size≤b)) ?_ ((zA.refl _ _).setCell (λ_ h=> ?_) _) |>.mono λb hb=>hb.imp_right λh=>by omega
     ·refine⟨some ⟨w1.heap.size,0,none⟩,od.length,by rw[hle],by rw[hle];exact Nat.le_refl _,by omega,by rw[hle];omega,?_⟩;rw[List.take_length]at hnd;(refine NdL.rows (Or.inr (Nat.le_refl _)) (hnd.mono λb hb=>hb.1.imp_right λh=>by omega) λj u hu=> ?_);rw[Nat.zero_add,hgN.cell];rw[<-htk,List.take_of_length_le (by simp;omega),Array.getElem?_toList]at hu;exact hu
     ·rcases h with h|h
      ·exact absurd (HM.out.liveZ _ h) (by show ¬(w.heap.size+1<w.heap.size);omega)
      ·simp at h;omega)
    have HE1:=hid (show(zAg ds all i).2=0 from by rw[HE.out]);have HR0:=hid ((hx9.set_ 0 (.slice (some ⟨w1.heap.size,0,none⟩) od.length od.length)).cell 0);clear hgN hcs htk hnd hb9 hbel hx9 m1 m1l p1 p1l hol2;go_wp2;have r0:(wv.setCell ⟨w.heap.size+1,0,none⟩ (.slice (some ⟨w1.heap.size,0,none⟩) od.length od.length)).cell? ⟨w.heap.size+1,0,none⟩=some (.slice (some ⟨w1.heap.size,0,none⟩) od.length od.length):=HR0.out;refine bodyPost_ret (v:= .tuple #[.agg #[.slice (some ⟨w1.heap.size,0,none⟩) od.length od.length],.int .i64 0]) (by simp[results,Tryz.results37,go_sem,r0]) rfl ⟨_,?_,HP.out.1,HP.out.2⟩;rw[HE1.out]
end Go.Proofs.YtonmdbdopchkaaaGreatDoor
