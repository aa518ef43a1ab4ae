/- Texts W25. -/
import Derived.Test.YtonmdbdopchkaaaGreatDoorM14
import Derived.Test.YtonmdbdopchkaaaGreatDoorM13
set_option linter.all false
namespace Go.Proofs.YtonmdbdopchkaaaGreatDoor
open Go.RowKit
set_option maxHeartbeats 4000000
set_option maxRecDepth 100000
def lastOf(l:List Int):Int:=l.getD (l.length-1) 0
theorem zPB(a b:Int)(l:List Int):lastOf (a::b::l)=lastOf (b::l):=by
 unfold lastOf;simp[List.getD_eq_getElem?_getD]
theorem zHZ:∀(last:Int)(ss ks:List Int)(s k:Int),ss.length=ks.length->
  zM last (ss++[s]) (ks++[k])=if k=lastOf (last::(zM last ss ks).2)then zM last ss ks else((zM last ss ks).1++[s],(zM last ss ks).2++[k])
 |last,[],[],s,k,_=>by
  simp only[List.nil_append,zM,lastOf];simp
 |last,a::ss,b::ks,s,k,h=>by
  have h':ss.length=ks.length:=by simpa using h
  have e:∀(x:List Int)(y:List Int),zM last (a::x) (b::y)=if b=last then zM last x y else(a::(zM b x y).1,b::(zM b x y).2):=λx y=>by rw[zM]
  rw[List.cons_append,List.cons_append,e,e];by_cases hb:b=last
  ·simp only[if_pos hb];exact zHZ last ss ks s k h'
  ·simp only[if_neg hb];rw[zHZ b ss ks s k h',zPB];split<;>simp
 | _,[],_::_,_,_,h=>by simp at h
 | _,_::_,[],_,_,h=>by simp at h
theorem zK0{starts kids:List Int}(h:starts.length=kids.length){k:Nat}(hk:k<kids.length)(last:Int):
  zM last (starts.take (k+1)) (kids.take (k+1))=if kids.getD k 0=lastOf (last::(zM last (starts.take k) (kids.take k)).2)then zM last (starts.take k) (kids.take k)
   else((zM last (starts.take k) (kids.take k)).1++[starts.getD k 0],(zM last (starts.take k) (kids.take k)).2++[kids.getD k 0]):=by
 rw[List.take_succ_eq_append_getElem hk,List.take_succ_eq_append_getElem (by omega),zHZ _ _ _ _ _ (by simp[h])];simp[List.getD_eq_getElem?_getD,List.getElem?_eq_getElem hk,List.getElem?_eq_getElem (show k<starts.length by omega)]
theorem zDW:∀(last:Int)(ss ks:List Int),(zM last ss ks).2.length ≤ks.length
 |last,s::ss,k::ks=>by
  unfold zM;split
  ·have:=zDW last ss ks;simp;omega
  ·have:=zDW k ss ks;simp;omega
 | _,[],_=>by simp[zM]
 | _,_::_,[]=>by simp[zM]
theorem zFp:∀(last:Int)(ss ks:List Int),∀k∈(zM last ss ks).1,k∈ss
 |last,s::ss,k::ks,x,hx=>by
  unfold zM at hx;split at hx
  ·exact List.mem_cons_of_mem _ (zFp last ss ks x hx)
  ·rcases List.mem_cons.1 hx with rfl|hx
   ·simp
   ·exact List.mem_cons_of_mem _ (zFp k ss ks x hx)
 | _,[],_,_,h=>absurd h (by simp[zM])
 | _,_::_,[],_,h=>absurd h (by simp[zM])
theorem zQO(starts kids:List Int)(h1:starts≠[])(h2:kids≠[]):zM (kids.getD 0 0) (starts.drop 1) (kids.drop 1)=zM (kids.getD 0 0) starts kids:=by
 cases starts with
 |nil=>exact absurd rfl h1
 |cons s ss=>
  cases kids with
  |nil=>exact absurd rfl h2
  |cons k ks=>simp only[List.drop_succ_cons,List.drop_zero,List.getD_cons_zero];rw[zJj]
theorem zCl{w:World}{base:Nat}{e:TypeId}{v:Value}{n:Nat}{xs:List Int}(h:w.ownsRow base e 1 v n (xs.map (.int .i64)))(hf:∀x∈xs,I64 x)(hl:xs.length*8≤140737488355328):zL (λb=>v.ownBlock=some b) w v xs:=by
 have hn:xs.length=n:=by have:=h.1;simpa using this
 subst hn;obtain⟨A,cap,rfl,h1,h2,h3⟩:=Row.of_own h (by omega);refine⟨⟨A,cap,rfl,h1,by simpa[maxLen]using h2,hl,λhne=> ?_⟩,hf⟩;obtain⟨b,off,rfl,_,hc⟩:=h3 hne;exact⟨b,off,rfl,rfl,hc⟩
def zPd(w:World)(M:Nat)(F Z:Nat->Prop)(r:Int × List zB)(e:Ending)(w':World):Prop:=
 e= .returned (.int .i64 r.1)∧(∃F' Z',MkS w' M r.2 F' Z'∧(∀b,F' b->F b∨w.heap.size≤b)∧∀b,Z' b->Z b∨w.heap.size≤b)∧zA (λb=>¬F b) w w'
theorem zR5{w wr w':World}{M:Nat}{F Z Zn:Nat->Prop}{r:Int × List zB}{e:Ending}(hb:Below w.heap.size w wr)(hz:∀b,Zn b->w.heap.size≤b)(h:zCC wr M F (λb=>Z b∨Zn b) r e w'):zPd w M F Z r e w':=by
 obtain⟨he,⟨F',h1,h2⟩,h3⟩:=h;exact⟨he,⟨F',_,h1,λx hx=>(h2 x hx).imp id (λh=>Nat.le_trans hb.size h),λx hx=>hx.imp id (hz x)⟩,(zA.of_below hb).trans h3⟩
def zAl(base:Nat)(wr:World)(kb koff:Nat)(vq:Value)(k0:Int)(q:List Int):Prop:=
 (q=[]∧vq= .slice (some ⟨kb,koff,none⟩) 1 1)∨(q≠[]∧wr.ownsRow base 3 1 vq (q.length+1) ((k0::q).map (.int .i64)))
theorem zAl.open_{base kb koff:Nat}{wr:World}{vq:Value}{k0:Int}{q:List Int}(h:zAl base wr kb koff vq k0 q)(h0:wr.cell? ⟨kb,koff,none⟩=some (.int .i64 k0)):
  ∃qb qoff qcap,vq= .slice (some ⟨qb,qoff,none⟩) (q.length+1) qcap∧q.length+1≤qcap∧wr.cell? ⟨qb,qoff+q.length,none⟩=some (.int .i64 (lastOf (k0::q))):=by
 rcases h with⟨rfl,rfl⟩|⟨_,h⟩
 ·exact⟨kb,koff,1,rfl,Nat.le_refl _,by simpa[lastOf]using h0⟩
 ·obtain⟨g,cap,rfl⟩:=zAZ h
  have hc:=h.cells (g:=g) rfl q.length (.int .i64 (lastOf (k0::q))) (by
   unfold lastOf
   rw[List.getElem?_map,List.length_cons,Nat.add_sub_cancel,List.getD_eq_getElem?_getD,List.getElem?_eq_getElem (by simp)];rfl)
  refine⟨g,0,cap,rfl,?_,by rwa[show(⟨g,0,none⟩:Addr).add q.length=⟨g,0+q.length,none⟩ from by unfold Addr.add;split<;>simp_all]at hc⟩;rcases h.2 with⟨hv,_⟩|⟨g',cap',cur,hv,_,_,hle,_⟩
  ·cases hv
  ·injection hv with _ _ hv;omega
def zEE(q:List Int)(vq:Value):Option Nat:=if q=[]then none else vq.ownBlock
theorem zD8{q:List Int}{vq:Value}{k:Nat}(h:zEE q vq=some k):q≠[]∧vq.ownBlock=some k:=by
 unfold zEE at h;split at h
 ·cases h
 ·rename_i hq;exact⟨hq,h⟩
section kidsAre
variable {base kb koff:Nat} {w w':World} {vq:Value} {k0:Int} {q:List Int}
theorem zAl.keep{Z:zD}(h:zAl base w kb koff vq k0 q)(hk:zA Z w w')(hz:∀k,q≠[]->vq.ownBlock=some k->Z k):zAl base w' kb koff vq k0 q:=
 h.imp id λh=>⟨h.1,zl h.2 hk λk hk'=>hz k h.1 hk'⟩
theorem zAl.alloc(h:zAl base w kb koff vq k0 q)(o:Obj):zAl base (w.alloc o) kb koff vq k0 q:=h.imp id λh=>⟨h.1,h.2.alloc o⟩
theorem zAl.lt'(h:zAl base w kb koff vq k0 q)(hq:q≠[]){k:Nat}(hk:vq.ownBlock=some k):k<w.heap.size:=by
 rcases h with⟨h,_⟩|⟨_,h⟩
 ·exact absurd h hq
 ·exact(h.lt k hk).2
theorem zAl.ge(h:zAl base w kb koff vq k0 q)(hq:q≠[]){k:Nat}(hk:vq.ownBlock=some k):base≤k:=by
 rcases h with⟨h,_⟩|⟨_,h⟩
 ·exact absurd h hq
 ·exact(h.lt k hk).1
theorem zAl.lt{q:List Int}{x:Int}(h:zAl base w kb koff vq k0 (q++[x]))(k:Nat)(hk:vq.ownBlock=some k):k<w.heap.size:=h.lt' (by simp) hk
theorem zAl.form{q:List Int}{x:Int}(h:zAl base w kb koff vq k0 (q++[x])):∃g cap,vq= .slice (some ⟨g,0,none⟩) (q.length+1+1) cap:=by
 rcases h with⟨h,_⟩|⟨_,h⟩
 ·simp at h
 ·rw[List.length_append,List.length_singleton]at h;exact zAZ h
end kidsAre
theorem zER{base kb koff g off c:Nat}{W:World}{vq:Value}{k0 x:Int}{M:List Int}{o:Oper}{a:Act}{K:Act->World->Prop}{Q:Exit->Act->World->Prop}(h:zAl base W kb koff vq k0 M)(h0:W.cell? ⟨kb,koff,none⟩=some (.int .i64 k0))
  (s y:Operand)(ho:o.op= .call {callee:= .builtin .append,args:=#[s,y],argTypes:=#[31,31]})(hs:a.eval s=vq)(hx:a.eval y= .slice (some ⟨g,off,none⟩) 1 c)(hc:W.cell? ⟨g,off,none⟩=some (.int .i64 x))(hl:M.length≤2000000)(hb:base≤W.heap.size)
  (hK:∀v' w',zAl base w' kb koff v' k0 (M++[x])->W.grownBy w' (zEE M vq)->(∀k,v'.ownBlock=some k->W.heap.size≤k∨(M≠[]∧vq.ownBlock=some k))->K (a.put o.dst v') w'):Oper.wp Tryz.prog o a W K Q:=by
 have hc':∀j u,([.int .i64 x]:List Value)[j]? =some u->W.cell? ⟨g,off+j,none⟩=some u:=λj u hu=>by
  cases j with
  |zero=>simp at hu;subst hu;simpa using hc
  |succ j=>simp at hu
 rcases h with⟨rfl,rfl⟩|⟨hne,hown⟩
 ·refine zKG s y _ ho Tryz.underlying31 Tryz.eInt hs (olds:=[.int .i64 k0]) rfl (λj u hu=> ?_) hx (news:=[.int .i64 x]) rfl hc' (by omega) (by unfold maxLen;omega) (by omega) (λv' w' ho' hg'=>hK v' w' (Or.inr ⟨by simp,?_⟩) (by unfold zEE;rw[if_pos rfl];exact hg') (λk hk=>Or.inl (ho'.lt k hk).1))
  ·cases j with
   |zero=>simp at hu;subst hu;simpa using h0
   |succ j=>simp at hu
  ·have:=ho';refine⟨by simp,?_⟩;rcases this.2 with⟨_,h⟩|⟨g',cap,cur,e,hg,h⟩
   ·omega
   ·exact Or.inr ⟨g',cap,cur,e,Nat.le_trans hb hg,h⟩
 ·refine zAz s y _ ho Tryz.underlying31 Tryz.eInt hs hown hx (news:=[.int .i64 x]) rfl hc' (by simp[Value.oneCell']) (by unfold maxLen;omega) (by omega) hb (λv' w' ho' hg' hat=>hK v' w' (Or.inr ⟨by simp,?_⟩) (by unfold zEE;rw[if_neg hne];exact hg') (λk hk=> ?_))
  ·simpa using ho'
  ·rcases hat with e|e
   ·exact Or.inr ⟨hne,e▸hk⟩
   ·rw[hk]at e;injection e with e;exact Or.inl (by omega)
def zN9(w wr:World)(i:Int)(kb koff:Nat)(k0:Int)(m:List Int × List Int)(vc vq:Value):Prop:=
 Blk wr w.heap.size 51 #[.bool false,.int .i64 i,vc,vq]∧wr.ownsRow (w.heap.size+1) 3 1 vc m.1.length (m.1.map (.int .i64))∧zAl (w.heap.size+1) wr kb koff vq k0 m.2∧(∀b,vc.ownBlock=some b->vq.ownBlock=some b->False)∧Below w.heap.size w wr∧w.heap.size+1≤wr.heap.size
theorem zQP{w wr W:World}{i:Int}{kb koff:Nat}{k0 s x:Int}{m M':List Int × List Int}{vc vq v5 v6:Value}(h1:Blk wr w.heap.size 51 #[.bool false,.int .i64 i,vc,vq])
  (h2:wr.ownsRow (w.heap.size+1) 3 1 vc m.1.length (m.1.map (.int .i64)))(h3:zAl (w.heap.size+1) wr kb koff vq k0 m.2)(h4:Below w.heap.size w wr)(h5:w.heap.size+1≤wr.heap.size)
  (hW:zA (λb=>b<wr.heap.size∧vc.ownBlock≠some b∧zEE m.2 vq≠some b) wr W)(ho:W.ownsRow (w.heap.size+1) 3 1 v5 (m.1.length+1) (m.1.map (.int .i64)++[.int .i64 s]))(hq:zAl (w.heap.size+1) W kb koff v6 k0 (m.2++[x]))(hd:∀k,v5.ownBlock=some k->v6.ownBlock=some k->False)(hM:M'=(m.1++[s],m.2++[x])):
  ∃(vc vq:Value),zN9 w ((W.setCell ⟨w.heap.size,2,none⟩ v5).setCell ⟨w.heap.size,3,none⟩ v6) i kb koff k0 M' vc vq:=by
 subst hM;have hbz:w.heap.size<wr.heap.size∧vc.ownBlock≠some w.heap.size∧zEE m.2 vq≠some w.heap.size:=⟨by omega,λh=>by have:=(h2.lt _ h).1;omega,λh=>by have hv:=zD8 h;have:=h3.ge hv.1 hv.2;omega⟩;have hsets:zA (λb=>b≠w.heap.size) W ((W.setCell ⟨w.heap.size,2,none⟩ v5).setCell ⟨w.heap.size,3,none⟩ v6):=((zA.refl _ _).setCell (λ_ h=>h rfl) _).setCell (λ_ h=>h rfl) _;refine⟨v5,v6,(((h1.keep hW hbz).set_ 2 v5).set_ 3 v6),?_,?_,hd,?_,?_⟩
 ·have:=zl ho hsets (λk hk e=>by have:=(ho.lt k hk).1;omega);simpa using this
 ·exact hq.keep hsets (λk hk hv e=>by have:=hq.ge hk hv;omega)
 ·refine zGz ?_ (Nat.le_refl _);refine(zFJ h4).trans ((hW.mono λb _ hb=>⟨by omega,λh=>by have:=(h2.lt _ h).1;omega,λh=>by have hv:=zD8 h;have:=h3.ge hv.1 hv.2;omega⟩).trans (hsets.mono λb _ hb e=>by omega))
 ·have:=hW.size;have:=hsets.size;omega
theorem zMA(M:Nat)(all:List zB)(F Z Zs:Nat->Prop)(i:Int)(vs vk:Value)(starts kids:List Int)(w:World)(h:MkS w M all F Z)(hs:zL Zs w vs starts)(hk:zL Zs w vk kids)(hz:∀b,Zs b->¬F b)
  (hi:I64 i)(hlen:starts.length=kids.length)(hne:kids≠[])(hk2:kids.length≤2000000)(hall:all.length≤1000000)(htab:zBJ w.heap.size w):
  Calls Tryz.prog 36 #[.pointer (some ⟨M,0,none⟩),.int .i64 i,vs,vk] w (zPd w M F Z (zb all i starts kids)):=by
 have hne':starts≠[]:=by intro e;subst e;simp at hlen;exact hne (List.eq_nil_of_length_eq_zero hlen.symm)
 obtain⟨sb,soff,scap,rfl,hzs,hsl,hsc,hscell⟩:=hs.open_ hne';obtain⟨kb,koff,kcap,rfl,hzk,hkl,hkc,hkcell⟩:=hk.open_ hne;have hl0:0<kids.length:=List.length_pos_iff.2 hne;obtain⟨⟨A',c',e1,e2,e3,e4,-⟩,hkf⟩:=hk;injection e1 with q1 q2 q3;subst q3;clear q1 q2;have h0:=hkcell 0 hl0;rw[Nat.add_zero]at h0;have hkc1:(1:Int)≤(kcap:Int):=by omega
 have HT:=hid (λ(k:Nat)(hk:k<kids.length)=>zK0 hlen hk (kids.getD 0 0));have HMC:=hid (λx(hx:x∈(zM (kids.getD 0 0) starts kids).1)=>hs.fit x (zFp _ _ _ x hx));have zD1:=hid hlen;clear hlen;go_enter Tryz.func36,Tryz.ntmps36
 go_wp2;have HSH:=hid (λ(k:Nat)=>zDW (kids.getD 0 0) (starts.take k) (kids.take k));have zDO:=hid (show zb all i starts kids=if(zM (kids.getD 0 0) starts kids).2=[]then(kids.getD 0 0,all)else zW all ⟨false,i,(zM (kids.getD 0 0) starts kids).1,kids.getD 0 0::(zM (kids.getD 0 0) starts kids).2⟩ from rfl);have HS:=hid hscell;have HKC:=hid hkcell;have HM:=hid h;have HZ:=hid hz;clear hscell hkcell h hz h0 hs;go_loopw[18] (λix wr=>∃(k:Nat)(vc vq:Value),k≤kids.length∧ix= .int .i64 k∧zN9 w wr i kb koff (kids.getD 0 0) (zM (kids.getD 0 0) (starts.take k) (kids.take k)) vc vq) (λix _=>kids.length-(intOf ix).toNat)
 case atStart=>
  refine⟨0,.slice none 0 0,.slice (some ⟨kb,koff,none⟩) 1 1,Nat.zero_le _,rfl,Blk.new w _ _,World.ownsRow_nil _ _ _ _,Or.inl ⟨rfl,rfl⟩,λb hb=>by simp[Value.ownBlock]at hb,zE w _,by simp⟩
 case round=>
  obtain⟨k,vc,vq,hk,rfl,hbox,hcu,hki,hdis,hbel,hsz⟩:=hrel;by_cases hlt:k<kids.length
  ·have hsb:sb<w.heap.size:=lt_of_cell (HS.out k (by have:=zD1.out;omega));have hkb:kb<w.heap.size:=lt_of_cell (HKC.out k hlt);have hc1:=(hbel.cell (p:=⟨kb,koff+k,none⟩) hkb).trans (HKC.out k hlt);have hc2:=(hbel.cell (p:=⟨sb,soff+k,none⟩) hsb).trans (HS.out k (by have:=zD1.out;omega));have hc0:=(hbel.cell (p:=⟨kb,koff,none⟩) hkb).trans (HKC.out 0 hl0);obtain⟨qb,qoff,qcap,hvq,hqc,hqcell⟩:=hki.open_ hc0;have hqb:=lt_of_cell hqcell;have b2:=hbox.at2;have b3:=hbox.at3;have htk:=HT.out k hlt;have hsh:(zM (kids.getD 0 0) (starts.take k) (kids.take k)).2.length ≤2000000:=Nat.le_trans (HSH.out k) (by simp;omega);(have hlk:k<starts.length:=by have:=zD1.out;omega);have HLC:=hid (show(zM (kids.getD 0 0) (starts.take k) (kids.take k)).1.length ≤2000000 from by rw[zE8];exact hsh);generalize hm:zM (kids.getD 0 0) (starts.take k) (kids.take k)=m at*;generalize hlast:lastOf (kids.getD 0 0::m.2)=last at*;have HTK:=hid htk;have HR:=hid (And.intro hbox (And.intro hcu (And.intro hki (And.intro hdis (And.intro hbel hsz)))));have HVQ:=hid hvq;have HMM:=hid (And.intro hm hlast);clear htk hbox hcu hki hdis hbel hsz hm hlast;generalize kids.getD k 0=x at*;generalize starts.getD k 0=s at*;generalize kids.getD 0 0=k0 at*;subst hvq;(have q1:(0:Int)≤(m.2.length:Int):=by omega);(have q2:m.2.length<m.2.length+1:=by omega);have hsz:=HR.out.2.2.2.2.2;by_cases hxl:x=last
   ·(have hx:(x !=last)=false:=by simp[hxl]);have HN:=hid ((HTK.out).trans (if_pos hxl));clear hxl;go_wp2;go_roundw
    case rel=>
     refine⟨k+1,vc,.slice (some ⟨qb,qoff,none⟩) (m.2.length+1) qcap,by omega,by go_num,?_⟩;rw[HN.out];exact HR.out
    case measure=>simp[intOf];omega
   ·(have hx:(x !=last)=true:=by simp[hxl]);have HN:=hid ((HTK.out).trans (if_neg hxl));clear hxl;go_wp2;have hlc:=HLC.out;have HVQ:=hid (λk(hq:m.2≠[])(hk:(Value.slice (some ⟨qb,qoff,none⟩) (m.2.length+1) qcap).ownBlock =some k)=>HR.out.2.2.1.lt' hq hk);have HVC:=hid (λk(hk:vc.ownBlock=some k)=>(HR.out.2.1.lt k hk).2);have zHm:=hid HR.out.2.2.2.1;have zT0:=hid HR.out.1;have HBZ:=hid (show w.heap.size<wr.heap.size∧vc.ownBlock≠some w.heap.size∧zEE m.2 (Value.slice (some ⟨qb,qoff,none⟩) (m.2.length+1) qcap)≠some w.heap.size from⟨by omega,λh=>by have:=(HR.out.2.1.lt _ h).1;omega,λh=>by have hv:=zD8 h;have:=HR.out.2.2.1.ge hv.1 hv.2;omega⟩);have zUw:=hid (λb(hb:b<w.heap.size)=>(show b<wr.heap.size∧vc.ownBlock≠some b∧zEE m.2 (Value.slice (some ⟨qb,qoff,none⟩) (m.2.length+1) qcap)≠some b from⟨by omega,λh=>by have:=(HR.out.2.1.lt _ h).1;omega,λh=>by have hv:=zD8 h;have:=HR.out.2.2.1.ge hv.1 hv.2;omega⟩));have HKB:=hid (λW(hW:zA (λb=>b<wr.heap.size∧vc.ownBlock≠some b∧zEE m.2 (Value.slice (some ⟨qb,qoff,none⟩) (m.2.length+1) qcap)≠some b) wr W)=>(show W.cell? ⟨kb,koff,none⟩=some (.int .i64 k0) from hW.cell (zUw.out kb hkb) hc0));have HS:=hid (λW(hW:zA (λb=>b<wr.heap.size∧vc.ownBlock≠some b∧zEE m.2 (Value.slice (some ⟨qb,qoff,none⟩) (m.2.length+1) qcap)≠some b) wr W)=>(show W.cell? ⟨w.heap.size,2,none⟩=some vc∧W.cell? ⟨w.heap.size,3,none⟩=some (.slice (some ⟨qb,qoff,none⟩) (m.2.length+1) qcap)∧W.cell? ⟨sb,soff+k,none⟩=some (.int .i64 s) from⟨hW.cell HBZ.out b2,hW.cell HBZ.out b3,hW.cell (zUw.out sb hsb) hc2⟩))
    have zLQ:=hid (λW v5 v6(hW:zA (λb=>b<wr.heap.size∧vc.ownBlock≠some b∧zEE m.2 (Value.slice (some ⟨qb,qoff,none⟩) (m.2.length+1) qcap)≠some b) wr W)(ho:W.ownsRow (w.heap.size+1) 3 1 v5 (m.1.length+1) (m.1.map (.int .i64)++[.int .i64 s]))(hq:zAl (w.heap.size+1) W kb koff v6 k0 (m.2++[x]))(hd:∀k,v5.ownBlock=some k->v6.ownBlock=some k->False)=>
     zQP (M':=zM k0 (starts.take (k+1)) (kids.take (k+1))) HR.out.1 HR.out.2.1 HR.out.2.2.1 HR.out.2.2.2.2.1 HR.out.2.2.2.2.2 hW ho hq hd HN.out)
    have HI0:=hid (show zA (λb=>b<wr.heap.size∧vc.ownBlock≠some b∧zEE m.2 (Value.slice (some ⟨qb,qoff,none⟩) (m.2.length+1) qcap)≠some b) wr wr.drew from(zA.refl _ _).drew);have HC0:=hid (show wr.drew.ownsRow (w.heap.size+1) 3 1 vc m.1.length (m.1.map (.int .i64)) from HR.out.2.1);have HQ0:=hid (show zAl (w.heap.size+1) wr.drew kb koff (.slice (some ⟨qb,qoff,none⟩) (m.2.length+1) qcap) k0 m.2 from HR.out.2.2.1);refine zAO 14 (λW=>W.cell? ⟨w.heap.size,2,none⟩=some vc∧W.cell? ⟨w.heap.size,3,none⟩=some (.slice (some ⟨qb,qoff,none⟩) (m.2.length+1) qcap)∧W.cell? ⟨sb,soff+k,none⟩=some (.int .i64 s)) (by kernel_rfl) ?_;have hS:=HS.out _ HI0.out;generalize wr.drew=W0 at*;clear b2 b3 hc0 hc1 hc2 hqcell
    (refine tkS 0 ?_ hS ?_ ?_;rotate_left;intro w hSw;obtain⟨h1,h2,h3⟩:=hSw;go_simp;(try with_reducible rfl);simp only[nr])
    (refine tkS 1 ?_ hS ?_ ?_;rotate_left;intro w hSw;obtain⟨h1,h2,h3⟩:=hSw;go_simp;(try with_reducible rfl);simp only[nr])
    (refine tkS 2 ?_ hS ?_ ?_;rotate_left;intro w hSw;obtain⟨h1,h2,h3⟩:=hSw;go_simp;(try with_reducible rfl);simp only[nr])
    (refine tkS 3 ?_ hS ?_ ?_;rotate_left;intro w hSw;obtain⟨h1,h2,h3⟩:=hSw;go_simp;(try with_reducible rfl);simp only[nr])
    (refine tkS 4 ?_ hS ?_ ?_;rotate_left;intro w hSw;obtain⟨h1,h2,h3⟩:=hSw;go_simp;(try with_reducible rfl);simp only[nr])
    (refine tkS 5 ?_ hS ?_ ?_;rotate_left;intro w hSw;obtain⟨h1,h2,h3⟩:=hSw;go_simp;(try with_reducible rfl);simp only[nr])
    (refine tkS 8 ?_ hS ?_ ?_;rotate_left;intro w hSw;obtain⟨h1,h2,h3⟩:=hSw;go_simp;(try with_reducible rfl);simp only[nr])
    (refine tkS 9 ?_ hS ?_ ?_;rotate_left;intro w hSw;obtain⟨h1,h2,h3⟩:=hSw;go_simp;(try with_reducible rfl);simp only[nr])
    (refine tkZ 10 ?_ hS ?_ ?_;rotate_left;intro w;go_simp;(try with_reducible rfl);simp only[nr])
    refine wS2 6 11 (λK hK=> ?_) (λK hK=> ?_)
    ·
     (go_wp2_with fail);refine hK _ _ (Or.inr (HS.out _ (HI0.out.alloc (.cells #[.int .i64 s] 3)))) ?_;clear hK K
     (try simp only[nr])
     have HI1:=hid (HI0.out.alloc (.cells #[.int .i64 s] 3));have HZ1:=hid (show W0.heap.size<(W0.alloc (.cells #[.int .i64 s] 3)).heap.size by simp);have HA1:=hid ((Blk.new W0 3 #[.int .i64 s]).cell 0);have hGA:=hid (show wr.heap.size≤W0.heap.size from HI0.out.size);have HC1:=hid (HC0.out.alloc (.cells #[.int .i64 s] 3));have HQ1:=hid (HQ0.out.alloc (.cells #[.int .i64 s] 3));generalize (W0.alloc (.cells #[.int .i64 s] 3))=W1 at*;have hS:=HS.out _ HI1.out;refine wS2 7 11 (λK hK=> ?_) (λK hK=> ?_)
     ·
      refine zAz (.tmp 34) (.tmp 39) _ rfl Tryz.underlying31 Tryz.eInt rfl HC1.out rfl (news:=[.int .i64 s]) rfl (one_cell HA1.out) (by simp[Value.oneCell']) (by unfold maxLen;omega) (by omega) (by have:=HI1.out.size;omega) ?_;intro v5 W2 hown5 hg5 hat5;refine hK _ _ (Or.inr (HS.out _ (HI1.out.grown hg5 (λk hk _ hz=>hz.2.1 hk)))) ?_;clear hK K
      (try simp only[nr])
      have HI2:=hid (HI1.out.grown hg5 (λk hk _ hz=>hz.2.1 hk));have HC2:=hid hown5;have HQ2:=hid (HQ1.out.keep (Z:=λb=>vc.ownBlock≠some b) ((zA.refl _ _).grown hg5 (λk hk _ hz=>hz hk)) (λk _ hk hv=>zHm.out k hv hk));have zJA:=hid (λk(hk:v5.ownBlock=some k)=>(show vc.ownBlock=some k∨wr.heap.size≤k from(by have hz:=HI1.out.size;rcases hat5 with h|h;exact Or.inl (h▸hk);rw[hk]at h;injection h with h;exact Or.inr (by omega))));have HZ2:=hid hg5.size;clear hown5 hg5 hat5;have hS:=HS.out _ HI2.out
      (refine tkZ 13 ?_ hS ?_ ?_;rotate_left;intro w;go_simp;(try with_reducible rfl);simp only[nr])
      refine wS1 11 (λK hK=> ?_);(go_wp2_with fail);refine hK _ _ (Or.inr (HS.out _ (HI2.out.alloc (.cells #[.int .i64 x] 3)))) ?_;clear hK K
      (try simp only[nr])
      have HI3:=hid (HI2.out.alloc (.cells #[.int .i64 x] 3));have HZ3:=hid (show W2.heap.size<(W2.alloc (.cells #[.int .i64 x] 3)).heap.size by simp);have HB3:=hid ((Blk.new W2 3 #[.int .i64 x]).cell 0);have hGB:=hid (show wr.heap.size≤W2.heap.size from HI2.out.size);have HC3:=hid (HC2.out.alloc (.cells #[.int .i64 x] 3));have HQ3:=hid (HQ2.out.alloc (.cells #[.int .i64 x] 3));generalize (W2.alloc (.cells #[.int .i64 x] 3))=W3 at*;have hS:=HS.out _ HI3.out;refine wS1 12 (λK hK=> ?_);refine zER (M:=m.2) HQ3.out (HKB.out _ HI3.out) (.tmp 42) (.tmp 44) rfl rfl rfl HB3.out (by omega) (by have:=HI3.out.size;omega) ?_;intro v6 W4 hki6 hg6 hat6;refine hK _ _ (Or.inr (HS.out _ (HI3.out.grown hg6 (λk hk _ hz=>hz.2.2 hk)))) ?_;clear hK K
      (try simp only[nr])
      have HI4:=hid (HI3.out.grown hg6 (λk hk _ hz=>hz.2.2 hk));have HQ4:=hid hki6;have zUx:=hid (λk(hk:v6.ownBlock=some k)=>(show(Value.slice (some ⟨qb,qoff,none⟩) (m.2.length+1) qcap).ownBlock =some k∨wr.heap.size≤k from(by have hz:=HI3.out.size;rcases hat6 k hk with h|h;exact Or.inr (by omega);exact Or.inl h.2)));have HC4:=hid (zl (Z:=λb=>zEE m.2 (Value.slice (some ⟨qb,qoff,none⟩) (m.2.length+1) qcap)≠some b) HC3.out ((zA.refl _ _).grown hg6 (λk hk _ hz=>hz hk)) (λk hk hv=>(by have hv2:=zD8 hv;rcases zJA.out k hk with h|h;exact zHm.out k h hv2.2;have:=HVQ.out k hv2.1 hv2.2;omega)));have HDD:=hid (λk(h5:v5.ownBlock=some k)(h6:v6.ownBlock=some k)=>(show False from(by have hl:=(HC3.out.lt k h5).2;rcases hat6 k h6 with h|h;omega;(rcases zJA.out k h5 with h'|h';exact zHm.out k h' h.2;have:=HVQ.out k h.1 h.2;omega))));have HZ4:=hid hg6.size;clear hki6 hg6 hat6;have hS:=HS.out _ HI4.out;obtain⟨g5,cap5,rfl⟩:=zAZ HC4.out;obtain⟨g6,c6,rfl⟩:=HQ4.out.form;have hbx:=(zT0.out).keep HI4.out HBZ.out;have x2:=hbx.cell 2;have x3:=hbx.cell 3;have y2:=hbx.frozen 2;have y3:=hbx.frozen 3;have hblt:=hbx.lt;have HBX:=hid hbx;clear hbx;refine wS1 14 (λK hK=> ?_);(go_wp2_with fail);refine hK _ _ (Or.inl rfl) ?_;clear hK K
      (try simp only[nr])
      refine wS1 15 (λK hK=> ?_);(go_wp2_with fail);refine hK _ _ (Or.inl rfl) ?_;clear hK K
      (try simp only[nr])
      refine wS1 16 (λK hK=> ?_);(go_wp2_with fail);refine hK _ _ (Or.inl rfl) ?_;clear hK K hS
      (try simp only[nr])
      refine wSd ?_ _;have HL:=hid (zLQ.out _ _ _ HI4.out HC4.out HQ4.out HDD.out);clear x2 x3 y2 y3 hblt;go_wp2;go_roundw;(case rel=>(obtain⟨vc1,vq1,hl1⟩:=HL.out;exact⟨k+1,vc1,vq1,by omega,by go_num,hl1⟩));case measure=>simp[intOf];omega
     ·
      (go_wp2_with fail);refine hK _ _ (Or.inr (HS.out _ (HI1.out.alloc (.cells #[.int .i64 x] 3)))) ?_;clear hK K
      (try simp only[nr])
      have HI2:=hid (HI1.out.alloc (.cells #[.int .i64 x] 3));have HZ2:=hid (show W1.heap.size<(W1.alloc (.cells #[.int .i64 x] 3)).heap.size by simp);have zh:=hid ((Blk.new W1 3 #[.int .i64 x]).cell 0);have hGB:=hid (show wr.heap.size≤W1.heap.size from HI1.out.size);have HA2:=hid (zCa HA1.out (.cells #[.int .i64 x] 3));have HC2:=hid (HC1.out.alloc (.cells #[.int .i64 x] 3));have HQ2:=hid (HQ1.out.alloc (.cells #[.int .i64 x] 3));generalize (W1.alloc (.cells #[.int .i64 x] 3))=W2 at*;have hS:=HS.out _ HI2.out;refine wS1 7 (λK hK=> ?_);refine zAz (.tmp 34) (.tmp 39) _ rfl Tryz.underlying31 Tryz.eInt rfl HC2.out rfl (news:=[.int .i64 s]) rfl (one_cell HA2.out) (by simp[Value.oneCell']) (by unfold maxLen;omega) (by omega) (by have:=HI2.out.size;omega) ?_;intro v5 W3 hown5 hg5 hat5;refine hK _ _ (Or.inr (HS.out _ (HI2.out.grown hg5 (λk hk _ hz=>hz.2.1 hk)))) ?_;clear hK K
      (try simp only[nr])
      have HI3:=hid (HI2.out.grown hg5 (λk hk _ hz=>hz.2.1 hk));have HC3:=hid hown5;have HQ3:=hid (HQ2.out.keep (Z:=λb=>vc.ownBlock≠some b) ((zA.refl _ _).grown hg5 (λk hk _ hz=>hz hk)) (λk _ hk hv=>zHm.out k hv hk));have zJA:=hid (λk(hk:v5.ownBlock=some k)=>(show vc.ownBlock=some k∨wr.heap.size≤k from(by have hz:=HI2.out.size;rcases hat5 with h|h;exact Or.inl (h▸hk);rw[hk]at h;injection h with h;exact Or.inr (by omega))));have HB3:=hid (hg5.cell zh.out (λh=>by have h1:=HVC.out _ h.symm;have h2:=hGB.out;simp at h1;omega));have HZ3:=hid hg5.size;clear hown5 hg5 hat5;have hS:=HS.out _ HI3.out
      (refine tkZ 13 ?_ hS ?_ ?_;rotate_left;intro w;go_simp;(try with_reducible rfl);simp only[nr])
      refine wS1 12 (λK hK=> ?_);refine zER (M:=m.2) HQ3.out (HKB.out _ HI3.out) (.tmp 42) (.tmp 44) rfl rfl rfl HB3.out (by omega) (by have:=HI3.out.size;omega) ?_;intro v6 W4 hki6 hg6 hat6;refine hK _ _ (Or.inr (HS.out _ (HI3.out.grown hg6 (λk hk _ hz=>hz.2.2 hk)))) ?_;clear hK K
      (try simp only[nr])
      have HI4:=hid (HI3.out.grown hg6 (λk hk _ hz=>hz.2.2 hk));have HQ4:=hid hki6;have zUx:=hid (λk(hk:v6.ownBlock=some k)=>(show(Value.slice (some ⟨qb,qoff,none⟩) (m.2.length+1) qcap).ownBlock =some k∨wr.heap.size≤k from(by have hz:=HI3.out.size;rcases hat6 k hk with h|h;exact Or.inr (by omega);exact Or.inl h.2)));have HC4:=hid (zl (Z:=λb=>zEE m.2 (Value.slice (some ⟨qb,qoff,none⟩) (m.2.length+1) qcap)≠some b) HC3.out ((zA.refl _ _).grown hg6 (λk hk _ hz=>hz hk)) (λk hk hv=>(by have hv2:=zD8 hv;rcases zJA.out k hk with h|h;exact zHm.out k h hv2.2;have:=HVQ.out k hv2.1 hv2.2;omega)));have HDD:=hid (λk(h5:v5.ownBlock=some k)(h6:v6.ownBlock=some k)=>(show False from(by have hl:=(HC3.out.lt k h5).2;rcases hat6 k h6 with h|h;omega;(rcases zJA.out k h5 with h'|h';exact zHm.out k h' h.2;have:=HVQ.out k h.1 h.2;omega))));have HZ4:=hid hg6.size;clear hki6 hg6 hat6;have hS:=HS.out _ HI4.out;obtain⟨g5,cap5,rfl⟩:=zAZ HC4.out;obtain⟨g6,c6,rfl⟩:=HQ4.out.form;have hbx:=(zT0.out).keep HI4.out HBZ.out;have x2:=hbx.cell 2;have x3:=hbx.cell 3;have y2:=hbx.frozen 2;have y3:=hbx.frozen 3;have hblt:=hbx.lt;have HBX:=hid hbx;clear hbx;refine wS1 14 (λK hK=> ?_);(go_wp2_with fail);refine hK _ _ (Or.inl rfl) ?_;clear hK K
      (try simp only[nr])
      refine wS1 15 (λK hK=> ?_);(go_wp2_with fail);refine hK _ _ (Or.inl rfl) ?_;clear hK K
      (try simp only[nr])
      refine wS1 16 (λK hK=> ?_);(go_wp2_with fail);refine hK _ _ (Or.inl rfl) ?_;clear hK K hS
      (try simp only[nr])
      refine wSd ?_ _;have HL:=hid (zLQ.out _ _ _ HI4.out HC4.out HQ4.out HDD.out);clear x2 x3 y2 y3 hblt;go_wp2;go_roundw;(case rel=>(obtain⟨vc1,vq1,hl1⟩:=HL.out;exact⟨k+1,vc1,vq1,by omega,by go_num,hl1⟩));case measure=>simp[intOf];omega
    ·
     (go_wp2_with fail);refine hK _ _ (Or.inr (HS.out _ (HI0.out.alloc (.cells #[.int .i64 x] 3)))) ?_;clear hK K
     (try simp only[nr])
     have HI1:=hid (HI0.out.alloc (.cells #[.int .i64 x] 3));have HZ1:=hid (show W0.heap.size<(W0.alloc (.cells #[.int .i64 x] 3)).heap.size by simp);have HB1:=hid ((Blk.new W0 3 #[.int .i64 x]).cell 0);have hGB:=hid (show wr.heap.size≤W0.heap.size from HI0.out.size);have HC1:=hid (HC0.out.alloc (.cells #[.int .i64 x] 3));have HQ1:=hid (HQ0.out.alloc (.cells #[.int .i64 x] 3));generalize (W0.alloc (.cells #[.int .i64 x] 3))=W1 at*;have hS:=HS.out _ HI1.out;refine wS1 6 (λK hK=> ?_);(go_wp2_with fail);refine hK _ _ (Or.inr (HS.out _ (HI1.out.alloc (.cells #[.int .i64 s] 3)))) ?_;clear hK K
     (try simp only[nr])
     have HI2:=hid (HI1.out.alloc (.cells #[.int .i64 s] 3));have HZ2:=hid (show W1.heap.size<(W1.alloc (.cells #[.int .i64 s] 3)).heap.size by simp);have HA2:=hid ((Blk.new W1 3 #[.int .i64 s]).cell 0);have hGA:=hid (show wr.heap.size≤W1.heap.size from HI1.out.size);have zh:=hid (zCa HB1.out (.cells #[.int .i64 s] 3));have HC2:=hid (HC1.out.alloc (.cells #[.int .i64 s] 3));have HQ2:=hid (HQ1.out.alloc (.cells #[.int .i64 s] 3));generalize (W1.alloc (.cells #[.int .i64 s] 3))=W2 at*;have hS:=HS.out _ HI2.out;refine wS1 7 (λK hK=> ?_);refine zAz (.tmp 34) (.tmp 39) _ rfl Tryz.underlying31 Tryz.eInt rfl HC2.out rfl (news:=[.int .i64 s]) rfl (one_cell HA2.out) (by simp[Value.oneCell']) (by unfold maxLen;omega) (by omega) (by have:=HI2.out.size;omega) ?_;intro v5 W3 hown5 hg5 hat5;refine hK _ _ (Or.inr (HS.out _ (HI2.out.grown hg5 (λk hk _ hz=>hz.2.1 hk)))) ?_;clear hK K
     (try simp only[nr])
     have HI3:=hid (HI2.out.grown hg5 (λk hk _ hz=>hz.2.1 hk));have HC3:=hid hown5;have HQ3:=hid (HQ2.out.keep (Z:=λb=>vc.ownBlock≠some b) ((zA.refl _ _).grown hg5 (λk hk _ hz=>hz hk)) (λk _ hk hv=>zHm.out k hv hk));have zJA:=hid (λk(hk:v5.ownBlock=some k)=>(show vc.ownBlock=some k∨wr.heap.size≤k from(by have hz:=HI2.out.size;rcases hat5 with h|h;exact Or.inl (h▸hk);rw[hk]at h;injection h with h;exact Or.inr (by omega))));have HB3:=hid (hg5.cell zh.out (λh=>by have h1:=HVC.out _ h.symm;have h2:=hGB.out;simp at h1;omega));have HZ3:=hid hg5.size;clear hown5 hg5 hat5;have hS:=HS.out _ HI3.out
     (refine tkZ 13 ?_ hS ?_ ?_;rotate_left;intro w;go_simp;(try with_reducible rfl);simp only[nr])
     refine wS1 12 (λK hK=> ?_);refine zER (M:=m.2) HQ3.out (HKB.out _ HI3.out) (.tmp 42) (.tmp 44) rfl rfl rfl HB3.out (by omega) (by have:=HI3.out.size;omega) ?_;intro v6 W4 hki6 hg6 hat6;refine hK _ _ (Or.inr (HS.out _ (HI3.out.grown hg6 (λk hk _ hz=>hz.2.2 hk)))) ?_;clear hK K
     (try simp only[nr])
     have HI4:=hid (HI3.out.grown hg6 (λk hk _ hz=>hz.2.2 hk));have HQ4:=hid hki6;have zUx:=hid (λk(hk:v6.ownBlock=some k)=>(show(Value.slice (some ⟨qb,qoff,none⟩) (m.2.length+1) qcap).ownBlock =some k∨wr.heap.size≤k from(by have hz:=HI3.out.size;rcases hat6 k hk with h|h;exact Or.inr (by omega);exact Or.inl h.2)));have HC4:=hid (zl (Z:=λb=>zEE m.2 (Value.slice (some ⟨qb,qoff,none⟩) (m.2.length+1) qcap)≠some b) HC3.out ((zA.refl _ _).grown hg6 (λk hk _ hz=>hz hk)) (λk hk hv=>(by have hv2:=zD8 hv;rcases zJA.out k hk with h|h;exact zHm.out k h hv2.2;have:=HVQ.out k hv2.1 hv2.2;omega)));have HDD:=hid (λk(h5:v5.ownBlock=some k)(h6:v6.ownBlock=some k)=>(show False from(by have hl:=(HC3.out.lt k h5).2;rcases hat6 k h6 with h|h;omega;(rcases zJA.out k h5 with h'|h';exact zHm.out k h' h.2;have:=HVQ.out k h.1 h.2;omega))));have HZ4:=hid hg6.size;clear hki6 hg6 hat6;have hS:=HS.out _ HI4.out;obtain⟨g5,cap5,rfl⟩:=zAZ HC4.out;obtain⟨g6,c6,rfl⟩:=HQ4.out.form;have hbx:=(zT0.out).keep HI4.out HBZ.out;have x2:=hbx.cell 2;have x3:=hbx.cell 3;have y2:=hbx.frozen 2;have y3:=hbx.frozen 3;have hblt:=hbx.lt;have HBX:=hid hbx;clear hbx;refine wS1 14 (λK hK=> ?_);(go_wp2_with fail);refine hK _ _ (Or.inl rfl) ?_;clear hK K
     (try simp only[nr])
     refine wS1 15 (λK hK=> ?_);(go_wp2_with fail);refine hK _ _ (Or.inl rfl) ?_;clear hK K
     (try simp only[nr])
     refine wS1 16 (λK hK=> ?_);(go_wp2_with fail);refine hK _ _ (Or.inl rfl) ?_;clear hK K hS
     (try simp only[nr])
     refine wSd ?_ _;have HL:=hid (zLQ.out _ _ _ HI4.out HC4.out HQ4.out HDD.out);clear x2 x3 y2 y3 hblt;go_wp2;go_roundw;(case rel=>(obtain⟨vc1,vq1,hl1⟩:=HL.out;exact⟨k+1,vc1,vq1,by omega,by go_num,hl1⟩));case measure=>simp[intOf];omega
  ·(obtain rfl:k=kids.length:=by omega);(have hst:starts.take kids.length=starts:=by rw[<-zD1.out];exact List.take_length);rw[hst,List.take_length]at hcu hki;have hc0:wr.cell? ⟨kb,koff,none⟩=some (.int .i64 (kids.getD 0 0)):=(hbel.cell (p:=⟨kb,koff,none⟩) hkl).trans (HKC.out 0 hl0);obtain⟨qb,qoff,qcap,hvq,hqc,-⟩:=hki.open_ hc0;have b3:=hbox.at3;have hsh:(zM (kids.getD 0 0) starts kids).2.length ≤2000000:=Nat.le_trans (zDW _ _ _) hk2;have hml:=zE8 (kids.getD 0 0) starts kids;generalize hm:zM (kids.getD 0 0) starts kids=m at*;have HR:=hid (And.intro hbox (And.intro hcu (And.intro hki (And.intro hdis (And.intro hbel hsz)))));have HVQ:=hid hvq;have HMM:=hid hm;have HML:=hid hml;have HK0:=hid (hkf _ (zAf hl0));have HMD:=hid (zQO starts kids hne' hne);clear hst hbox hcu hki hdis hbel hm hml HSH HT HKC HS;generalize kids.getD 0 0=k0 at*;subst hvq;obtain⟨mc,mq⟩:=m;simp only at HR HML HMM b3 hsh hqc
   cases mq with
   |nil=>
    have HE:=hid (zDO.out.trans (if_pos rfl));simp only[List.length_nil,Nat.zero_add]at*;(have hc00:wr.cell? ⟨kb,koff+0,none⟩=some (.int .i64 (k0)):=by rw[Nat.add_zero];exact hc0);go_wp2;go_ret;rw[HE.out];exact⟨rfl,⟨F,Z,HM.out.below HR.out.2.2.2.2.1,λb hb=>Or.inl hb,λb hb=>Or.inl hb⟩,.of_below HR.out.2.2.2.2.1⟩
   |cons q0 q=>
    have HE:=hid (zDO.out.trans (if_neg (by simp)))
    have hown:wr.ownsRow (w.heap.size+1) 3 1 (.slice (some ⟨qb,qoff,none⟩) ((q0::q).length +1) qcap) ((q0::q).length +1) ((k0::q0::q).map (.int .i64)):=by
     rcases HR.out.2.2.1 with⟨h,_⟩|⟨_,h⟩
     ·simp at h
     ·exact h
    have HKF:=hid hkf;have hfit1:∀x∈mc,I64 x:=λx hx=>HMC.out x hx
    have hfit2:∀x∈k0::q0::q,I64 x:=λx hx=>by
     rcases List.mem_cons.1 hx with rfl|hx
     ·exact HK0.out
     ·exact HKF.out _ (zFY (k0) starts kids x (by rw[HMM.out];exact hx))
    have hi1:=zCl HR.out.2.1 hfit1 (by have:=HML.out;omega);have hi2:=zCl hown hfit2 (by simp only[List.length_cons]at hsh⊢;omega);(have hz1:=λk hk=>HR.out.2.1.lt k hk);have hz2:=λk hk=>hown.lt k hk
    have HN:=hid (zGH M all F Z (λb=>vc.ownBlock=some b∨(Value.slice (some ⟨qb,qoff,none⟩) ((q0::q).length +1) qcap).ownBlock =some b) ⟨false,i,mc,k0::q0::q⟩ [.bool false,.int .i64 i,vc,.slice (some ⟨qb,qoff,none⟩) ((q0::q).length +1) qcap] wr (HM.out.below HR.out.2.2.2.2.1)
     ⟨⟨vc,_,rfl,hi,hi1.mono (λb hb=>Or.inl hb),hi2.mono (λb hb=>Or.inr hb)⟩,λb hb=>by
      rcases hb with hb|hb
      ·exact⟨λhF=>by have:=HM.out.liveF b hF;have:=(hz1 b hb).1;omega,(hz1 b hb).2⟩
      ·exact⟨λhF=>by have:=HM.out.liveF b hF;have:=(hz2 b hb).1;omega,(hz2 b hb).2⟩,by show mc.length≤2000000;have:=HML.out;omega,by show(k0::q0::q).length ≤2000000;have h1:=zDW (k0) (starts.drop 1) (kids.drop 1);have h2:=HMD.out;rw[HMM.out]at h2;rw[h2]at h1;simp at h1⊢;omega⟩ hall (((htab.on HR.out.2.2.2.2.1)).mono HR.out.2.2.2.2.1.size))
    have HZ2:=hid (And.intro hz1 hz2);have b0:=HR.out.1.at0;have b1:=HR.out.1.at1;have b2:=HR.out.1.at2;have hblt:w.heap.size<wr.heap.size:=HR.out.1.lt;clear hown hi1 hi2 hz1 hz2 hkf hfit1 hfit2 htab;simp only[List.length_cons]at*
    have zHn:=hid (λe W'(hp:zCC wr M F (λb=>Z b∨(vc.ownBlock=some b∨(Value.slice (some ⟨qb,qoff,none⟩) (q.length+1+1) qcap).ownBlock =some b)) (zb all i starts kids) e W')=>zR5 (w:=w) HR.out.2.2.2.2.1 (λb hb=>by
     rcases hb with hb|hb
     ·have:=(HZ2.out.1 b hb).1;omega
     ·have:=(HZ2.out.2 b hb).1;omega) hp)
    rw[HE.out]at zHn;(go_wp2_with fail);refine HN.out.mono ?_;rintro e W' ⟨rfl,hp2⟩;have zRH:=hid (zHn.out _ _ ⟨rfl,hp2⟩);clear hp2 HN zHn;go_wp2;go_ret;rw[HE.out];exact zRH.out
end Go.Proofs.YtonmdbdopchkaaaGreatDoor
