/- Texts K W20 CF. -/
import Derived.Test.YtonmdbdopchkaaaGreatDoorM23
set_option linter.all false
namespace Go.Proofs.YtonmdbdopchkaaaGreatDoor
open Go.RowKit
mutual
theorem FmR.live{Z:zD}{w:World}:∀(f:Fm)(cs:List Value),FmR Z w f cs->FmR (λb=>Z b∧b<w.heap.size) w f cs
 | .mk op nm c n kids,cs,h=>by
  unfold FmR at h⊢;obtain⟨h1,h2,h3,h4,A,cap,e,h5,h6,h6b,h7⟩:=h;exact⟨h1,h2,h3,h4,A,cap,e,h5,h6,h6b,zt.live kids A h7⟩
theorem zt.live{Z:zD}{w:World}:∀(l:List Fm)(A:Option Addr),zt Z w l A->zt (λb=>Z b∧b<w.heap.size) w l A
 |[],_,_=>by unfold zt;trivial
 |k::ks,A,h=>by
  unfold zt at h⊢;obtain⟨b,off,cs,e,hz,hc,h1,h2⟩:=h
  have hlt:b<w.heap.size:=by
   obtain⟨A',cap',rfl⟩:=FmR.form h1;have:=hc 0 _ rfl;exact lt_of_cell this
  exact⟨b,off,cs,e,⟨hz,hlt⟩,hc,FmR.live k cs h1,zt.live ks _ h2⟩
end
theorem zCw{w:World}{B:Nat}{t:TypeId}{v0 v1 v2 v3 v4:Value}(h:Blk w B t #[v0,v1,v2,v3,v4]):
  (w.cell? ⟨B,0,none⟩=some v0∧w.cell? ⟨B,1,none⟩=some v1∧w.cell? ⟨B,2,none⟩=some v2∧w.cell? ⟨B,3,none⟩=some v3∧w.cell? ⟨B,4,none⟩=some v4)∧(∀i,w.frozen? ⟨B,i,none⟩=false):=
 ⟨⟨h.cell 0,h.cell 1,h.cell 2,h.cell 3,h.cell 4⟩,h.frozen⟩
theorem Tryz.szF:(Tryz.prog.info? 24).map (·.size)=some 5:=by kernel_rfl
theorem zAV{B g:Nat}{w w1 w2:World}(h:Below B w w1)(hk:zA (λb=>b≠g) w1 w2)(hg:B≤g)(hB:B≤w1.heap.size):Below B w w2:=h.trans ⟨hk.os,hk.tape,hk.output,hk.size,λk hk'=>hk.block k (by omega) (by omega)⟩
theorem Tryz.eFm:zCV Tryz.prog 24 5 64:=zE5 (z:= .agg #[.int .i64 0,.string ⟨#[]⟩,.int .i64 0,.int .i64 0,.slice none 0 0]) (by kernel_rfl) rfl (by decide)
def FmL(Z:zD)(w:World):List Fm->List (List Value)->Prop
 |[],[]=>True
 |f::fs,c::cs=>FmR Z w f c∧FmL Z w fs cs
 | _,_=>False
theorem FmL.keep{Z:zD}{w w':World}(hk:zA Z w w'):∀{fs:List Fm}{csl:List (List Value)},FmL Z w fs csl->FmL Z w' fs csl
 |[],[],_=>trivial
 | _::_,_::_,h=>⟨FmR.keep hk _ _ h.1,FmL.keep hk h.2⟩
 |[],_::_,h=>h.elim
 | _::_,[],h=>h.elim
theorem FmL.mono{Z Z':zD}{w:World}(hz:∀b,Z b->Z' b):∀{fs:List Fm}{csl:List (List Value)},FmL Z w fs csl->FmL Z' w fs csl
 |[],[],_=>trivial
 | _::_,_::_,h=>⟨FmR.mono hz _ _ h.1,FmL.mono hz h.2⟩
 |[],_::_,h=>h.elim
 | _::_,[],h=>h.elim
theorem FmL.snoc{Z:zD}{w:World}{f:Fm}{c:List Value}(hf:FmR Z w f c):∀{fs:List Fm}{csl:List (List Value)},FmL Z w fs csl->FmL Z w (fs++[f]) (csl++[c])
 |[],[],_=>⟨hf,trivial⟩
 | _::_,_::_,h=>⟨h.1,FmL.snoc hf h.2⟩
 |[],_::_,h=>h.elim
 | _::_,[],h=>h.elim
theorem FmL.rows{Z:zD}{w:World}{b:Nat}(hb:Z b):∀{fs:List Fm}{csl:List (List Value)}{off:Nat},FmL Z w fs csl->(∀j u,csl.flatten[j]? =some u->w.cell? ⟨b,off+j,none⟩=some u)->zt Z w fs (some ⟨b,off,none⟩)
 |[],[],_,_,_=>by unfold zt;trivial
 |f::fs,c::cs,off,h,hc=>by
  unfold zt;have hl:c.length=5:=by obtain⟨A,cap,rfl⟩:=FmR.form h.1;rfl
  refine⟨b,off,c,rfl,hb,λj u hu=> ?_,h.1,FmL.rows hb h.2 λj u hu=> ?_⟩
  ·refine hc j u ?_;rw[List.flatten_cons,List.getElem?_append_left (by have:=List.getElem?_eq_some_iff.1 hu;obtain⟨h,_⟩:=this;exact h)];exact hu
  ·have:=hc (5+j) u (by rw[List.flatten_cons,List.getElem?_append_right (by omega)];rw[show 5+j-c.length=j by omega];exact hu);rwa[show off+5+j=off+(5+j) by omega]
 |[],_::_,_,h,_=>h.elim
 | _::_,[],_,h,_=>h.elim
theorem FmL.size{Z:zD}{w:World}:∀{fs:List Fm}{csl:List (List Value)},FmL Z w fs csl->csl.flatten.length=fs.length*5
 |[],[],_=>rfl
 |f::fs,c::cs,h=>by
  have hl:c.length=5:=by obtain⟨A,cap,rfl⟩:=FmR.form h.1;rfl
  rw[List.flatten_cons,List.length_append,FmL.size h.2,hl,List.length_cons];omega
 |[],_::_,h=>h.elim
 | _::_,[],h=>h.elim
def zBP(Z:zD)(base:Nat)(w:World)(v:Value)(fs:List Fm):Prop:=
 ∃csl,w.ownsRow base 24 5 v fs.length csl.flatten∧FmL (λb=>Z b∧b<w.heap.size∧v.ownBlock≠some b) w fs csl
theorem zBP.nil(Z:zD)(base:Nat)(w:World):zBP Z base w (.slice none 0 0) []:=⟨[],zHM _ _ _ _,trivial⟩
theorem zBP.below{Z:zD}{base:Nat}{w w':World}{v:Value}{fs:List Fm}(h:zBP Z base w v fs)(hb:Below w.heap.size w w'):zBP Z base w' v fs:=by
 obtain⟨csl,h1,h2⟩:=h;exact⟨csl,own_below h1 hb,FmL.mono (λb h=>⟨h.1,Nat.lt_of_lt_of_le h.2.1 hb.size,h.2.2⟩) (FmL.keep (.of_below hb) h2)⟩
theorem zBP.grow{Z:zD}{base:Nat}{w w':World}{v v':Value}{fs:List Fm}{csl:List (List Value)}{k:Fm}{cs:List Value}(h2:FmL (λb=>Z b∧b<w.heap.size∧v.ownBlock≠some b) w fs csl)
  (hk:FmR (λb=>Z b∧b<w.heap.size∧v.ownBlock≠some b) w k cs)(ho:w'.ownsRow base 24 5 v' (fs.length+1) (csl.flatten++cs))(hg:w.grownBy w' v.ownBlock)(hv:v'.ownBlock=v.ownBlock∨v'.ownBlock=some w.heap.size):
  zBP Z base w' v' (fs++[k]):=by
 have hkp:zA (λb=>Z b∧b<w.heap.size∧v.ownBlock≠some b) w w':=⟨hg.os,hg.tape,hg.output,hg.size,λb hb hz=>hg.block b hb λe=>hz.2.2 e.symm⟩;refine⟨csl++[cs],by simpa using ho,FmL.mono (λb hb=>⟨hb.1,Nat.lt_of_lt_of_le hb.2.1 hg.size,?_⟩) (FmL.snoc (FmR.keep hkp _ _ hk) (FmL.keep hkp h2))⟩;rcases hv with e|e
 ·rw[e];exact hb.2.2
 ·rw[e];intro e2;injection e2 with e2;have:=hb.2.1;omega
theorem zBP.done{Z:zD}{base:Nat}{w:World}{v:Value}{fs:List Fm}(h:zBP Z base w v fs):
  ∃A cap,v= .slice A fs.length cap∧fs.length≤cap∧cap≤maxLen∧zt (λb=>Z b∨base≤b) w fs A:=by
 obtain⟨csl,h1,h2⟩:=h;obtain⟨A,cap,rfl,h3,h4,h5⟩:=Row.of_own h1 (by decide);refine⟨A,cap,rfl,h3,h4,?_⟩
 cases fs with
 |nil=>unfold zt;trivial
 |cons f fs=>
  have hne:csl.flatten≠[]:=by
   have:=FmL.size h2;intro e;rw[e]at this;simp at this
  obtain⟨b,off,rfl,hz,hc⟩:=h5 hne;exact FmL.rows (Or.inr hz) (FmL.mono (λb h=>Or.inl h.1) h2) hc
def zDb(k:Fm):Fm:=if k.op=1∨k.op=2 then kn (k.op==2)else .mk 4 ⟨#[]⟩ 0 0 [k]
def zCc(op:Int):Int:=if op=6 then 2 else 1
def zDt(op:Int):Int:=if op=6 then 1 else 2
def zBL(op:Int)(ks:List Fm):List Fm:=ks.filter λk=>k.op !=zCc op
def zBt(op:Int)(ks:List Fm):Fm:=
 match ks.find? (λk=>k.op==zDt op)with
 |some k=>k
 |none=>match zBL op ks with
  |[]=> .mk (zCc op) ⟨#[]⟩ 0 0 []
  |[k]=>k
  |r=> .mk op ⟨#[]⟩ 0 0 r
mutual
def zU(nm:ByteArray)(x:Int):Fm->Fm
 | .mk op name cm nu kids=>
  if op=3 then(if name=nm then kn (zHC x cm nu)else .mk op name cm nu kids)
  else if op=4 then(match zw nm x kids with|k::_=>zDb k|[]=> .mk op name cm nu kids)
  else if op=5∨op=6 then zBt op (zw nm x kids)else .mk op name cm nu kids
def zw(nm:ByteArray)(x:Int):List Fm->List Fm
 |[]=>[]
 |k::ks=>zU nm x k::zw nm x ks
end
theorem zEg(nm:ByteArray)(x:Int):∀l,zw nm x l=l.map (zU nm x)
 |[]=>by simp[zw]
 |k::ks=>by simp[zw,zEg nm x ks]
theorem zIV(nm:ByteArray)(x:Int)(f:Fm):zU nm x f= 
  if f.op=3 then(if f.name=nm then kn (zHC x f.cmp f.num)else f)
  else if f.op=4 then(match zw nm x f.kids with|k::_=>zDb k|[]=>f)
  else if f.op=5∨f.op=6 then zBt f.op (zw nm x f.kids)else f:=by
 cases f;rw[zU];rfl
theorem zKd{op:Int}{ks:List Fm}{k:Nat}(hk:k<ks.length)(h:∀j(hj:j<ks.length),j<k->ks[j].op ≠zDt op)(hz:ks[k].op =zDt op):zBt op ks=ks[k]:=by
 have:ks.find? (λk=>k.op==zDt op)=some ks[k]:=by
  rw[List.find?_eq_some_iff_getElem];exact⟨by simp[hz],k,hk,rfl,λj hj=>by simpa using h j (by omega) hj⟩
 unfold zBt;rw[this]
theorem zMK{op:Int}{ks:List Fm}(h:∀j(hj:j<ks.length),ks[j].op ≠zDt op):zBt op ks=match zBL op ks with|[]=> .mk (zCc op) ⟨#[]⟩ 0 0 []|[k]=>k|r=> .mk op ⟨#[]⟩ 0 0 r:=by
 have:ks.find? (λk=>k.op==zDt op)=none:=by
  rw[List.find?_eq_none];intro x hx;obtain⟨j,hj,rfl⟩:=List.getElem_of_mem hx;simpa using h j hj
 unfold zBt;rw[this]
theorem zKe{op:Int}{ks:List Fm}{k:Nat}(hk:k<ks.length)(h:ks[k].op =zCc op):zBL op (ks.take (k+1))=zBL op (ks.take k):=by
 unfold zBL;rw[zAw hk,List.filter_append];simp[h]
theorem zKf{op:Int}{ks:List Fm}{k:Nat}(hk:k<ks.length)(h:ks[k].op ≠zCc op):zBL op (ks.take (k+1))=zBL op (ks.take k)++[ks[k]]:=by
 unfold zBL;rw[zAw hk,List.filter_append];simp[h]
theorem zGd{op:Int}{ks:List Fm}(k:Nat):(zBL op (ks.take k)).length ≤ks.length:=by
 unfold zBL;exact Nat.le_trans (List.length_filter_le _ _) (by simp;omega)
def zDc(Z:zD)(g:Fm)(w:World)(e:Ending)(w':World):Prop:=
 ∃cs,e= .returned (.agg cs.toArray)∧FmR (λb=>Z b∨w.heap.size≤b) w' g cs∧Below w.heap.size w w'
def zPf(nm:ByteArray)(x:Int)(ds:List zC)(m:Nat):Prop:=∀(f:Fm),zJ f≤m->zJ f≤1000000->∀(Z:zD)(cs:List Value)(w:World),FmR Z w f cs->zq (zY ds) f=0->
  Calls Tryz.prog 35 #[.agg cs.toArray,.string nm,.int .i64 x] w (zDc Z (zU nm x f) w)
mutual
def z7(nm:ByteArray):Fm->List Int
 | .mk op name _ nu kids=>(if op=3∧name=nm then[nu]else[])++zj nm kids
def zj(nm:ByteArray):List Fm->List Int
 |[]=>[]
 |k::r=>z7 nm k++zj nm r
end
mutual
def zAC:Fm->List ByteArray
 | .mk op name _ _ kids=>(if op=3 then[name]else[])++zS kids
def zS:List Fm->List ByteArray
 |[]=>[]
 |k::r=>zAC k++zS r
end
theorem zPI{l:List Fm}{n:ByteArray}:n∈zS l↔∃k∈l,n∈zAC k:=by
 induction l with
 |nil=>simp[zS]
 |cons a r ih=>simp[zS,ih]
mutual
def noC:Fm->Bool
 | .mk op _ _ _ kids=>if op=3 then true else(decide (op=4)||decide (op=5)||decide (op=6))&&decide (kids≠[])&&zIW kids
def zIW:List Fm->Bool
 |[]=>true
 |k::r=>noC k&&zIW r
end
theorem zNi:∀(l:List Fm),zIW l=true↔∀k∈l,noC k=true
 |[]=>by simp[zIW]
 |k::r=>by simp[zIW,zNi r]
def isC(f:Fm):Prop:=f.op=1∨f.op=2
def zIX(f:Fm):Prop:=isC f∨noC f=true
theorem zML{v x cm n:Int}(h1:v<n↔x<n)(h2:v<n+1↔x<n+1):zBa v cm n=zBa x cm n:=by
 have a:(v==n)=(x==n):=by rw[Bool.eq_iff_iff,beq_iff_eq,beq_iff_eq];omega
 have b:(v !=n)=(x !=n):=by unfold bne;rw[a]
 have c:decide (v<n)=decide (x<n):=by rw[decide_eq_decide];omega
 have d:decide (v≤n)=decide (x≤n):=by rw[decide_eq_decide];omega
 have e:decide (n<v)=decide (n<x):=by rw[decide_eq_decide];omega
 have f:decide (n≤v)=decide (n≤x):=by rw[decide_eq_decide];omega
 unfold zBa;rw[a,b,c,d,e,f]
section evs
variable {ds:List zC} {c:List Int}
theorem zRi(b:Bool):evF ds c (kn b)=b:=by
 unfold kn zF8;rw[evF];cases b<;>simp
theorem zE2{f:Fm}(h:f.op=1):evF ds c f=true:=by rw[zNg,h];simp
theorem zE3{f:Fm}(h:f.op=2):evF ds c f=false:=by rw[zNg,h];simp
theorem zUI(k:Fm):evF ds c (zDb k)= !evF ds c k:=by
 unfold zDb;split
 ·rename_i h;rw[zRi];rcases h with h|h
  ·rw[zE2 h,h];simp
  ·rw[zE3 h,h];simp
 ·rw[evF];simp[zBb]
theorem zLa(ks:List Fm):(ks.filter λk=>k.op !=1).all (evF ds c)=ks.all (evF ds c):=by
 induction ks with
 |nil=>rfl
 |cons k r ih=>
  rw[List.filter_cons];by_cases h:k.op=1
  ·rw[if_neg (by simp[h]),ih,List.all_cons,zE2 h];rfl
  ·rw[if_pos (by simp[h]),List.all_cons,List.all_cons,ih]
theorem zLb(ks:List Fm):(ks.filter λk=>k.op !=2).any (evF ds c)=ks.any (evF ds c):=by
 induction ks with
 |nil=>rfl
 |cons k r ih=>
  rw[List.filter_cons];by_cases h:k.op=2
  ·rw[if_neg (by simp[h]),ih,List.any_cons,zE3 h];rfl
  ·rw[if_pos (by simp[h]),List.any_cons,List.any_cons,ih]
theorem zRj(ks:List Fm):evF ds c (zBt 5 ks)=ks.all (evF ds c):=by
 unfold zBt;have ez:zDt 5=2:=by decide
 have eu:zCc 5=1:=by decide
 rw[ez];split
 ·rename_i k hk;have hm:=List.mem_of_find?_eq_some hk;have hp:=List.find?_some hk;simp only[beq_iff_eq]at hp;rw[zE3 hp];symm;rw[List.all_eq_false];exact⟨k,hm,by rw[zE3 hp];simp⟩
 ·rw[<-zLa];unfold zBL;rw[eu];split
  ·rename_i h;rw[h];rw[zE2 rfl];rfl
  ·rename_i k h;rw[h];simp
  ·rename_i r _ _;rw[evF];simp[zKB]
theorem zRk(ks:List Fm):evF ds c (zBt 6 ks)=ks.any (evF ds c):=by
 unfold zBt;have ez:zDt 6=1:=by decide
 have eu:zCc 6=2:=by decide
 rw[ez];split
 ·rename_i k hk;have hm:=List.mem_of_find?_eq_some hk;have hp:=List.find?_some hk;simp only[beq_iff_eq]at hp;rw[zE2 hp];symm;rw[List.any_eq_true];exact⟨k,hm,zE2 hp⟩
 ·rw[<-zLb];unfold zBL;rw[eu];split
  ·rename_i h;rw[h];rw[zE3 rfl];rfl
  ·rename_i k h;rw[h];simp
  ·rename_i r _ _;rw[evF];simp[zKA]
end evs
theorem zBh{f:Fm}(h:zBB f=true):
  (f.op=3∧f.kids=[]∧1≤f.cmp∧f.cmp≤6∧zA7 f.name.data.toList=true)∨
  (f.name=⟨#[]⟩∧((f.op=1∨f.op=2)∧f.kids=[]∨f.op=4∧f.kids.length=1∨(f.op=5∨f.op=6)∧2≤f.kids.length)):=by
 by_cases h3:f.op=3
 ·rw[zIU h3]at h;simp only[Bool.and_eq_true,decide_eq_true_eq,zMH]at h;exact Or.inl ⟨h3,List.eq_nil_of_length_eq_zero h.1.1.1.1,h.1.1.1.2,h.1.1.2,h.1.2⟩
 ·rw[zGL h3]at h;split at h
  ·cases h
  ·rename_i hb;simp only[not_or,ne_eq,Decidable.not_not]at hb;refine Or.inr ⟨hb.1,?_⟩;split at h
   ·rename_i h12;exact Or.inl ⟨h12,List.eq_nil_of_length_eq_zero (by simpa using h)⟩
   ·split at h
    ·rename_i h4;exact Or.inr (Or.inl ⟨h4,by simpa using h⟩)
    ·simp only[Bool.and_eq_true,Bool.or_eq_true,decide_eq_true_eq]at h;exact Or.inr (Or.inr h)
def okF(ds:List zC)(f:Fm):Prop:=zq (zY ds) f=0
def zD0(ds:List zC)(l:List Fm):Prop:=z6 (zY ds) l=0
theorem zEh{ds:List zC}{op:Int}{nm:ByteArray}{cm nu:Int}{kids:List Fm}(h:okF ds (.mk op nm cm nu kids)):zBB (.mk op nm cm nu kids)=true∧zD0 ds kids∧(op=3->0≤zV ds nm):=by
 obtain⟨h0,hk⟩:=zDT h;obtain⟨h1,h2⟩:=zFB h0;exact⟨h1,hk,λh3=>(h2 h3).2.2⟩
theorem zCP{ds:List zC}{k:Fm}{r:List Fm}:zD0 ds (k::r)↔okF ds k∧zD0 ds r:=by
 unfold zD0 okF;rw[z6];split
 ·rename_i h;simp[h]
 ·rename_i h;simp[h]
theorem zGN{ds:List zC}:∀{l:List Fm},zD0 ds l↔∀k∈l,okF ds k
 |[]=>by simp[zD0,z6]
 |k::r=>by rw[zCP,zGN];simp
section given
variable {ds:List zC} {nm:ByteArray} {v:Int}
mutual
theorem zIY{c:List Int}:∀f,okF ds f->(∀n∈z7 nm f,(v<n↔c.getD (zV ds nm).toNat 0<n)∧(v<n+1↔c.getD (zV ds nm).toNat 0<n+1))->evF ds c (zU nm v f)=evF ds c f
 | .mk op name cm nu kids,hok,ht=>by
  obtain⟨hf,hks,_⟩:=zEh hok;have hkl:=zKg (c:=c) kids hks (λn hn=>ht n (by rw[z7];exact List.mem_append_right _ hn));rw[zU];by_cases h3:op=3
  ·rw[if_pos h3];by_cases hn:name=nm
   ·rw[if_pos hn,zRi];rcases zBh hf with⟨_,_,h1,h6,_⟩|⟨_,h⟩
    ·simp only[Fm.cmp]at h1 h6;rw[evF,if_pos h3,hn,zUH h1 h6];have:=ht nu (by rw[z7,if_pos ⟨h3,hn⟩];simp);exact zML this.1 this.2
    ·simp only[Fm.op]at h;omega
   ·rw[if_neg hn]
  ·rw[if_neg h3];by_cases h4:op=4
   ·rw[if_pos h4]
    have hl:kids.length=1:=by
     rcases zBh hf with⟨h,_⟩|⟨_,h⟩
     ·exact absurd h h3
     ·simp only[Fm.op,Fm.kids]at h;omega
    match kids,hl,hkl with
    |[k],_,hkl=>
     simp only[zw,List.map_cons,List.map_nil,List.cons.injEq,and_true]at hkl⊢;rw[zUI,hkl,evF,if_neg h3,if_pos h4];simp[zBb]
   ·rw[if_neg h4];by_cases h56:op=5∨op=6
    ·rw[if_pos h56];rcases h56 with rfl|rfl
     ·rw[zRj,evF];simp only[zKB];have:=congrArg (λl:List Bool=>l.all id) hkl;simpa[List.all_map]using this
     ·rw[zRk,evF];simp only[zKA];have:=congrArg (λl:List Bool=>l.any id) hkl;simpa[List.any_map]using this
    ·rw[if_neg h56]
theorem zKg{c:List Int}:∀l,zD0 ds l->(∀n∈zj nm l,(v<n↔c.getD (zV ds nm).toNat 0<n)∧(v<n+1↔c.getD (zV ds nm).toNat 0<n+1))->(zw nm v l).map (evF ds c)=l.map (evF ds c)
 |[],_,_=>by simp[zw]
 |k::r,hok,ht=>by
  rw[zCP]at hok;rw[zw,List.map_cons,List.map_cons,zIY k hok.1 (λn hn=>ht n (by rw[zj];exact List.mem_append_left _ hn)),zKg r hok.2 (λn hn=>ht n (by rw[zj];exact List.mem_append_right _ hn))]
end
theorem zNj{f:Fm}(h:zY ds f=0)(hk:zD0 ds f.kids):okF ds f:=by
 unfold okF;rw[zEI,if_pos h];exact hk
theorem zLc{f:Fm}(h3:f.op≠3)(h:zBB f=true):zY ds f=0:=by
 unfold zY;rw[if_neg (by simp[h]),if_pos h3]
theorem zQa(b:Bool):okF ds (kn b):=by
 refine zNj (zLc (by cases b<;>simp[kn,zF8,Fm.op]) ?_) (by simp[kn,Fm.kids,zD0,z6]);cases b<;>rfl
theorem zUb{k:Fm}(h:okF ds k):okF ds (zDb k):=by
 unfold zDb;split
 ·exact zQa _
 ·refine zNj (zLc (by simp[Fm.op]) rfl) ?_;show zD0 ds [k];rw[zCP];exact⟨h,rfl⟩
theorem zES{op:Int}{ks:List Fm}{k:Fm}(h:k∈zBL op ks):k∈ks:=by unfold zBL at h;exact(List.mem_filter.1 h).1
theorem zUJ{op:Int}(hop:op=5∨op=6){ks:List Fm}(h:∀k∈ks,okF ds k):okF ds (zBt op ks):=by
 unfold zBt;split
 ·rename_i k hk;exact h k (List.mem_of_find?_eq_some hk)
 ·split
  ·(have:zCc op=zF8 (decide (op≠6)):=by unfold zCc zF8;rcases hop with rfl|rfl<;>simp);rw[this];exact zQa _
  ·rename_i k hk;exact h k (zES (op:=op) (by rw[hk];simp))
  ·rename_i h1 h2
   have hl:2≤(zBL op ks).length :=by
    cases hkk:zBL op ks with
    |nil=>exact absurd hkk h1
    |cons a r=>
     cases r with
     |nil=>exact absurd hkk (h2 a)
     |cons b r=>simp
   refine zNj (zLc (by simp only[Fm.op];omega) ?_) (zGN.2 λk hk=>h k (zES hk));unfold zBB;rcases hop with rfl|rfl<;>simp[Fm.name,Fm.cmp,Fm.num,Fm.op,Fm.kids,hl]
mutual
theorem zCn:∀f,okF ds f->okF ds (zU nm v f)
 | .mk op name cm nu kids,hok=>by
  obtain⟨hf,hks,_⟩:=zEh hok;have hkl:=zMM kids hks;rw[zU];split
  ·split
   ·exact zQa _
   ·exact hok
  ·split
   ·split
    ·rename_i k r hk;exact zUb (hkl k (by rw[hk];simp))
    ·exact hok
   ·split
    ·rename_i h56;exact zUJ h56 hkl
    ·exact hok
theorem zMM:∀l,zD0 ds l->∀k∈zw nm v l,okF ds k
 |[],_,_,h=>absurd h (by simp[zw])
 |a::r,hok,k,h=>by
  rw[zCP]at hok;rw[zw]at h;rcases List.mem_cons.1 h with rfl|h
  ·exact zCn a hok.1
  ·exact zMM r hok.2 k h
end
theorem zRl(b:Bool):zIX (kn b):=Or.inl (by cases b<;>simp[isC,kn,zF8,Fm.op])
theorem zUK{k:Fm}(h:zIX k):zIX (zDb k):=by
 unfold zDb;split
 ·exact zRl _
 ·rename_i hc;rcases h with h|h
  ·exact absurd h hc
  ·right;rw[noC];simp[zIW,h]
theorem zSx{op:Int}(hop:op=5∨op=6){ks:List Fm}(h:∀k∈ks,zIX k):zIX (zBt op ks):=by
 unfold zBt;split
 ·rename_i k hk;exact h k (List.mem_of_find?_eq_some hk)
 ·rename_i hz;have hz':=List.find?_eq_none.1 hz
  have hno:∀k∈zBL op ks,noC k=true:=λk hk=>by
   have hm:=zES hk;rcases h k hm with hc|hc
   ·exfalso;have h1:=hz' k hm;unfold zBL at hk;have h2:=(List.mem_filter.1 hk).2;simp only[beq_iff_eq,bne_iff_ne,ne_eq]at h1 h2;unfold zDt at h1;unfold zCc at h2;unfold isC at hc;rcases hop with rfl|rfl
    ·simp at h1 h2;omega
    ·simp at h1 h2;omega
   ·exact hc
  split
  ·exact Or.inl (by unfold isC zCc Fm.op;rcases hop with rfl|rfl<;>simp)
  ·rename_i k hk;exact Or.inr (hno k (by rw[hk];simp))
  ·rename_i h1 h2;right;rw[noC,if_neg (by omega)];simp only[Bool.and_eq_true,decide_eq_true_eq,Bool.or_eq_true,zNi];exact⟨⟨by omega,h1⟩,hno⟩
mutual
theorem zFT:∀f,okF ds f->zIX (zU nm v f)
 | .mk op name cm nu kids,hok=>by
  obtain⟨hf,hks,_⟩:=zEh hok;have hkl:=zKh kids hks;rw[zU];split
  ·rename_i h3;split
   ·exact zRl _
   ·right;rw[noC,if_pos h3]
  ·rename_i h3;split
   ·rename_i h4;rcases zBh hf with⟨h,_⟩|⟨_,h⟩
    ·exact absurd h h3
    ·simp only[Fm.op,Fm.kids]at h
     match kids,hkl with
     |[k],hkl=>rw[zw];exact zUK (hkl _ (by simp[zw]))
     |[],_=>simp at h;omega
     |a::b::r,_=>simp at h;omega
   ·rename_i h4;split
    ·rename_i h56;exact zSx h56 hkl
    ·rename_i h56;rcases zBh hf with⟨h,_⟩|⟨_,h⟩
     ·exact absurd h h3
     ·simp only[Fm.op,Fm.kids]at h;exact Or.inl (by unfold isC Fm.op;simp only;omega)
theorem zKh:∀l,zD0 ds l->∀k∈zw nm v l,zIX k
 |[],_,_,h=>absurd h (by simp[zw])
 |a::r,hok,k,h=>by
  rw[zCP]at hok;rw[zw]at h;rcases List.mem_cons.1 h with rfl|h
  ·exact zFT a hok.1
  ·exact zKh r hok.2 k h
end
theorem zRm{k:Fm}{n:ByteArray}(h:n∈zAC (zDb k)):n∈zAC k:=by
 unfold zDb at h;split at h
 ·unfold kn zF8 at h;rw[zAC]at h;split at h<;>simp[zS]at h
 ·rw[zAC]at h;simpa[zS]using h
theorem zQb{op:Int}(hop:op=5∨op=6){ks:List Fm}{n:ByteArray}(h:n∈zAC (zBt op ks)):∃k∈ks,n∈zAC k:=by
 unfold zBt at h;split at h
 ·rename_i k hk;exact⟨k,List.mem_of_find?_eq_some hk,h⟩
 ·split at h
  ·rw[zAC,if_neg (by unfold zCc;split<;>omega)]at h;simp[zS]at h
  ·rename_i k hk;exact⟨k,zES (op:=op) (by rw[hk];simp),h⟩
  ·rw[zAC,if_neg (by omega)]at h;simp only[List.nil_append]at h;obtain⟨k,hk,hn⟩:=zPI.1 h;exact⟨k,zES hk,hn⟩
mutual
theorem zJ5:∀f,okF ds f->∀n∈zAC (zU nm v f),n∈zAC f∧n≠nm
 | .mk op name cm nu kids,hok,n,h=>by
  obtain⟨hf,hks,_⟩:=zEh hok;have hkl:=zIZ kids hks;rw[zU]at h;rw[zAC];split at h
  ·rename_i h3;split at h
   ·unfold kn zF8 at h;rw[zAC]at h;split at h<;>simp[zS]at h
   ·rename_i hn;rcases zBh hf with⟨_,hk,_⟩|⟨_,h'⟩
    ·simp only[Fm.kids]at hk;rw[zAC,if_pos h3,hk]at h;simp[zS]at h;subst h;exact⟨by simp[h3],hn⟩
    ·simp only[Fm.op]at h';omega
  ·rename_i h3;rw[if_neg h3];simp only[List.nil_append];split at h
   ·split at h
    ·rename_i k r hk;exact hkl n k (by rw[hk];simp) (zRm h)
    ·rename_i hk;rw[zAC,if_neg h3]at h
     have:kids=[]:=by
      cases kids with
      |nil=>rfl
      |cons a r=>simp[zw]at hk
     rw[this]at h;simp[zS]at h
   ·split at h
    ·rename_i h56;obtain⟨k,hk,hn⟩:=zQb h56 h;exact hkl n k hk hn
    ·rename_i h4 h56;rcases zBh hf with⟨h',_⟩|⟨_,h'⟩
     ·exact absurd h' h3
     ·simp only[Fm.op,Fm.kids]at h'
      have hk:kids=[]:=by
       rcases h' with h'|h'|h'
       ·exact h'.2
       ·exact absurd h'.1 h4
       ·exact absurd h'.1 h56
      rw[zAC,if_neg h3,hk]at h;simp[zS]at h
theorem zIZ:∀l,zD0 ds l->∀n,∀k∈zw nm v l,n∈zAC k->n∈zS l∧n≠nm
 |[],_,_,_,h,_=>absurd h (by simp[zw])
 |a::r,hok,n,k,h,hn=>by
  rw[zCP]at hok;rw[zw]at h;rw[zS];rcases List.mem_cons.1 h with rfl|h
  ·have:=zJ5 a hok.1 n hn;exact⟨List.mem_append_left _ this.1,this.2⟩
  ·have:=zIZ r hok.2 n k h hn;exact⟨List.mem_append_right _ this.1,this.2⟩
end
theorem zPg(b:Bool):zJ (kn b)=1:=by unfold kn;rw[zJ];rfl
theorem zSy(k:Fm):zJ (zDb k)≤1+zJ k:=by
 unfold zDb;split
 ·rw[zPg];omega
 ·rw[zJ];simp[zX]
theorem zMN{l:List Fm}{k:Fm}(h:k∈l):zJ k≤zX l:=by
 induction l with
 |nil=>simp at h
 |cons a r ih=>
  rw[zX];rcases List.mem_cons.1 h with rfl|h
  ·omega
  ·have:=ih h;omega
theorem zQc(op:Int)(l:List Fm):zX (zBL op l)≤zX l:=by
 unfold zBL
 induction l with
 |nil=>simp
 |cons a r ih=>
  rw[List.filter_cons];split
  ·rw[zX,zX];omega
  ·rw[zX];omega
theorem zRn(op:Int)(ks:List Fm):zJ (zBt op ks)≤1+zX ks:=by
 unfold zBt;split
 ·rename_i k hk;have:=zMN (List.mem_of_find?_eq_some hk);omega
 ·have hk:=zQc op ks;split
  ·rw[zJ];simp[zX]
  ·rename_i k h;rw[h]at hk;simp[zX]at hk;omega
  ·rw[zJ];omega
mutual
theorem zH1:∀f,zJ (zU nm v f)≤zJ f
 | .mk op name cm nu kids=>by
  have hkl:=zJ6 kids;have h1:=zBE (.mk op name cm nu kids);rw[zU];split
  ·split
   ·rw[zPg];omega
   ·exact Nat.le_refl _
  ·split
   ·split
    ·rename_i k r hk;rw[hk,zX]at hkl;have:=zSy k;rw[zJ];omega
    ·exact Nat.le_refl _
   ·split
    ·have:=zRn op (zw nm v kids);rw[zJ];omega
    ·exact Nat.le_refl _
theorem zJ6:∀l,zX (zw nm v l)≤zX l
 |[]=>by simp[zw]
 |a::r=>by
  rw[zw,zX,zX];have:=zH1 a;have:=zJ6 r;omega
end
end given
mutual
theorem zMO:∀f,noC f=true->zAC f≠[]
 | .mk op name cm nu kids,h=>by
  rw[noC]at h;rw[zAC];split at h
  ·rename_i h3;simp[h3]
  ·simp only[Bool.and_eq_true,decide_eq_true_eq]at h;have:=zQd kids h.2 h.1.2;simp[this]
theorem zQd:∀l,zIW l=true->l≠[]->zS l≠[]
 |[],_,h=>absurd rfl h
 |k::r,h,_=>by
  rw[zIW,Bool.and_eq_true]at h;rw[zS];have:=zMO k h.1;simp[this]
end
mutual
theorem zFC{ds:List zC}:∀f,okF ds f->zCg f=true
 | .mk op nm cm nu kids,h=>by
  obtain⟨hf,hks,_⟩:=zEh h;have hk:=zMP kids hks;rw[zCg];rcases zBh hf with⟨h3,_,_,_,hn⟩|⟨hn,h'⟩
  ·simp only[Fm.op,Fm.name]at h3 hn;simp[h3,hn,hk]
  ·simp only[Fm.op,Fm.name,Fm.kids]at h' hn;(have h3:op≠3:=by omega);simp[h3,hn,hk];omega
theorem zMP{ds:List zC}:∀l,zD0 ds l->zCz l=true
 |[],_=>rfl
 |k::r,h=>by
  rw[zCP]at h;rw[zCz,zFC k h.1,zMP r h.2];rfl
end
mutual
theorem zGO{ds:List zC}:∀f,okF ds f->∀n∈zAC f,0≤zV ds n
 | .mk op nm cm nu kids,h,n,hn=>by
  obtain⟨hf,hks,h3⟩:=zEh h;rw[zAC]at hn;rcases List.mem_append.1 hn with hn|hn
  ·split at hn
   ·rename_i e;simp at hn;subst hn;exact h3 e
   ·simp at hn
  ·exact zMQ kids hks n hn
theorem zMQ{ds:List zC}:∀l,zD0 ds l->∀n∈zS l,0≤zV ds n
 |[],_,_,hn=>absurd hn (by simp[zS])
 |k::r,h,n,hn=>by
  rw[zCP]at h;rw[zS]at hn;rcases List.mem_append.1 hn with hn|hn
  ·exact zGO k h.1 n hn
  ·exact zMQ r h.2 n hn
end
end Go.Proofs.YtonmdbdopchkaaaGreatDoor
