/- Texts CT NJ N5 N6 RQ. -/
import Derived.Test.YtimmfbnjndndlaaGreatDoorM7
import Derived.Test.YtimmfbnjndndlaaGreatDoorM4
import Derived.Test.YtimmfbnjndndlaaGreatDoorM6
import Derived.OwnWalkIn
import Derived.Lib.ParseIntB
set_option linter.all false
namespace Go.Proofs.YtimmfbnjndndlaaGreatDoor
open Go.RowKit
def numVal(l:List UInt8):Nat:=l.foldl (λa c=>a*10+(c.toNat-48)) 0
theorem digit_nat{d:Nat}(h:d<10):(UInt8.ofNat (48+d)).toNat =48+d:=by
 show(48+d)%256=_;omega
theorem decDigits_val(u:Nat):numVal (Lib.decDigits u)=u:=by
 induction u using Nat.strongRecOn with
 | _ u ih=>
  rw[Lib.decDigits];by_cases h:u<10
  ·rw[dif_pos h];unfold numVal;rw[List.foldl_cons,List.foldl_nil,digit_nat h];omega
  ·rw[dif_neg h];have:=ih (u / 10) (by omega);unfold numVal at this⊢;rw[List.foldl_append,this,List.foldl_cons,List.foldl_nil,digit_nat (by omega)];omega
def isDigit(c:UInt8):Prop:=48≤c.toNat∧c.toNat≤57
theorem decDigits_digits(u:Nat):∀c∈Lib.decDigits u,isDigit c:=by
 induction u using Nat.strongRecOn with
 | _ u ih=>
  intro c hc;rw[Lib.decDigits]at hc;by_cases h:u<10
  ·rw[dif_pos h]at hc;rw[List.mem_singleton]at hc;rw[hc];unfold isDigit;rw[digit_nat h];omega
  ·rw[dif_neg h]at hc;rcases List.mem_append.1 hc with hc|hc
   ·exact ih (u / 10) (by omega) c hc
   ·rw[List.mem_singleton]at hc;rw[hc];unfold isDigit;rw[digit_nat (by omega)];omega
theorem decDigits_inj{u v:Nat}(h:Lib.decDigits u=Lib.decDigits v):u=v:=by
 rw[<-decDigits_val u,h,decDigits_val]
theorem decDigits_ne(u:Nat):Lib.decDigits u≠[]:=by
 rw[Lib.decDigits];split<;>simp
theorem itoa_inj{m n:Int}(h:Lib.itoa m=Lib.itoa n):m=n:=by
 unfold Lib.itoa at h;by_cases h1:m<0
 ·by_cases h2:n<0
  ·rw[if_pos h1,if_pos h2]at h;injection h with _ h;have:=decDigits_inj h;omega
  ·rw[if_pos h1,if_neg h2]at h;have:=decDigits_digits n.toNat 45 (by rw[<-h];simp);unfold isDigit at this;simp at this
 ·by_cases h2:n<0
  ·rw[if_neg h1,if_pos h2]at h;have:=decDigits_digits m.toNat 45 (by rw[h];simp);unfold isDigit at this;simp at this
  ·rw[if_neg h1,if_neg h2]at h;have:=decDigits_inj h;omega
theorem itoa_chars(n:Int):∀c∈Lib.itoa n,isDigit c∨c=45:=λc hc=>by
 unfold Lib.itoa at hc;split at hc
 ·rcases List.mem_cons.1 hc with h|h
  ·exact Or.inr h
  ·exact Or.inl (decDigits_digits _ c h)
 ·exact Or.inl (decDigits_digits _ c hc)
theorem itoa_no{n:Int}{s:UInt8}(h1:¬isDigit s)(h2:s≠45):s∉Lib.itoa n:=λh=>by
 rcases itoa_chars n s h with h|h
 ·exact h1 h
 ·exact h2 h
theorem split_sep{s:UInt8}:∀{A A' B B':List UInt8},s∉A->s∉A'->A++s::B=A'++s::B'->A=A'∧B=B'
 |[],[],_,_,_,_,h=>by injection h with _ h;exact⟨rfl,h⟩
 |[],a::A',_,_,_,h2,h=>by injection h with h _;exact absurd (by rw[h];simp) h2
 |a::A,[],_,_,h1,_,h=>by injection h with h _;exact absurd (by rw[<-h];simp) h1
 |a::A,b::A',_,_,h1,h2,h=>by
  injection h with h h';obtain⟨e,e'⟩:=split_sep (λh=>h1 (List.mem_cons_of_mem _ h)) (λh=>h2 (List.mem_cons_of_mem _ h)) h';exact⟨by rw[h,e],e'⟩
theorem split_digits{x x':UInt8}(hx:¬isDigit x)(hx':¬isDigit x'):∀{A A' B B':List UInt8},(∀c∈A,isDigit c)->(∀c∈A',isDigit c)->A++x::B=A'++x'::B'->A=A'∧x::B=x'::B'
 |[],[],_,_,_,_,h=>⟨rfl,h⟩
 |[],a::A',_,_,_,h2,h=>by injection h with h _;exact absurd (h2 a (by simp)) (h▸hx)
 |a::A,[],_,_,h1,_,h=>by injection h with h _;exact absurd (h1 a (by simp)) (h▸hx')
 |a::A,b::A',_,_,h1,h2,h=>by
  injection h with h h';obtain⟨e,e'⟩:=split_digits hx hx' (λc hc=>h1 c (List.mem_cons_of_mem _ hc)) (λc hc=>h2 c (List.mem_cons_of_mem _ hc)) h';exact⟨by rw[h,e],e'⟩
def itemsT(l:List Int):List UInt8:=l.flatMap λk=>Lib.itoa k++[44]
theorem itemsT_cons(k:Int)(l:List Int):itemsT (k::l)=Lib.itoa k++44::itemsT l:=by unfold itemsT;rw[List.flatMap_cons];simp
theorem items_no58(l:List Int):(58:UInt8)∉itemsT l:=λh=>by
 unfold itemsT at h;obtain⟨k,_,hk⟩:=List.mem_flatMap.1 h;rcases List.mem_append.1 hk with hk|hk
 ·exact itoa_no (by unfold isDigit;decide) (by decide) hk
 ·simp at hk
theorem items_inj:∀{l m:List Int},itemsT l=itemsT m->l=m
 |[],[],_=>rfl
 |[],k::m,h=>by rw[itemsT_cons]at h;have:=congrArg List.length h;simp[itemsT]at this
 |k::l,[],h=>by rw[itemsT_cons]at h;have:=congrArg List.length h;simp[itemsT]at this
 |k::l,k'::m,h=>by
  rw[itemsT_cons,itemsT_cons]at h;have hn:∀n,(44:UInt8)∉Lib.itoa n:=λn=>itoa_no (by unfold isDigit;decide) (by decide)
  obtain⟨e,e'⟩:=split_sep (hn k) (hn k') h;rw[itoa_inj e,items_inj e']
def writeT(n:NodeD):List UInt8:=(if n.leaf=true then 49 else 48)::(Lib.itoa n.fact++58::(itemsT n.cuts++58::itemsT n.kids))
theorem writeT_inj{m n:NodeD}(h:writeT m=writeT n):m=n:=by
 obtain⟨a,b,c,d⟩:=m;obtain⟨a',b',c',d'⟩:=n;unfold writeT at h;injection h with h1 h;simp only at h h1;have hn:∀n,(58:UInt8)∉Lib.itoa n:=λn=>itoa_no (by unfold isDigit;decide) (by decide)
 obtain⟨e1,h⟩:=split_sep (hn b) (hn b') h;obtain⟨e2,h⟩:=split_sep (items_no58 c) (items_no58 c') h;have e3:a=a':=by cases a<;>cases a'<;>simp_all
 rw[itoa_inj e1,items_inj e2,items_inj h,e3]
mutual
def spellT:Fm->List UInt8
 | .mk op nm cm nu kids=>Lib.itoa op++nm.data.toList++44::(Lib.itoa cm++44::(Lib.itoa nu++40::(spellsT kids++[41])))
def spellsT:List Fm->List UInt8
 |[]=>[]
 |k::r=>spellT k++spellsT r
end
mutual
def plainF:Fm->Bool
 | .mk op nm _ _ kids=>decide (1≤op)&&decide (op≤6)&&(if op=3 then isName nm.data.toList else decide (nm=⟨#[]⟩))&&plainFs kids
def plainFs:List Fm->Bool
 |[]=>true
 |k::r=>plainF k&&plainFs r
end
theorem itoa_op{op:Int}(h1:1≤op)(h6:op≤6):Lib.itoa op=[UInt8.ofNat (48+op.toNat)]:=by
 unfold Lib.itoa;rw[if_neg (by omega),Lib.decDigits,dif_pos (by omega)]
theorem op_digit{op:Int}(h1:1≤op)(h6:op≤6):(UInt8.ofNat (48+op.toNat)).toNat =48+op.toNat:=digit_nat (by omega)
theorem op_inj{op op':Int}(h1:1≤op)(h6:op≤6)(h1':1≤op')(h6':op'≤6)(h:UInt8.ofNat (48+op.toNat)=UInt8.ofNat (48+op'.toNat)):op=op':=by
 have:=congrArg UInt8.toNat h;rw[op_digit h1 h6,op_digit h1' h6']at this;omega
def NameOr(l:List UInt8):Prop:=(44:UInt8)∉l∧∀r,∃x B,¬isDigit x∧l++44::r=x::B
theorem nameOr_of{op:Int}{nm:ByteArray}(h:(if op=3 then isName nm.data.toList else decide (nm=⟨#[]⟩))=true):NameOr nm.data.toList:=by
 split at h
 ·generalize nm.data.toList=l at*
  cases l with
  |nil=>simp[isName]at h
  |cons c r=>
   unfold isName at h;simp only[Bool.and_eq_true,List.all_eq_true]at h;obtain⟨⟨hc,hr⟩,_⟩:=h
   have hlet:isLetter c=true->c≠44∧¬isDigit c:=λh=>by
    unfold isLetter at h;simp only[Bool.or_eq_true,decide_eq_true_eq]at h;refine⟨λe=> ?_,λe=> ?_⟩
    ·subst e;simp at h
    ·unfold isDigit at e;omega
   refine⟨λhm=> ?_,λr'=>⟨c,r++44::r',(hlet hc).2,rfl⟩⟩;rcases List.mem_cons.1 hm with e|e
   ·exact(hlet hc).1 e.symm
   ·have:=hr _ e;revert this;decide
 ·have e:nm.data.toList=[]:=by rw[decide_eq_true_eq]at h;rw[h]
  rw[e];exact⟨by simp,λr=>⟨44,r,by unfold isDigit;decide,rfl⟩⟩
theorem name_inj{a b:ByteArray}(h:a.data.toList=b.data.toList):a=b:=by
 cases a;cases b;simp only at h;congr 1;exact Array.toList_inj.1 h
mutual
theorem spellT_inj:∀{f g:Fm}{r r':List UInt8},plainF f=true->plainF g=true->spellT f++r=spellT g++r'->f=g∧r=r'
 | .mk op nm cm nu kids,.mk op' nm' cm' nu' kids',r,r',h1,h2,h=>by
  rw[plainF]at h1 h2;simp only[Bool.and_eq_true,decide_eq_true_eq]at h1 h2;obtain⟨⟨⟨a1,a2⟩,a3⟩,a4⟩:=h1;obtain⟨⟨⟨b1,b2⟩,b3⟩,b4⟩:=h2;rw[spellT,spellT,itoa_op a1 a2,itoa_op b1 b2]at h;simp only[List.cons_append,List.nil_append,List.append_assoc]at h;injection h with h0 h;have n1:=(nameOr_of a3).1;have n2:=(nameOr_of b3).1;have hn:∀n,(44:UInt8)∉Lib.itoa n:=λn=>itoa_no (by unfold isDigit;decide) (by decide)
  have hn':∀n,(40:UInt8)∉Lib.itoa n:=λn=>itoa_no (by unfold isDigit;decide) (by decide)
  obtain⟨e1,h⟩:=split_sep n1 n2 h;obtain⟨e2,h⟩:=split_sep (hn cm) (hn cm') h;obtain⟨e3,h⟩:=split_sep (hn' nu) (hn' nu') h;obtain⟨e4,h⟩:=spellsT_inj a4 b4 h;exact⟨by rw[op_inj a1 a2 b1 b2 h0,name_inj e1,itoa_inj e2,itoa_inj e3,e4],h⟩
theorem spellsT_inj:∀{l m:List Fm}{r r':List UInt8},plainFs l=true->plainFs m=true->spellsT l++41::r=spellsT m++41::r'->l=m∧r=r'
 |[],[],_,_,_,_,h=>by simp[spellsT]at h;exact⟨rfl,h⟩
 |[],.mk op nm cm nu kids::m,r,r',_,h2,h=>by
  rw[plainFs,plainF]at h2;simp only[Bool.and_eq_true,decide_eq_true_eq]at h2;rw[spellsT,spellsT,spellT,itoa_op h2.1.1.1.1 h2.1.1.1.2]at h;simp only[List.cons_append,List.nil_append]at h;injection h with h _;have:=congrArg UInt8.toNat h;rw[op_digit h2.1.1.1.1 h2.1.1.1.2]at this;simp at this;omega
 | .mk op nm cm nu kids::l,[],r,r',h1,_,h=>by
  rw[plainFs,plainF]at h1;simp only[Bool.and_eq_true,decide_eq_true_eq]at h1;rw[spellsT,spellsT,spellT,itoa_op h1.1.1.1.1 h1.1.1.1.2]at h;simp only[List.cons_append,List.nil_append]at h;injection h with h _;have:=congrArg UInt8.toNat h;rw[op_digit h1.1.1.1.1 h1.1.1.1.2]at this;simp at this;omega
 |f::l,g::m,r,r',h1,h2,h=>by
  rw[plainFs]at h1 h2;simp only[Bool.and_eq_true]at h1 h2;rw[spellsT,spellsT,List.append_assoc,List.append_assoc]at h;obtain⟨e,h⟩:=spellT_inj h1.1 h2.1 h;obtain⟨e',h⟩:=spellsT_inj h1.2 h2.2 h;exact⟨by rw[e,e'],h⟩
end
def keyT(i:Nat)(f:Fm):List UInt8:=Lib.itoa i++spellT f
theorem keyT_inj{i j:Nat}{f g:Fm}(h1:plainF f=true)(h2:plainF g=true)(h:keyT i f=keyT j g):i=j∧f=g:=by
 obtain⟨op,nm,cm,nu,kids⟩:=f;obtain⟨op',nm',cm',nu',kids'⟩:=g;have p1:=h1;have p2:=h2;rw[plainF]at h1 h2;simp only[Bool.and_eq_true,decide_eq_true_eq]at h1 h2;obtain⟨⟨⟨a1,a2⟩,a3⟩,a4⟩:=h1;obtain⟨⟨⟨b1,b2⟩,b3⟩,b4⟩:=h2
 have hi:∀n:Nat,∀c∈Lib.itoa (n:Int),isDigit c:=λn c hc=>by
  unfold Lib.itoa at hc;rw[if_neg (by omega)]at hc;exact decDigits_digits _ c hc
 have hsp:=h;unfold keyT at hsp;unfold keyT at h;rw[spellT,spellT,itoa_op a1 a2,itoa_op b1 b2]at h;obtain⟨x,B,hx,ex⟩:=(nameOr_of a3).2 (Lib.itoa cm++44::(Lib.itoa nu++40::(spellsT kids++[41])));obtain⟨x',B',hx',ex'⟩:=(nameOr_of b3).2 (Lib.itoa cm'++44::(Lib.itoa nu'++40::(spellsT kids'++[41])))
 have h':(Lib.itoa (i:Int)++[UInt8.ofNat (48+op.toNat)])++x::B=(Lib.itoa (j:Int)++[UInt8.ofNat (48+op'.toNat)])++x'::B':=by
  rw[<-ex,<-ex'];simpa using h
 have hd:∀(n:Nat)(o:Int),1≤o->o≤6->∀c∈Lib.itoa (n:Int)++[UInt8.ofNat (48+o.toNat)],isDigit c:=λn o h1 h6 c hc=>by
  rcases List.mem_append.1 hc with hc|hc
  ·exact hi n c hc
  ·rw[List.mem_singleton]at hc;rw[hc];unfold isDigit;rw[op_digit h1 h6];omega
 obtain⟨e,_⟩:=split_digits hx hx' (hd i op a1 a2) (hd j op' b1 b2) h';have e1:=(List.append_inj' e rfl).1;have eij:i=j:=by have:=itoa_inj e1;omega
 subst eij;have:=List.append_cancel_left hsp;exact⟨rfl,(spellT_inj (r:=[]) (r':=[]) p1 p2 (by simpa using this)).1⟩
theorem run_appendN{P:Program}{w:World}{base:Nat}{t ty e:TypeId}{size bytes:Nat}(ht:P.underlying t=some (.slice e))(E:ElemIs P e size bytes){v:Value}{n:Nat}{xs:List Value}(hown:w.ownsRow base e size v n xs)
  {A:Option Addr}{m c:Nat}{Zn:Zone}{news:List Value}(hn:news.length=m*size)(hr:Row Zn w A news)(h1:∀u∈news,u.oneCell'=true)(h63:n+m≤maxLen)(hb:(n+m)*bytes≤140737488355328)(hbase:base≤w.heap.size):
  ∃v' w',(Builtin.append_ #[t,t] ty #[v,.slice A m c]).run P w= .ok v' w'∧w'.ownsRow base e size v' (n+m) (xs++news)∧w.grownBy w' v.ownBlock∧(v'.ownBlock=v.ownBlock∨v'.ownBlock=some w.heap.size):=by
 obtain⟨hp,i,z,hi,hz,hsz,hby,hzs⟩:=E
 cases A with
 |some a=>
  obtain⟨v',w',hrun,h2,h3,_,h5⟩:=run_append_own_at (P:=P) w base t ty e i z size bytes ht hi hz hsz hby hzs hp v n xs hown a m c news hn (λj u hu=>by
   obtain⟨b,off,he,_,hc⟩:=hr (λe=>by rw[e]at hu;cases hu);injection he with he;subst he;rw[show(⟨b,off,none⟩:Addr).add j=⟨b,off+j,none⟩ from by unfold Addr.add;split<;>simp_all]
   exact hc j u hu) h1 h63 hb hbase
  exact⟨v',w',hrun,h2,h3,h5⟩
 |none=>
  have hne:news=[]:=by
   by_cases h:news=[]
   ·exact h
   ·obtain⟨b,off,he,_⟩:=hr h;cases he
  subst hne
  have hm:m=0:=by
   rw[List.length_nil]at hn;rcases Nat.mul_eq_zero.1 hn.symm with h|h
   ·exact h
   ·omega
  subst hm;refine⟨v,w,?_,by simpa using hown,⟨rfl,rfl,rfl,Nat.le_refl _,λ_ _ _=>rfl⟩,Or.inl rfl⟩;rcases hown.2 with⟨rfl,rfl⟩|⟨g,cap,cur,rfl,hbg,hg,hnc,hcm,hcs,htake⟩
  ·simp[Builtin.append_,run_underlying ht,sizeOf,typeInfo,hi,Builtin.lenOf,Builtin.firstCells]
  ·simp[Builtin.append_,run_underlying ht,sizeOf,typeInfo,hi,Builtin.lenOf,Builtin.firstCells,hnc,storeCells]
theorem wpListIn_appendR{F:Fence}{N:Nat}{P:Program}{w:World}{ops:Array Oper}{rest:List Oper}{o:Oper}{a:Act}{Q:Exit->Act->World->Prop}
  (hg:o.guard=none)(s x:Operand)(t:TypeId)(hop:o.op= .call {callee:= .builtin .append,args:=#[s,x],argTypes:=#[t,t]})
  {base:Nat}{e:TypeId}{size bytes:Nat}(ht:P.underlying t=some (.slice e))(El:ElemIs P e size bytes){v:Value}{n:Nat}{xs:List Value}(hs:a.eval s=v)(hown:w.ownsRow base e size v n xs)
  {A:Option Addr}{m c:Nat}(hx:a.eval x= .slice A m c){Zn:Zone}{news:List Value}(hn:news.length=m*size)(hr:Row Zn w A news)(h1:∀u∈news,u.oneCell'=true)(h63:n+m≤maxLen)(hb:(n+m)*bytes≤140737488355328)(hbase:base≤w.heap.size)
  (hK:∀v' w',w'.ownsRow base e size v' (n+m) (xs++news)->w.grownBy w' v.ownBlock->(v'.ownBlock=v.ownBlock∨v'.ownBlock=some w.heap.size)->wpListIn F N P ops Q rest (a.put o.dst v') w'):wpListIn F N P ops Q (o::rest) a w:=by
 refine wpListIn_plain hg λK hK'=> ?_
 obtain⟨v',w',hrun,h2,h3,h4⟩:=run_appendN (ty:=o.type) ht El hown hn hr h1 h63 hb hbase;unfold Oper.wpIn;refine⟨?_,?_⟩
 ·simp[Oper.about,hop,resolve,Target.leads,Sem.run_pure]
 ·rw[Oper.semAt_plain F _ _ (by rw[hop];intro c hc';cases hc')];unfold execOp;simp only[hop,resolve,invoke,builtin,Sem.run_bind,Sem.run_pure,Result.andThen_ok,List.map_toArray,List.map_cons,List.map_nil,hs,hx];rw[hrun];exact hK' _ _ (hK v' w' h2 h3 h4)
theorem own_blk1(W:World)(e:TypeId)(u:Value):(W.alloc (.cells #[u] e)).ownsRow W.heap.size e 1 (.slice (some ⟨W.heap.size,0,none⟩) 1 1) 1 [u]:=
 ⟨by simp,.inr ⟨W.heap.size,1,#[u],rfl,Nat.le_refl _,heap_alloc_new W _,Nat.le_refl _,by simp[maxLen],by simp,by simp⟩⟩
theorem row_map{Z:Zone}{W W':World}{A:Option Addr}{n c:Nat}{l:List Nat}(h:Lims Z W (.slice A n c) l)(hk:Keeps Z W W'):Row Z W' A (l.map lim):=by
 obtain⟨⟨A',cap',e,_,_,_,hr⟩,_⟩:=h;injection e with e1;subst e1;exact hr.keep hk
theorem numD_from(acc:Nat):∀l:List UInt8,l.foldl (λa c=>a*10+(c.toNat-48)) acc=acc*10^l.length+numD l
 |[]=>by simp[numD]
 |c::r=>by
  have h1:=numD_from (acc*10+(c.toNat-48)) r;have h2:=numD_from (c.toNat-48) r;have e:numD (c::r)=r.foldl (λa c=>a*10+(c.toNat-48)) (c.toNat-48):=by show r.foldl _ (0*10+_)=_;rw[Nat.zero_mul,Nat.zero_add]
  rw[e,h2,List.foldl_cons,h1,List.length_cons,Nat.pow_succ,Nat.add_mul,Nat.mul_assoc,Nat.mul_comm 10];omega
theorem numD_append(a b:List UInt8):numD (a++b)=numD a*10^b.length+numD b:=by
 show(a++b).foldl _ 0=_;rw[List.foldl_append];exact numD_from _ b
theorem numD_lt{l:List UInt8}(h:∀c∈l,isDgt c=true):numD l<10^l.length:=(padD_num l h).2
theorem numD_step{L:List UInt8}(h:∀c∈L,isDgt c=true){e:Nat}(he:e≤L.length):
  numD (L.take e)=numD (L.take (e-9))*1000000000+numD ((L.take e).drop (e-9))∧numD ((L.take e).drop (e-9))<1000000000:=by
 have hs:(L.take e)=L.take (e-9)++(L.take e).drop (e-9):=by
  have:=(List.take_append_drop (e-9) (L.take e)).symm;rwa[List.take_take,Nat.min_eq_left (Nat.sub_le _ _)]at this
 have hl:((L.take e).drop (e-9)).length =e-(e-9):=by rw[List.length_drop,List.length_take];omega
 have hd:∀c∈(L.take e).drop (e-9),isDgt c=true:=λc hc=>h c (List.mem_of_mem_take (List.mem_of_mem_drop hc))
 have hlt:=numD_lt hd;rw[hl]at hlt;have ha:=numD_append (L.take (e-9)) ((L.take e).drop (e-9));rw[<-hs,hl]at ha;rcases Nat.lt_or_ge e 9 with h9|h9
 ·have e0:e-9=0:=by omega
  refine⟨?_,Nat.lt_of_lt_of_le hlt (Nat.le_trans (Nat.pow_le_pow_right (by decide) (show e-(e-9)≤9 by omega)) (by decide))⟩;rw[ha,e0,List.take_zero];simp[numD]
 ·have e9:e-(e-9)=9:=by omega
  rw[e9]at ha hlt;exact⟨ha,hlt⟩
theorem parseM{M:Nat}(hM:1000000000≤M):∀(l:List UInt8)(acc k:Nat),(∀c∈l,isDgt c=true)->acc<10^k->k+l.length≤9->Lib.parseUintM M acc l= .ok (l.foldl (λa c=>a*10+(c.toNat-48)) acc)
 |[],_,_,_,_,_=>rfl
 |c::r,acc,k,h,ha,hk=>by
  have hc:=of_decide_eq_true (h c (List.mem_cons_self ..));rw[List.length_cons]at hk;have hp:10^(k+1)≤10^9:=Nat.pow_le_pow_right (by decide) (by omega);have ha':acc*10+(c.toNat-48)<10^(k+1):=by rw[Nat.pow_succ];omega
  have h9:(10:Nat)^9=1000000000:=by decide
  rw[h9]at hp;unfold Lib.parseUintM;rw[if_pos hc,if_neg (by omega),if_neg (by omega)];exact parseM hM r _ (k+1) (λc hc=>h c (List.mem_cons_of_mem _ hc)) ha' (by omega)
theorem parse9{l:List UInt8}(h:∀c∈l,isDgt c=true)(hne:l≠[])(hl:l.length≤9):Lib.parseUintB 64 l= .ok (numD l):=by
 unfold Lib.parseUintB;rw[if_neg hne];exact parseM (by decide) l 0 0 h (by decide) (by omega)
theorem parse_step{o:List Nat}{k x q V:Nat}(hl:o.length=k)(h:lv o+1000000000^k*(q*1000000000+x)=V):lv (o++[x])+1000000000^(k+1)*q=V:=by
 rw[lv_snoc,hl,Nat.pow_succ,<-h,Nat.mul_add,Nat.mul_assoc,Nat.mul_comm 1000000000 q];omega
section
open Go.Lib (decDigits)
theorem Canon.drop:∀{l:List Nat}(_:Canon l)(k:Nat),Canon (l.drop k)
 |l,h,0=>h
 |[],h,_+1=>h
 | _::l,h,k+1=>Canon.drop h.tail k
theorem text_top{l:List Nat}{j:Nat}(hj:j+1=l.length):lv (l.drop j)=l[j]:=by
 rw[List.drop_eq_getElem_cons (by omega),List.drop_of_length_le (by omega)];simp[lv]
theorem text_step{l:List Nat}(hc:Canon l){j:Nat}(hj:j+1<l.length):
  decDigits (lv (l.drop j))=decDigits (lv (l.drop (j+1)))++(List.replicate (9-(decDigits l[j]).length) 48++decDigits l[j]):=by
 have hq:0<lv (l.drop (j+1)):=(hc.drop (j+1)).pos (by intro h0;have:=congrArg List.length h0;rw[List.length_drop]at this;simp at this;omega);have hx:=hc.limbs.get (i:=j) (by omega)
 have e:lv (l.drop j)=lv (l.drop (j+1))*10^9+l[j]:=by
  rw[List.drop_eq_getElem_cons (by omega)];show l[j]+1000000000*lv (l.drop (j+1))=_;have h9:(10:Nat)^9=1000000000:=by decide
  rw[h9,Nat.mul_comm];omega
 rw[e,dec_split 9 _ _ hq (by simpa using hx),padD_eq 9 _ (by decide) (by simpa using hx)]
end
def sgI(neg:Bool)(n:Nat):Int:=if neg then-(n:Int)else(n:Int)
def Rt.toQ(r:Rt):Rat:=mkRat (sgI r.neg r.num) r.den
structure Low (r:Rt):Prop where
 den:0<r.den
 gcd:Nat.gcd r.num r.den=1
 zero:r.num=0->r.neg=false
theorem RtOk.low{r:Rt}(h:RtOk r):Low r:=⟨h.den,h.gcd,h.zero⟩
theorem sgI_abs(neg:Bool)(n:Nat):(sgI neg n).natAbs =n:=by unfold sgI;cases neg<;>simp
theorem sgI_mul(a b:Bool)(n m:Nat):sgI a n*sgI b m=sgI (a !=b) (n*m):=by unfold sgI;cases a<;>cases b<;>simp[Int.neg_mul,Int.mul_neg]
theorem Low.toQ{r:Rt}(h:Low r):r.toQ.num=sgI r.neg r.num∧r.toQ.den=r.den:=by
 have hc:Nat.Coprime (sgI r.neg r.num).natAbs r.den:=by rw[sgI_abs];exact h.gcd
 have:=Rat.mk_eq_mkRat (sgI r.neg r.num) r.den (by have:=h.den;omega) hc;unfold Rt.toQ;rw[<-this];exact⟨rfl,rfl⟩
theorem toQ_inj{a b:Rt}(ha:Low a)(hb:Low b)(h:a.toQ=b.toQ):a=b:=by
 have h1:=ha.toQ;have h2:=hb.toQ;rw[h]at h1;have e1:sgI a.neg a.num=sgI b.neg b.num:=h1.1.symm.trans h2.1;have e2:a.den=b.den:=h1.2.symm.trans h2.2;have e3:a.num=b.num:=by have:=congrArg Int.natAbs e1;rwa[sgI_abs,sgI_abs]at this
 have e4:a.neg=b.neg:=by
  by_cases h0:a.num=0
  ·rw[ha.zero h0,hb.zero (by omega)]
  ·unfold sgI at e1;cases h1:a.neg<;>cases h2:b.neg<;>rw[h1,h2]at e1<;>simp at e1⊢ <;>omega
 obtain⟨x,y,z⟩:=a;obtain⟨x',y',z'⟩:=b;simp only at e2 e3 e4;rw[e2,e3,e4]
theorem lowR_low{neg:Bool}{num den:Nat}(hd:0<den):Low (lowR neg num den):=by
 have hg:0<Nat.gcd num den:=Nat.gcd_pos_of_pos_right _ hd;refine⟨Nat.div_pos (Nat.le_of_dvd hd (Nat.gcd_dvd_right ..)) hg,Nat.coprime_div_gcd_div_gcd hg,λh=> ?_⟩;have h:num / Nat.gcd num den=0:=h;show(neg&&decide (num / Nat.gcd num den≠0))=false;rw[h];simp
theorem lowR_q(neg:Bool)(num:Nat){den:Nat}(hd:0<den):(lowR neg num den).toQ =mkRat (sgI neg num) den:=by
 have hg:0<Nat.gcd num den:=Nat.gcd_pos_of_pos_right _ hd;obtain⟨x,hx⟩:=Nat.gcd_dvd_left num den;obtain⟨y,hy⟩:=Nat.gcd_dvd_right num den;generalize hgg:Nat.gcd num den=g at*;have ex:num / g=x:=by rw[hx,Nat.mul_div_cancel_left _ hg]
 have ey:den / g=y:=by rw[hy,Nat.mul_div_cancel_left _ hg]
 unfold Rt.toQ lowR;simp only[hgg,ex,ey]
 have e:sgI (neg&&decide (x≠0)) x=sgI neg x:=by
  by_cases h0:x=0
  ·subst h0;unfold sgI;cases neg<;>simp
  ·simp[h0]
 rw[e,hx,hy];have e2:sgI neg (g*x)=(g:Int)*sgI neg x:=by unfold sgI;cases neg<;>simp[Int.mul_neg]
 rw[e2,Rat.mkRat_mul_left (by omega)]
theorem ofR_low{n d:Int}(hd:d≠0):Low (ofR n d):=lowR_low (by omega)
theorem prodQ_low{a b:Rt}(ha:0<a.den)(hb:0<b.den):Low (prodQ a b):=lowR_low (Nat.mul_pos ha hb)
theorem prodQ_q{a b:Rt}(ha:0<a.den)(hb:0<b.den):(prodQ a b).toQ =a.toQ*b.toQ:=by
 unfold prodQ;rw[lowR_q _ _ (Nat.mul_pos ha hb)];unfold Rt.toQ;rw[Rat.mkRat_mul_mkRat,sgI_mul]
theorem sumR_low{a b:Rt}(ha:0<a.den)(hb:0<b.den):Low (sumR a b):=by
 unfold sumR;split
 ·exact lowR_low (Nat.mul_pos ha hb)
 ·split<;>exact lowR_low (Nat.mul_pos ha hb)
theorem sumR_q{a b:Rt}(ha:0<a.den)(hb:0<b.den):(sumR a b).toQ =a.toQ+b.toQ:=by
 have hab:=Nat.mul_pos ha hb
 have e:a.toQ+b.toQ=mkRat (sgI a.neg a.num*b.den+sgI b.neg b.num*a.den) (a.den*b.den):=by
  unfold Rt.toQ;rw[Rat.mkRat_add_mkRat _ _ (by omega) (by omega)]
 rw[e];unfold sumR;split
 ·rename_i h;rw[lowR_q _ _ hab];congr 1;unfold sgI;rw[h];cases b.neg<;>simp[Int.neg_mul,Int.neg_add]
 ·rename_i h;split
  ·rename_i hlt;rw[lowR_q _ _ hab];congr 1;unfold sgI;rw[Int.ofNat_sub (Nat.le_of_lt hlt)];cases h1:a.neg<;>cases h2:b.neg<;>rw[h1,h2]at h<;>simp[Int.neg_mul]at h⊢ <;>omega
  ·rename_i hlt;rw[lowR_q _ _ hab];congr 1;unfold sgI;rw[Int.ofNat_sub (by omega)];cases h1:a.neg<;>cases h2:b.neg<;>rw[h1,h2]at h<;>simp[Int.neg_mul]at h⊢ <;>omega
theorem oppR_q(r:Rt):(oppR r).toQ = -r.toQ:=by
 unfold oppR Rt.toQ;rw[Rat.neg_mkRat];congr 1;unfold sgI;by_cases h:r.num=0
 ·simp[h]
 ·cases r.neg<;>simp[h]
theorem oppR_low{r:Rt}(h:Low r):Low (oppR r):=⟨h.den,h.gcd,λh0=>by have h0:r.num=0:=h0;show(!r.neg&&decide (r.num≠0))=false;simp[h0]⟩
theorem ofR_q(n:Int):(ofR n 1).toQ =(n:Rat):=by
 unfold ofR;rw[lowR_q _ _ (by decide)]
 have e:sgI (decide (n<0)!=decide ((1:Int)<0)) n.natAbs=n:=by
  unfold sgI;by_cases h:n<0<;>simp[h]<;>omega
 rw[e];exact(Rat.mk_eq_mkRat n 1 (by decide) (Nat.gcd_one_right _)).symm
theorem ofR_den{n d:Int}(hd:d≠0):0<(ofR n d).den :=(ofR_low hd).den
theorem Low.nonneg{r:Rt}(h:Low r):0≤r.toQ↔r.neg=false:=by
 rw[<-Rat.num_nonneg,h.toQ.1];unfold sgI;cases hn:r.neg
 ·simp
 ·simp;by_cases h0:r.num=0
  ·have:=h.zero h0;rw[hn]at this;cases this
  ·omega
theorem Low.eq_zero{r:Rt}(h:Low r):r.toQ=0↔r.num=0:=by
 rw[<-Rat.num_eq_zero,h.toQ.1];unfold sgI;cases r.neg<;>simp
theorem Low.is_zero{r:Rt}(h:Low r)(h0:r.num=0):r=rt0:=by
 obtain⟨a,b,c⟩:=r;have h1:=h.gcd;have h2:=h.zero h0;simp only at h0 h1 h2;subst h0 h2;rw[Nat.gcd_zero_left]at h1;subst h1;rfl
theorem rt0_low:Low rt0:=rt0_ok.low
theorem rt0_q:rt0.toQ=0:=rt0_low.eq_zero.2 rfl
theorem addR_ok{a b r:Rt}(h:addR a b=(r,0)):longR a=false∧longR b=false∧r=sumR a b:=by
 unfold addR at h;split at h
 ·injection h with _ h;cases h
 ·rename_i h0;injection h with h _;cases h1:longR a<;>cases h2:longR b<;>rw[h1,h2]at h0<;>simp at h0;exact⟨rfl,rfl,h.symm⟩
theorem mulR_ok{a b r:Rt}(h:mulR a b=(r,0)):longR a=false∧longR b=false∧r=prodQ a b:=by
 unfold mulR at h;split at h
 ·injection h with _ h;cases h
 ·rename_i h0;injection h with h _;cases h1:longR a<;>cases h2:longR b<;>rw[h1,h2]at h0<;>simp at h0;exact⟨rfl,rfl,h.symm⟩
theorem cmpR_eq{a b:Rt}(ha:Low a)(hb:Low b)(h:(cmpR a b).2=0):(a.toQ<b.toQ∧(cmpR a b).1= -1)∨(a.toQ=b.toQ∧(cmpR a b).1=0)∨(b.toQ<a.toQ∧(cmpR a b).1=1):=by
 have hl:=sumR_low (a:=a) (b:=oppR b) ha.den hb.den;have hq:(sumR a (oppR b)).toQ =a.toQ-b.toQ:=by rw[sumR_q (b:=oppR b) ha.den hb.den,oppR_q,Rat.sub_eq_add_neg]
 unfold cmpR subR at h⊢;by_cases hlong:(longR a||longR b)=true
 ·rw[if_pos hlong]at h;cases h
 ·rw[if_neg hlong]at h⊢;simp only[ne_eq,not_true_eq_false,if_false]at h⊢;by_cases hn:(sumR a (oppR b)).neg =true
  ·rw[if_pos hn];refine .inl ⟨?_,rfl⟩;(have:¬0≤(sumR a (oppR b)).toQ :=by rw[hl.nonneg,hn];simp);rw[hq,<-Rat.le_iff_sub_nonneg,Rat.not_le]at this;exact this
  ·rw[if_neg hn];(have h0:0≤(sumR a (oppR b)).toQ :=by rw[hl.nonneg];simpa using hn);rw[hq,<-Rat.le_iff_sub_nonneg]at h0;by_cases hz:(sumR a (oppR b)).num =0
   ·rw[if_pos hz];have:=hl.eq_zero.2 hz;rw[hq]at this;refine .inr (.inl ⟨?_,rfl⟩);have h1:=Rat.sub_add_cancel (a:=a.toQ) (b:=b.toQ);rw[this,Rat.zero_add]at h1;exact h1.symm
   ·rw[if_neg hz];refine .inr (.inr ⟨Rat.lt_of_le_of_ne h0 λe=>hz (hl.eq_zero.1 ?_),rfl⟩);rw[hq,e,Rat.sub_self]
end Go.Proofs.YtimmfbnjndndlaaGreatDoor
