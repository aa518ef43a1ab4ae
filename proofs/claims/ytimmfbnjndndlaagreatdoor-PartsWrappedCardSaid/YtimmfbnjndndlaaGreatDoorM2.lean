/- Texts N1 N2 N3. -/
import Derived.WalkKit
import Derived.Lib.ItoaNum
import Derived.Lib.ItoaMem
set_option linter.all false
namespace Go.Proofs.YtimmfbnjndndlaaGreatDoor
open Go.RowKit
def lv:List Nat->Nat
 |[]=>0
 |x::r=>x+1000000000*lv r
def Limbs(l:List Nat):Prop:=∀x∈l,x<1000000000
theorem Limbs.nil:Limbs []:=λ_ h=>by cases h
theorem Limbs.cons{x:Nat}{l:List Nat}(hx:x<1000000000)(h:Limbs l):Limbs (x::l):=λy hy=>by
 rcases List.mem_cons.1 hy with rfl|hy
 ·exact hx
 ·exact h y hy
theorem Limbs.tail{x:Nat}{l:List Nat}(h:Limbs (x::l)):Limbs l:=λy hy=>h y (List.mem_cons_of_mem _ hy)
theorem Limbs.append{a b:List Nat}(ha:Limbs a)(hb:Limbs b):Limbs (a++b):=λy hy=>by
 rcases List.mem_append.1 hy with h|h
 ·exact ha y h
 ·exact hb y h
theorem Limbs.take{l:List Nat}(h:Limbs l)(k:Nat):Limbs (l.take k):=λy hy=>h y (List.mem_of_mem_take hy)
theorem Limbs.get{l:List Nat}(h:Limbs l){i:Nat}(hi:i<l.length):l[i]<1000000000:=h _ (List.getElem_mem hi)
theorem Limbs.set{l:List Nat}(h:Limbs l)(i:Nat){x:Nat}(hx:x<1000000000):Limbs (l.set i x):=λy hy=>by
 rcases List.mem_or_eq_of_mem_set hy with h'|rfl
 ·exact h y h'
 ·exact hx
theorem lv_append:∀(a b:List Nat),lv (a++b)=lv a+1000000000^a.length*lv b
 |[],b=>by simp[lv]
 |x::a,b=>by
  have e:1000000000^(a.length+1)*lv b=1000000000*(1000000000^a.length*lv b):=by rw[Nat.pow_succ,Nat.mul_comm (1000000000^a.length),Nat.mul_assoc]
  simp only[List.cons_append,lv,List.length_cons];rw[lv_append a b,e];omega
theorem lv_snoc(a:List Nat)(x:Nat):lv (a++[x])=lv a+1000000000^a.length*x:=by
 rw[lv_append];simp[lv]
theorem lv_lt:∀{l:List Nat},Limbs l->lv l<1000000000^l.length
 |[],_=>by simp[lv]
 |x::l,h=>by
  have h1:=lv_lt h.tail;have h2:=h x (List.mem_cons_self ..);simp only[lv,List.length_cons,Nat.pow_succ];omega
theorem lv_take_succ{l:List Nat}{i:Nat}(hi:i<l.length):lv (l.take (i+1))=lv (l.take i)+1000000000^i*l[i]:=by
 rw[List.take_succ_eq_append_getElem hi,lv_snoc,List.length_take,Nat.min_eq_left (Nat.le_of_lt hi)]
theorem lv_take_all(l:List Nat):lv (l.take l.length)=lv l:=by rw[List.take_length]
theorem lv_split{l:List Nat}{i:Nat}(hi:i<l.length):lv l=lv (l.take i)+1000000000^i*(l[i]+1000000000*lv (l.drop (i+1))):=by
 have e:=lv_append (l.take i) (l.drop i);rw[List.take_append_drop,List.length_take,Nat.min_eq_left (Nat.le_of_lt hi),List.drop_eq_getElem_cons hi]at e;exact e
def Ends(l:List Nat):Prop:=∀h:l≠[],l.getLast h≠0
structure Canon (l:List Nat):Prop where
 limbs:Limbs l
 ends:Ends l
theorem Canon.nil:Canon []:=⟨Limbs.nil,λh=>absurd rfl h⟩
theorem Ends.tail{x:Nat}{l:List Nat}(h:Ends (x::l)):Ends l:=λhl=>by
 have:=h (by simp);rw[List.getLast_cons hl]at this;exact this
theorem Canon.tail{x:Nat}{l:List Nat}(h:Canon (x::l)):Canon l:=⟨h.limbs.tail,h.ends.tail⟩
theorem Canon.pos:∀{l:List Nat},Canon l->l≠[]->0<lv l
 |[],_,h=>absurd rfl h
 |[x],h,_=>by
  have:=h.ends (by simp);simp at this;simp[lv];omega
 |x::y::l,h,_=>by
  have:=Canon.pos h.tail (by simp);simp only[lv]at this⊢;omega
theorem Canon.zero{l:List Nat}(h:Canon l)(e:lv l=0):l=[]:=by
 rcases l with _ |⟨x,l⟩
 ·rfl
 ·have:=h.pos (by simp);omega
theorem Canon.uniq:∀{a b:List Nat},Canon a->Canon b->lv a=lv b->a=b
 |[],b,_,hb,e=>(hb.zero (by rw[<-e];rfl)).symm
 |x::a,[],ha,_,e=>ha.zero (by rw[e];rfl)
 |x::a,y::b,ha,hb,e=>by
  have h1:=ha.limbs x (List.mem_cons_self ..);have h2:=hb.limbs y (List.mem_cons_self ..);simp only[lv]at e;have e1:x=y:=by omega
  have e2:lv a=lv b:=by omega
  rw[e1,Canon.uniq ha.tail hb.tail e2]
def digs(n:Nat):List Nat:=if h:n=0 then[]else n%1000000000::digs (n / 1000000000)
termination_by n
decreasing_by exact Nat.div_lt_self (Nat.pos_of_ne_zero h) (by decide)
theorem digs_zero:digs 0=[]:=by rw[digs];simp
theorem digs_pos{n:Nat}(h:n≠0):digs n=n%1000000000::digs (n / 1000000000):=by rw[digs];simp[h]
theorem digs_canon(n:Nat):Canon (digs n)∧lv (digs n)=n:=by
 induction n using Nat.strongRecOn with
 | _ n ih=>
  by_cases h:n=0
  ·subst h;rw[digs_zero];exact⟨Canon.nil,rfl⟩
  ·obtain⟨h1,h2⟩:=ih (n / 1000000000) (Nat.div_lt_self (Nat.pos_of_ne_zero h) (by decide));rw[digs_pos h];refine⟨⟨h1.limbs.cons (Nat.mod_lt _ (by decide)),λhl=> ?_⟩,?_⟩
   ·by_cases hn:digs (n / 1000000000)=[]
    ·(have e:n / 1000000000=0:=by rw[<-h2,hn];rfl);simp only[hn,List.getLast_singleton];omega
    ·rw[List.getLast_cons hn];exact h1.ends hn
   ·simp only[lv,h2];omega
theorem digs_lv{l:List Nat}(h:Canon l):digs (lv l)=l:=(digs_canon _).1.uniq h (digs_canon _).2
theorem digs_of{l:List Nat}{n:Nat}(h:Canon l)(e:lv l=n):l=digs n:=by rw[<-e,digs_lv h]
theorem digs_nil{n:Nat}:digs n=[]↔n=0:=by
 constructor
 ·intro h;have:=(digs_canon n).2;rw[h]at this;exact this.symm
 ·rintro rfl;exact digs_zero
theorem digs_length_le{n k:Nat}(h:n<1000000000^k):(digs n).length ≤k:=by
 rcases Nat.lt_or_ge k (digs n).length with hlt|hge
 ·exfalso;have hc:=(digs_canon n).1;have hv:=(digs_canon n).2;have hi:(digs n).length -1<(digs n).length :=by omega
  have e:=lv_split hi;have hne:digs n≠[]:=by intro h0;rw[h0]at hlt;cases hlt
  have hl:=hc.ends hne;rw[List.getLast_eq_getElem]at hl;have hp:1000000000^k≤1000000000^((digs n).length -1):=Nat.pow_le_pow_right (by decide) (by omega);have hm:1000000000^((digs n).length -1)*1≤1000000000^((digs n).length -1)*((digs n)[(digs n).length -1]+1000000000*lv ((digs n).drop ((digs n).length -1+1))):=Nat.mul_le_mul_left _ (by omega);omega
 ·exact hge
def trimL(l:List Nat):Nat->Nat
 |0=>0
 |k+1=>if l[k]? =some 0 then trimL l k else k+1
theorem trimL_le(l:List Nat):∀k,trimL l k≤k
 |0=>Nat.le_refl _
 |k+1=>by
  unfold trimL;split
  ·exact Nat.le_succ_of_le (trimL_le l k)
  ·exact Nat.le_refl _
theorem trimL_lv(l:List Nat):∀k,k≤l.length->lv (l.take (trimL l k))=lv (l.take k)
 |0,_=>rfl
 |k+1,hk=>by
  unfold trimL;split
  ·rename_i h;have hk':k<l.length:=hk;rw[List.getElem?_eq_getElem hk']at h;injection h with h;rw[trimL_lv l k (Nat.le_of_lt hk'),lv_take_succ hk',h];simp
  ·rfl
theorem trimL_ends(l:List Nat):∀k,k≤l.length->Ends (l.take (trimL l k))
 |0,_=>λh=>absurd rfl h
 |k+1,hk=>by
  unfold trimL;split
  ·exact trimL_ends l k (by omega)
  ·rename_i h;have hk':k<l.length:=hk;rw[List.getElem?_eq_getElem hk']at h;intro hne;rw[List.getLast_eq_getElem];simp only[List.length_take,List.getElem_take];(have e:min (k+1) l.length-1=k:=by omega);simp only[e];intro h0;exact h (by rw[h0])
theorem trimL_canon{l:List Nat}(h:Limbs l):Canon (l.take (trimL l l.length)):=⟨h.take _,trimL_ends l _ (Nat.le_refl _)⟩
theorem trimL_digs{l:List Nat}(h:Limbs l){n:Nat}(e:lv l=n):l.take (trimL l l.length)=digs n:=
 digs_of (trimL_canon h) (by rw[trimL_lv l _ (Nat.le_refl _),List.take_length,e])
theorem add_step{o:List Nat}{i c a m x A M:Nat}(hlen:o.length=i)(h:lv o+1000000000^i*c=A+M)(hx:x=a+c+m):
  lv (o++[x%1000000000])+1000000000^(i+1)*(x / 1000000000)=(A+1000000000^i*a)+(M+1000000000^i*m):=by
 rw[lv_snoc,hlen,Nat.pow_succ];generalize 1000000000^i=p at*;have e1:p*(x%1000000000)+p*1000000000*(x / 1000000000)=p*x:=by rw[Nat.mul_assoc,<-Nat.mul_add,Nat.mod_add_div]
 have e2:p*x=p*a+p*c+p*m:=by rw[hx,Nat.mul_add,Nat.mul_add]
 omega
theorem sub_step{o:List Nat}{i b b' a m d A M:Nat}(hlen:o.length=i)(h:lv o+M=A+1000000000^i*b)(hd:d+m+b=a+1000000000*b'):
  lv (o++[d])+(M+1000000000^i*m)=(A+1000000000^i*a)+1000000000^(i+1)*b':=by
 rw[lv_snoc,hlen,Nat.pow_succ];generalize 1000000000^i=p at*;have e1:p*d+p*m+p*b=p*a+p*1000000000*b':=by rw[Nat.mul_assoc,<-Nat.mul_add,<-Nat.mul_add,<-Nat.mul_add,hd]
 omega
theorem lv_set{l:List Nat}{i x:Nat}(hi:i<l.length):lv (l.set i x)+1000000000^i*l[i]=lv l+1000000000^i*x:=by
 have hi':i<(l.set i x).length :=by simpa using hi
 have e1:=lv_split hi;have e2:=lv_split hi';rw[List.take_set_of_le (Nat.le_refl _),List.getElem_set_self,List.drop_set_of_lt (Nat.lt_succ_self _)]at e2;rw[e2,e1];generalize 1000000000^i=p;generalize lv (l.drop (i+1))=q;rw[Nat.mul_add,Nat.mul_add];omega
theorem lv_top{a b:List Nat}(ha:Limbs a)(hb:Limbs b){i:Nat}(hia:i<a.length)(hib:i<b.length)(hd:a.drop (i+1)=b.drop (i+1))(h:a[i]<b[i]):lv a<lv b:=by
 rw[lv_split hia,lv_split hib,hd];have h1:=lv_lt (ha.take i);rw[List.length_take,Nat.min_eq_left (Nat.le_of_lt hia)]at h1;have h2:1000000000^i*(a[i]+1000000000*lv (b.drop (i+1))+1)≤1000000000^i*(b[i]+1000000000*lv (b.drop (i+1))):=Nat.mul_le_mul_left _ (by omega);rw[Nat.mul_add _ _ 1]at h2;omega
theorem lv_longer{a b:List Nat}(ha:Limbs a)(hb:Canon b)(h:a.length<b.length):lv a<lv b:=by
 have h1:=lv_lt ha;have hi:b.length-1<b.length:=by omega
 have e:=lv_split hi;have hne:b≠[]:=by intro h0;rw[h0]at h;cases h
 have hl:=hb.ends hne;rw[List.getLast_eq_getElem]at hl;have hp:1000000000^a.length≤1000000000^(b.length-1):=Nat.pow_le_pow_right (by decide) (by omega);have hm:1000000000^(b.length-1)*1≤1000000000^(b.length-1)*(b[b.length-1]+1000000000*lv (b.drop (b.length-1+1))):=Nat.mul_le_mul_left _ (by omega);omega
section
open Go.Lib (decDigits)
def padD:Nat->Nat->List UInt8
 |0,_=>[]
 |k+1,r=>padD k (r / 10)++[UInt8.ofNat (48+r%10)]
theorem padD_length:∀(k r:Nat),(padD k r).length =k
 |0,_=>rfl
 |k+1,r=>by simp[padD,padD_length k]
theorem dec_small{u:Nat}(h:u<10):decDigits u=[UInt8.ofNat (48+u)]:=by rw[decDigits,dif_pos h]
theorem dec_big{u:Nat}(h:¬u<10):decDigits u=decDigits (u / 10)++[UInt8.ofNat (48+u%10)]:=by rw[decDigits,dif_neg h]
theorem dec_ne(u:Nat):decDigits u≠[]:=by
 by_cases h:u<10
 ·rw[dec_small h];simp
 ·rw[dec_big h];simp
theorem dec_split:∀(k q r:Nat),0<q->r<10^k->decDigits (q*10^k+r)=decDigits q++padD k r
 |0,q,r,_,hr=>by
  have:r=0:=by simpa using hr
  simp[this,padD]
 |k+1,q,r,hq,hr=>by
  have hp:1≤10^k:=Nat.one_le_pow _ _ (by decide)
  have e:q*10^(k+1)+r=(q*10^k+r / 10)*10+r%10:=by
   rw[Nat.pow_succ,<-Nat.mul_assoc,Nat.add_mul];omega
  have hqp:1≤q*10^k:=Nat.mul_pos hq hp;rw[e,dec_big (by omega)];have e1:((q*10^k+r / 10)*10+r%10) / 10=q*10^k+r / 10:=by omega
  have e2:((q*10^k+r / 10)*10+r%10)%10=r%10:=by omega
  rw[e1,e2,dec_split k q (r / 10) hq (by rw[Nat.pow_succ]at hr;omega)];simp[padD]
theorem padD_zero:∀(k:Nat),padD k 0=List.replicate k 48
 |0=>rfl
 |k+1=>by
  simp only[padD,Nat.zero_div,Nat.zero_mod,padD_zero k];rw[List.replicate_succ'];rfl
theorem padD_eq:∀(k r:Nat),0<k->r<10^k->padD k r=List.replicate (k-(decDigits r).length) 48++decDigits r
 |0,_,h,_=>absurd h (by omega)
 |k+1,r,_,hr=>by
  by_cases h:r<10
  ·rw[dec_small h];simp only[padD,Nat.div_eq_of_lt h,Nat.mod_eq_of_lt h,padD_zero,List.length_singleton,Nat.add_sub_cancel]
  ·have hk:0<k:=by
    rcases Nat.eq_zero_or_pos k with rfl|hk
    ·simp at hr;omega
    ·exact hk
   rw[dec_big h];have ih:=padD_eq k (r / 10) hk (by rw[Nat.pow_succ]at hr;omega);simp only[padD,ih,List.length_append,List.length_singleton,List.append_assoc];congr 2;omega
theorem dec_length_le:∀{k r:Nat},0<k->r<10^k->(decDigits r).length ≤k
 |0,_,h,_=>absurd h (by omega)
 |k+1,r,_,hr=>by
  by_cases h:r<10
  ·rw[dec_small h];simp
  ·have hk:0<k:=by
    rcases Nat.eq_zero_or_pos k with rfl|hk
    ·simp at hr;omega
    ·exact hk
   rw[dec_big h,List.length_append,List.length_singleton];exact Nat.succ_le_succ (dec_length_le hk (by rw[Nat.pow_succ]at hr;omega))
theorem dec_length_ge:∀{k r:Nat},(decDigits r).length ≤k->r<10^k
 |0,r,h=>absurd (List.eq_nil_of_length_eq_zero (Nat.le_zero.1 h)) (dec_ne r)
 |k+1,r,h=>by
  by_cases h1:r<10
  ·have:1≤10^k:=Nat.one_le_pow _ _ (by decide);rw[Nat.pow_succ];omega
  ·rw[dec_big h1,List.length_append,List.length_singleton]at h;have:=dec_length_ge (k:=k) (r:=r / 10) (by omega);rw[Nat.pow_succ];omega
theorem dec_length_iff{k r:Nat}(hk:0<k):(decDigits r).length ≤k↔r<10^k:=⟨dec_length_ge,dec_length_le hk⟩
def numD(l:List UInt8):Nat:=l.foldl (λa c=>a*10+(c.toNat-48)) 0
theorem numD_snoc(l:List UInt8)(c:UInt8):numD (l++[c])=numD l*10+(c.toNat-48):=by simp[numD]
theorem digit_val{d:Nat}(h:d<10):(UInt8.ofNat (48+d)).toNat -48=d:=by
 rw[UInt8.toNat_ofNat_of_lt' (by show 48+d<256;omega)];omega
theorem numD_dec(u:Nat):numD (decDigits u)=u:=by
 induction u using Nat.strongRecOn with
 | _ u ih=>
  by_cases h:u<10
  ·rw[dec_small h];show 0*10+_=u;rw[digit_val h];omega
  ·rw[dec_big h,numD_snoc,ih (u / 10) (by omega),digit_val (Nat.mod_lt _ (by decide))];omega
theorem dec_inj{a b:Nat}(h:decDigits a=decDigits b):a=b:=by rw[<-numD_dec a,h,numD_dec]
def isDgt(c:UInt8):Bool:=decide (48≤c.toNat∧c.toNat≤57)
theorem isDgt_of{d:Nat}(h:d<10):isDgt (UInt8.ofNat (48+d))=true:=by
 unfold isDgt;rw[UInt8.toNat_ofNat_of_lt' (by show 48+d<256;omega)];simp;omega
theorem dec_digits(u:Nat):∀c∈decDigits u,isDgt c=true:=by
 induction u using Nat.strongRecOn with
 | _ u ih=>
  by_cases h:u<10
  ·rw[dec_small h];intro c hc;rw[List.mem_singleton.1 hc];exact isDgt_of h
  ·rw[dec_big h];intro c hc;rcases List.mem_append.1 hc with hc|hc
   ·exact ih (u / 10) (by omega) c hc
   ·rw[List.mem_singleton.1 hc];exact isDgt_of (Nat.mod_lt _ (by decide))
theorem padD_digits:∀(k r:Nat),∀c∈padD k r,isDgt c=true
 |0,_,c,h=>by cases h
 |k+1,r,c,h=>by
  rcases List.mem_append.1 h with h|h
  ·exact padD_digits k _ c h
  ·rw[List.mem_singleton.1 h];exact isDgt_of (Nat.mod_lt _ (by decide))
theorem padD_num:∀(l:List UInt8),(∀c∈l,isDgt c=true)->padD l.length (numD l)=l∧numD l<10^l.length:=by
 intro l;generalize hn:l.length=n
 induction n generalizing l with
 |zero=>
  intro _;rw[List.eq_nil_of_length_eq_zero hn];exact⟨rfl,by decide⟩
 |succ n ih=>
  intro h;have hne:l≠[]:=by intro h0;rw[h0]at hn;cases hn
  have e:=List.dropLast_concat_getLast hne;have hl:l.dropLast.length=n:=by simp[hn]
  have hd:=h (l.getLast hne) (List.getLast_mem hne);unfold isDgt at hd;have hd:=of_decide_eq_true hd;obtain⟨h1,h2⟩:=ih l.dropLast hl (λc hc=>h c (List.dropLast_subset _ hc));generalize l.getLast hne=c at*;generalize l.dropLast=r at*;subst e;rw[numD_snoc];refine⟨?_,?_⟩
  ·(have e1:(numD r*10+(c.toNat-48)) / 10=numD r:=by omega);(have e2:(numD r*10+(c.toNat-48))%10=c.toNat-48:=by omega);(have e3:48+(c.toNat-48)=c.toNat:=by omega);simp only[padD,e1,e2,e3,h1,UInt8.ofNat_toNat]
  ·rw[Nat.pow_succ];omega
def isNatL(l:List UInt8):Bool:= !l.isEmpty&&decide (l.length≤300)&&l.all isDgt&&(decide (l.length=1)||decide (l.head?≠some 48))
theorem dec_head:∀(u:Nat),0<u->(decDigits u).head? ≠some 48:=by
 intro u
 induction u using Nat.strongRecOn with
 | _ u ih=>
  intro hu;by_cases h:u<10
  ·rw[dec_small h];simp only[List.head?_cons];intro h0;injection h0 with h0;have:=congrArg UInt8.toNat h0;rw[UInt8.toNat_ofNat_of_lt' (by show 48+u<256;omega)]at this;have h48:(48:UInt8).toNat =48:=rfl;omega
  ·rw[dec_big h];have:=ih (u / 10) (by omega) (by omega);rw[List.head?_append]
   cases hh:(decDigits (u / 10)).head? with
   |none=>rw[List.head?_eq_none_iff]at hh;exact absurd hh (dec_ne _)
   |some c=>rw[hh]at this;simpa using this
theorem isNat_dec{u:Nat}:isNatL (decDigits u)=decide ((decDigits u).length ≤300):=by
 unfold isNatL
 have h1:(decDigits u).isEmpty =false:=by
  cases h:decDigits u with
  |nil=>exact absurd h (dec_ne u)
  |cons _ _=>rfl
 have h2:(decDigits u).all isDgt=true:=List.all_eq_true.2 (dec_digits u)
 have h3:(decide ((decDigits u).length =1)||decide ((decDigits u).head? ≠some 48))=true:=by
  by_cases h:u=0
  ·subst h;rw[dec_small (by decide)];rfl
  ·have:=dec_head u (by omega);simp[this]
 rw[h1,h2,h3];simp
theorem isNat_iff{l:List UInt8}(h:isNatL l=true):l=decDigits (numD l):=by
 unfold isNatL at h;simp only[Bool.and_eq_true,Bool.not_eq_true',List.all_eq_true,Bool.or_eq_true,decide_eq_true_eq]at h;obtain⟨⟨⟨h1,-⟩,h3⟩,h4⟩:=h;obtain⟨e,hlt⟩:=padD_num l h3;rcases l with _ |⟨c,r⟩
 ·cases h1
 by_cases hr:r=[]
 ·subst hr;have hc:=h3 c (List.mem_singleton.2 rfl);unfold isDgt at hc;have hc:=of_decide_eq_true hc;have en:numD [c]=c.toNat-48:=by show 0*10+(c.toNat-48)=_;omega
  have e3:48+(c.toNat-48)=c.toNat:=by omega
  rw[en,dec_small (by omega),e3,UInt8.ofNat_toNat]
 ·have hne:¬(c::r).length =1:=by
   intro h0;exact hr (List.eq_nil_of_length_eq_zero (by simpa using h0))
  rcases h4 with h4|h4
  ·exact absurd h4 hne
  ·have e2:=padD_eq (c::r).length (numD (c::r)) (by simp) hlt;rw[e]at e2;rcases hk:(c::r).length -(decDigits (numD (c::r))).length with _ |k
   ·rw[hk]at e2;simpa using e2
   ·rw[hk,List.replicate_succ,List.cons_append]at e2;injection e2 with ec _;exact absurd (by rw[ec];rfl) h4
end
section
open Go.Lib (decDigits)
def dstr(n:Nat):ByteArray:=⟨(decDigits n).toArray⟩
theorem dstr_list(n:Nat):(dstr n).data.toList =decDigits n:=rfl
theorem dstr_inj{a b:Nat}(h:dstr a=dstr b):a=b:=dec_inj (by rw[<-dstr_list a,h,dstr_list])
theorem dstr_size(n:Nat):(dstr n).size =(decDigits n).length :=by show(decDigits n).toArray.size =_;simp
structure Rt where
 neg:Bool
 num:Nat
 den:Nat
deriving DecidableEq
structure RtOk (r:Rt):Prop where
 den:0<r.den
 gcd:Nat.gcd r.num r.den=1
 zero:r.num=0->r.neg=false
 numL:(decDigits r.num).length ≤300
 denL:(decDigits r.den).length ≤300
def rtV(r:Rt):Value:= .agg #[.bool r.neg,.string (dstr r.num),.string (dstr r.den)]
def rtNo:Value:= .agg #[.bool false,.string ⟨#[]⟩,.string ⟨#[]⟩]
def rtE:Rt × Int->Value
 |(r,e)=>if e=0 then rtV r else rtNo
def rt0:Rt:=⟨false,0,1⟩
def lowR(neg:Bool)(num den:Nat):Rt:=⟨neg&&decide (num / Nat.gcd num den≠0),num / Nat.gcd num den,den / Nat.gcd num den⟩
def longR(r:Rt):Bool:=decide (10^140≤r.num)||decide (10^140≤r.den)
def ofR(n d:Int):Rt:=lowR (decide (n<0)!=decide (d<0)) n.natAbs d.natAbs
def sumR(a b:Rt):Rt:=
 if a.neg=b.neg then lowR a.neg (a.num*b.den+b.num*a.den) (a.den*b.den)
 else if a.num*b.den<b.num*a.den then lowR b.neg (b.num*a.den-a.num*b.den) (a.den*b.den)
 else lowR a.neg (a.num*b.den-b.num*a.den) (a.den*b.den)
def prodQ(a b:Rt):Rt:=lowR (a.neg !=b.neg) (a.num*b.num) (a.den*b.den)
def oppR(r:Rt):Rt:=⟨!r.neg&&decide (r.num≠0),r.num,r.den⟩
def addR(a b:Rt):Rt × Int:=if longR a||longR b then(rt0,2)else(sumR a b,0)
def subR(a b:Rt):Rt × Int:=if longR a||longR b then(rt0,2)else(sumR a (oppR b),0)
def mulR(a b:Rt):Rt × Int:=if longR a||longR b then(rt0,2)else(prodQ a b,0)
def divR(a b:Rt):Rt × Int:=if b.num=0 then(rt0,15)else if longR a||longR b then(rt0,2)else(prodQ a ⟨b.neg,b.den,b.num⟩,0)
def cmpR(a b:Rt):Int × Int:=
 match subR a b with
 |(d,e)=>if e≠0 then(0,e)else if d.neg then(-1,0)else if d.num=0 then(0,0)else(1,0)
def floorR(r:Rt):Int × Int:=
 let q:Int:=if r.neg then(if r.num%r.den=0 then-((r.num / r.den:Nat):Int)else-((r.num / r.den+1:Nat):Int))else((r.num / r.den:Nat):Int)
 if-9223372036854775808≤q∧q≤9223372036854775807 then(q,0)else(0,10)
theorem dec_mono{a b:Nat}(h:a≤b):(decDigits a).length ≤(decDigits b).length :=
 dec_length_le (List.length_pos_iff.2 (dec_ne b)) (Nat.lt_of_le_of_lt h (dec_length_ge (Nat.le_refl _)))
theorem rt0_ok:RtOk rt0:=⟨by decide,by decide,λ_=>rfl,by show(decDigits 0).length ≤300;rw[dec_small (by decide)];simp,by show(decDigits 1).length ≤300;rw[dec_small (by decide)];simp⟩
theorem lowR_ok{neg:Bool}{num den:Nat}(hd:0<den)(hn:(decDigits num).length ≤300)(hdn:(decDigits den).length ≤300):RtOk (lowR neg num den):=by
 have hg:0<Nat.gcd num den:=Nat.gcd_pos_of_pos_right _ hd;refine⟨Nat.div_pos (Nat.le_of_dvd hd (Nat.gcd_dvd_right ..)) hg,?_,λh=> ?_,Nat.le_trans (dec_mono (Nat.div_le_self ..)) hn,Nat.le_trans (dec_mono (Nat.div_le_self ..)) hdn⟩
 ·exact Nat.coprime_div_gcd_div_gcd hg
 ·have h:num / Nat.gcd num den=0:=h;show(neg&&decide (num / Nat.gcd num den≠0))=false;rw[h];simp
theorem div_step{m V q r x:Nat}(hm:0<m)(hV:V=m*q+r)(hr:r<m)(hx:x<1000000000):
  x+1000000000*V=m*((x+1000000000*r) / m+1000000000*q)+(x+1000000000*r)%m∧(x+1000000000*r) / m<1000000000∧(x+1000000000*r)%m<m:=by
 have h1:=Nat.div_add_mod (x+1000000000*r) m;refine⟨?_,?_,Nat.mod_lt _ hm⟩
 ·have e1:m*((x+1000000000*r) / m+1000000000*q)=m*((x+1000000000*r) / m)+1000000000*(m*q):=by
   rw[Nat.mul_add,Nat.mul_left_comm]
  rw[e1,hV];omega
 ·rw[Nat.div_lt_iff_lt_mul hm];have:1000000000*(r+1)≤1000000000*m:=Nat.mul_le_mul_left _ hr;omega
theorem div_find{m R d:Nat}(hm:0<m)(h1:∀k,k<d->¬R<m*(k+1))(h2:d<999999999->R<m*(d+1))(h3:d≤999999999)(hR:R / m<1000000000):d=R / m:=by
 have hle:d≤R / m:=by
  rw[Nat.le_div_iff_mul_le hm];rcases Nat.eq_zero_or_pos d with rfl|hd
  ·simp
  ·have:=h1 (d-1) (by omega);rw[Nat.sub_add_cancel hd,Nat.mul_comm]at this;omega
 rcases Nat.lt_or_ge d 999999999 with h|h
 ·have h4:=h2 h;have:R / m<d+1:=by rw[Nat.div_lt_iff_lt_mul hm,Nat.mul_comm];exact h4
  omega
 ·omega
end
end Go.Proofs.YtimmfbnjndndlaaGreatDoor
