/- Texts PD RS C CV CM CA CT CH L2 RK MP KC DF N4 NJ OP. -/
import Derived.Test.YthpocbeoanipbaaGreatDoorM2
import Derived.OrdersHeld
import Derived.StillTail
import Derived.Deep.RegionHeld3
import Derived.Deep.RegionLaw
import Derived.Deep.RegionLawGrows
import Derived.ChangeKeysEq
import Derived.DeepKeys3
import Derived.Defers
import Derived.Recover
import Derived.Test.YthpocbeoanipbaaGreatDoorM1
import Derived.OwnWalkIn
import Derived.ChangeArms
import Derived.SizedLaws
import Derived.Deep.Slices
import Derived.OpenShut
set_option linter.all false
namespace Go.Proofs.YthpocbeoanipbaaGreatDoor
open Go.RowKit
variable{K:Act->World->Prop}{P:Program}{Q:Exit->Act->World->Prop}{R:Int->Int->Prop}{a:Act}{base d fuel j r:Nat}{c l m:List Int}{cs news xs:List Value}{ds:List zC}{e t:TypeId}{fs:Array Field}{g g':List zB}{hi i k lo op s x:Int}{listed:Array Bool}{n:zB}{o oi:Oper}{ops:Array Oper}{v:Value}{w:World}{α:Type}
section keep
variable {Z Z':zE} {w w':World} {v:Value}
end keep
section
variable {P:Program} {ops:Array Oper} {Q:Exit->Act->World->Prop} {md:Region.Mode} {S:World->Prop} {s:Nat}
def wpAnyS(P:Program)(md:Region.Mode)(ops:Array Oper)(Q:Exit->Act->World->Prop)(S:World->Prop)(s:Nat):Nat->Array Bool->Act->World->Prop
 |0,listed,a,w=>Region.ready md ops listed=[]/\Q .normal a w
 |fuel+1,listed,a,w=>
  (Region.ready md ops listed=[]->Q .normal a w)/\
  ∀i∈Region.ready md ops listed,wpOp P ops Q i (λa' w'=>((listed.setIfInBounds i true).getD s true=true\/S w')/\wpAnyS P md ops Q S s fuel (listed.setIfInBounds i true) a' w') a w
theorem zM5:∀(fuel:Nat)(listed:Array Bool)(a:Act)(w:World),wpAnyS P md ops Q S s fuel listed a w->wpAny P md ops Q fuel listed a w
 |0,_,_,_,h=>h
 |fuel+1,_,_,_,h=>⟨h.1,λi hi=>wpOp_mono (λb w' c=>zM5 fuel _ b w' c.2) (h.2 i hi)⟩
theorem wpAnyS_first{i:Nat}(hi:ops[i]? =some oi)(t:∀(j:Nat)(o:Oper) cs b,ops[j]? =some o->o.op≠ .select cs b)
  (hQ:∀c a w,Q (.panic c) (a.put oi.dst v) w->Q (.panic c) a w)(y:∃os,ops[s]? =some os/\∃e∈os.after,Region.binds md e=true/\e.on=i)(V:i≠s):
  ∀(fuel:Nat)(listed:Array Bool)(a:Act)(w:World),listed.getD s true=false->
   (∀j z,ops[j]? =some z->j≠i->listed.getD j true=false->(∀e∈z.after,Region.binds md e=true->e.on≠i)->oi.apart ops z=true)->
   i∈Region.ready md ops listed->YieldsIf P ops S oi v a->S w->
   wpAnyS P md ops Q S s fuel (listed.setIfInBounds i true) (a.put oi.dst v) w->wpAnyS P md ops Q S s (fuel+1) listed a w:=by
 intro fuel
 induction fuel with
 |zero=>
  intro listed a w _ _ x J A H;refine⟨λh=>(by rw[h]at x;cases x),λj I=> ?_⟩;by_cases d:j=i
  ·subst d;exact J.wpOp hi A ⟨Or.inr A,H⟩
  ·have:=ready_mono I d;rw[H.1]at this;cases this
 |succ fuel ih=>
  intro listed a w F g x J A H;refine⟨λh=>(by rw[h]at x;cases x),λj I=> ?_⟩;by_cases d:j=i
  ·subst d;exact J.wpOp hi A ⟨Or.inr A,H⟩
  ·have u:=H.2 j (ready_mono I d);obtain⟨n,z,f,C⟩:=mem_ready.1 I
   have q:∀e∈z.after,Region.binds md e=true->e.on≠i:=λe he M N=>by
    have u:=C e he M;have W:=(mem_ready.1 x).1;rw[N]at u;rcases Nat.lt_or_ge i listed.size with K|K
    ·simp[K]at W u;rw[W]at u;cases u
    ·simp[Array.getElem?_eq_none K]at u
   have E:j≠s:=λe=>by
    subst e;obtain⟨os,U,e,he,M,T⟩:=y;rw[U]at f;injection f with f;subst f;exact q e he M T
   have Y:=wpOp_putIf f (g j z f d n q) (λcs b=>t i oi cs b hi) (λcs b=>t j z cs b f) hQ J u
   have m:∀k ok,ops[k]? =some ok->k≠i->(listed.setIfInBounds j true).getD k true=false->
     (∀e∈ok.after,Region.binds md e=true->e.on≠i)->oi.apart ops ok=true:=λk ok Z O G R=>by
    refine g k ok Z O ?_ R;by_cases D:j=k
    ·subst D;exact n
    ·rw[getD_set_ne true D]at G;exact G
   refine wpOp_mono (λX w' L=> ?_) Y
   have B:S w':=by
    rcases L.2.1 with h|h
    ·rw[getD_set_ne true E,getD_set_ne true V,F]at h;cases h
    ·exact h
   refine⟨Or.inr B,ih (listed.setIfInBounds j true) X w' (by rw[getD_set_ne true E];exact F) m (ready_mono x (Ne.symm d)) L.1 B ?_⟩;rw[Array.setIfInBounds_comm _ _ d];exact L.2.2
theorem zQQ{i:Nat}(hi:ops[i]? =some oi)
  (m:Region.noSelect ops=true)(b:(Region.free md ops listed i&&(Region.ready md ops listed).contains i&&Region.waitsFor md ops s i&& !(listed.getD s true)&&(i !=s))=true)
  (hQ:∀c a w,Q (.panic c) (a.put oi.dst v) w->Q (.panic c) a w)(n:YieldsIf P ops S oi v a)(k:S w)
  (h:wpAnyS P md ops Q S s fuel (listed.setIfInBounds i true) (a.put oi.dst v) w):wpAnyS P md ops Q S s (fuel+1) listed a w:=by
 simp only[Bool.and_eq_true,Bool.not_eq_true',bne_iff_ne]at b;obtain⟨⟨⟨⟨d,e⟩,f⟩,g⟩,j⟩:=b;exact wpAnyS_first hi (Region.noSelect_spec m) hQ (Region.waitsFor_spec f) j fuel listed a w g (Region.free_spec hi d) (by simpa using e) n k h
theorem zOP{i:Nat}(hi:ops[i]? =some oi)(n:∀(j:Nat)(o:Oper) cs b,ops[j]? =some o->o.op≠ .select cs b)
  (hQ:∀c a w,Q (.panic c) (a.put oi.dst v) w->Q (.panic c) a w)(x:i≠s):
  ∀(fuel:Nat)(listed:Array Bool)(a:Act)(w:World),
   (∀j y,ops[j]? =some y->j≠i->listed.getD j true=false->(∀e∈y.after,Region.binds md e=true->e.on≠i)->oi.apart ops y=true)->
   i∈Region.ready md ops listed->YieldsIf P ops (λ_=>True) oi v a->(listed.getD s true=true\/S w)->
   wpAnyS P md ops Q S s fuel (listed.setIfInBounds i true) (a.put oi.dst v) w->wpAnyS P md ops Q S s (fuel+1) listed a w:=by
 intro fuel
 induction fuel with
 |zero=>
  intro listed a w _ u F J H;refine⟨λh=>(by rw[h]at u;cases u),λj E=> ?_⟩;by_cases d:j=i
  ·subst d;exact F.wpOp hi trivial ⟨by rw[getD_set_ne true x];exact J,H⟩
  ·have:=ready_mono E d;rw[H.1]at this;cases this
 |succ fuel ih=>
  intro listed a w f u F J H;refine⟨λh=>(by rw[h]at u;cases u),λj E=> ?_⟩;by_cases d:j=i
  ·subst d;exact F.wpOp hi trivial ⟨by rw[getD_set_ne true x];exact J,H⟩
  ·have q:=H.2 j (ready_mono E d);obtain⟨m,y,t,A⟩:=mem_ready.1 E
   have C:∀e∈y.after,Region.binds md e=true->e.on≠i:=λe he T K=>by
    have q:=A e he T;have N:=(mem_ready.1 u).1;rw[K]at q;rcases Nat.lt_or_ge i listed.size with G|G
    ·simp[G]at N q;rw[N]at q;cases q
    ·simp[Array.getElem?_eq_none G]at q
   have R:=wpOp_putIf t (f j y t d m C) (λcs b=>n i oi cs b hi) (λcs b=>n j y cs b t) hQ F q
   have g:∀k ok,ops[k]? =some ok->k≠i->(listed.setIfInBounds j true).getD k true=false->
     (∀e∈ok.after,Region.binds md e=true->e.on≠i)->oi.apart ops ok=true:=λk ok U L D M=>by
    refine f k ok U L ?_ M;by_cases B:j=k
    ·subst B;exact m
    ·rw[getD_set_ne true B]at D;exact D
   refine wpOp_mono (λO w' I=> ?_) R
   have z:(listed.setIfInBounds j true).getD s true=true\/S w':=by
    have:=I.2.1;rw[Array.setIfInBounds_comm _ _ (Ne.symm d),getD_set_ne true x]at this;exact this
   refine⟨z,ih (listed.setIfInBounds j true) O w' g (ready_mono u (Ne.symm d)) I.1 z ?_⟩;rw[Array.setIfInBounds_comm _ _ d];exact I.2.2
theorem zKH{i:Nat}(hi:ops[i]? =some oi)
  (j:Region.noSelect ops=true)(b:(Region.free md ops listed i&&(Region.ready md ops listed).contains i&&(i !=s))=true)
  (hQ:∀c a w,Q (.panic c) (a.put oi.dst v) w->Q (.panic c) a w)(k:YieldsIf P ops (λ_=>True) oi v a)(g:listed.getD s true=true\/S w)
  (h:wpAnyS P md ops Q S s fuel (listed.setIfInBounds i true) (a.put oi.dst v) w):wpAnyS P md ops Q S s (fuel+1) listed a w:=by
 simp only[Bool.and_eq_true,bne_iff_ne]at b;obtain⟨⟨d,e⟩,f⟩:=b;exact zOP hi (Region.noSelect_spec j) hQ f fuel listed a w (Region.free_spec hi d) (by simpa using e) k g h
theorem zQR(b:Region.ready md ops listed=[])(h:Q .normal a w):∀fuel,wpAnyS P md ops Q S s fuel listed a w
 |0=>⟨b,h⟩
 | _+1=>⟨λ_=>h,by rw[b];simp⟩
theorem zSP{i:Nat}(e:Region.ready md ops listed=[i])(m:ops[i]? =some o)(k:o.guard=none)
  (h:∀K:Act->World->Prop,(∀b w',((listed.setIfInBounds i true).getD s true=true\/S w')->wpAnyS P md ops Q S s fuel (listed.setIfInBounds i true) b w'->K b w')->Oper.wp P o a w K Q):wpAnyS P md ops Q S s (fuel+1) listed a w:=by
 refine⟨λd=>(by rw[e]at d;cases d),λj c=> ?_⟩;rw[e]at c;simp at c;subst c;unfold wpOp;rw[m];simp only;rw[if_pos (by simp[Region.wanted,k])];exact Or.inl (h _ λb w' f g=>⟨f,g⟩)
theorem zSQ{i j:Nat}{o o':Oper}(m:Region.ready md ops listed=[i,j])(u:ops[i]? =some o)(t:o.guard=none)(f:ops[j]? =some o')(e:o'.guard=none)
  (h:∀K:Act->World->Prop,(∀b w',((listed.setIfInBounds i true).getD s true=true\/S w')->wpAnyS P md ops Q S s fuel (listed.setIfInBounds i true) b w'->K b w')->Oper.wp P o a w K Q)
  (n:∀K:Act->World->Prop,(∀b w',((listed.setIfInBounds j true).getD s true=true\/S w')->wpAnyS P md ops Q S s fuel (listed.setIfInBounds j true) b w'->K b w')->Oper.wp P o' a w K Q):wpAnyS P md ops Q S s (fuel+1) listed a w:=by
 refine⟨λk=>(by rw[m]at k;cases k),λq g=> ?_⟩;rw[m]at g;simp at g;rcases g with rfl|rfl
 ·unfold wpOp;rw[u];simp only;rw[if_pos (by simp[Region.wanted,t])];exact Or.inl (h _ λb w' c d=>⟨c,d⟩)
 ·unfold wpOp;rw[f];simp only;rw[if_pos (by simp[Region.wanted,e])];exact Or.inl (n _ λb w' c d=>⟨c,d⟩)
theorem zL{id:Nat}(s:Nat)(S:World->Prop)(b:P.follows .mixedOrders =true)(h:wpAnyS P .any ops Q S s ops.size (Array.replicate ops.size false) a w.drew):(Code.region id ops true).wp P Q a w:=
 wp_region_any b (zM5 _ _ _ _ h)
theorem tkS(i:Nat)(v:Value)(b:S w)(g:∀w,S w->(execOp a.eval oi).run P w= .ok (.value v) w)
  (h:wpAnyS P md ops Q S s fuel (listed.setIfInBounds i true) (a.put oi.dst v) w)(hi:ops[i]? =some oi:=by exact rfl)(f:Region.noSelect ops=true:=by kernel_rfl)
  (d:(Region.free md ops listed i&&(Region.ready md ops listed).contains i&&Region.waitsFor md ops s i&& !(listed.getD s true)&&(i !=s))=true:=by kernel_rfl)
  (e:Region.wanted oi (yielded ops a.tmps)=true:=by kernel_rfl)(hQ:∀c a w,Q (.panic c) (a.put oi.dst v) w->Q (.panic c) a w:=by exact λ_ _ _ h=>h):wpAnyS P md ops Q S s (fuel+1) listed a w:=
 zQQ hi f d hQ (Or.inl ⟨e,g⟩) b h
theorem tkZ(i:Nat)(v:Value)(b:S w)(g:∀w,(execOp a.eval oi).run P w= .ok (.value v) w)
  (h:wpAnyS P md ops Q S s fuel (listed.setIfInBounds i true) (a.put oi.dst v) w)(hi:ops[i]? =some oi:=by exact rfl)(f:Region.noSelect ops=true:=by kernel_rfl)
  (d:(Region.free md ops listed i&&(Region.ready md ops listed).contains i&&(i !=s))=true:=by kernel_rfl)
  (e:Region.wanted oi (yielded ops a.tmps)=true:=by kernel_rfl)(hQ:∀c a w,Q (.panic c) (a.put oi.dst v) w->Q (.panic c) a w:=by exact λ_ _ _ h=>h):wpAnyS P md ops Q S s (fuel+1) listed a w:=
 zKH hi f d hQ (Or.inl ⟨e,λw _=>g w⟩) (Or.inr b) h
theorem tkQ(i:Nat)(b:S w)
  (h:wpAnyS P md ops Q S s fuel (listed.setIfInBounds i true) (a.put oi.dst v) w)(hi:ops[i]? =some oi:=by exact rfl)(f:Region.noSelect ops=true:=by kernel_rfl)
  (d:(Region.free md ops listed i&&(Region.ready md ops listed).contains i&&(i !=s))=true:=by kernel_rfl)
  (e:Region.wanted oi (yielded ops a.tmps)=true:=by kernel_rfl)(hQ:∀c a w,Q (.panic c) (a.put oi.dst v) w->Q (.panic c) a w:=by exact λ_ _ _ h=>h)
  (g:∀w,(execOp a.eval oi).run P w= .ok (.value v) w:=by intro w;go_simp;try with_reducible rfl):wpAnyS P md ops Q S s (fuel+1) listed a w:=
 zKH hi f d hQ (Or.inl ⟨e,λw _=>g w⟩) (Or.inr b) h
theorem wSd(h:Q .normal a w)(fuel:Nat)(b:Region.ready md ops listed=[]:=by kernel_rfl):wpAnyS P md ops Q S s fuel listed a w:=zQR b h fuel
theorem wS1(i:Nat)
  (h:∀K:Act->World->Prop,(∀b w',((listed.setIfInBounds i true).getD s true=true\/S w')->wpAnyS P md ops Q S s fuel (listed.setIfInBounds i true) b w'->K b w')->Oper.wp P o a w K Q)
  (e:Region.ready md ops listed=[i]:=by kernel_rfl)(d:ops[i]? =some o:=by exact rfl)(c:o.guard=none:=by exact rfl):wpAnyS P md ops Q S s (fuel+1) listed a w:=zSP e d c h
theorem wS2(i j:Nat){o o':Oper}
  (h:∀K:Act->World->Prop,(∀b w',((listed.setIfInBounds i true).getD s true=true\/S w')->wpAnyS P md ops Q S s fuel (listed.setIfInBounds i true) b w'->K b w')->Oper.wp P o a w K Q)
  (e:∀K:Act->World->Prop,(∀b w',((listed.setIfInBounds j true).getD s true=true\/S w')->wpAnyS P md ops Q S s fuel (listed.setIfInBounds j true) b w'->K b w')->Oper.wp P o' a w K Q)
  (k:Region.ready md ops listed=[i,j]:=by kernel_rfl)(g:ops[i]? =some o:=by exact rfl)(f:o.guard=none:=by exact rfl)(d:ops[j]? =some o':=by exact rfl)(c:o'.guard=none:=by exact rfl):
  wpAnyS P md ops Q S s (fuel+1) listed a w:=zSQ k g f d c h e
end
def zBN:zB:=⟨false,0,[],[]⟩
def nAt(g:List zB)(i:Int):zB:=g.getD i.toNat zBN
def Rng(g:List zB)(i:Int):Prop:=0<=i/\i<g.length
def zAY:zC:=⟨⟨#[]⟩,0,0,0⟩
def fAt(ds:List zC)(i:Int):zC:=ds.getD i.toNat zAY
def zy(lo hi:Int):List Int->Prop
 |[]=>True
 |c::r=>lo<c/\c<=hi/\zy c hi r
structure zDu (ds:List zC) (g:List zB) (n:zB):Prop where
 ne:n.kids≠[]
 leaf:n.leaf=false
 f0:0<=n.fact
 f1:n.fact<ds.length
 cuts:n.cuts≠[]
 len:n.kids.length=n.cuts.length+1
 asc:zy (fAt ds n.fact).lo (fAt ds n.fact).hi n.cuts
 rng:∀k∈n.kids,Rng g k
 up:∀k∈n.kids,(nAt g k).kids ≠[]->n.fact<(nAt g k).fact
 diff:∀j,j+1<n.kids.length->n.kids.getD j 0≠n.kids.getD (j+1) 0
def zVw(n:zB):Prop:=n.kids=[]/\n.fact=0/\n.cuts=[]
def zGO(ds:List zC)(g:List zB)(n:zB):Prop:=zVw n\/zDu ds g n
structure Good (ds:List zC) (g:List zB):Prop where
 proper:∀n∈g,zGO ds g n
 nodup:g.Nodup
theorem zFC(h:Rng g i):nAt g i∈g:=by
 obtain⟨a,b⟩:=h;have:i.toNat<g.length:=by omega
 unfold nAt;rw[List.getD_eq_getElem?_getD,List.getElem?_eq_getElem this];exact List.getElem_mem this
theorem zBs{i:Nat}(h:i<g.length):nAt g i=g[i]:=by
 unfold nAt;rw[List.getD_eq_getElem?_getD,Int.toNat_natCast,List.getElem?_eq_getElem h];rfl
theorem zL4(h:g.Nodup){i j:Int}(hi:Rng g i)(c:Rng g j)(e:nAt g i=nAt g j):i=j:=by
 obtain⟨a,rfl⟩:=Int.eq_ofNat_of_zero_le hi.1;obtain⟨b,rfl⟩:=Int.eq_ofNat_of_zero_le c.1;have d:a<g.length:=by have:=hi.2;omega
 have f:b<g.length:=by have:=c.2;omega
 rw[zBs d,zBs f]at e;have:=(List.getElem_inj h).1 e;rw[this]
def nx:List Int->Int->Nat
 |[],_=>0
 |c::r,v=>if v<c then 0 else nx r v+1
theorem zF8(l:List Int)(v:Int):nx l v<=l.length:=by
 induction l with
 |nil=>exact Nat.le_refl _
 |cons c r ih=>unfold nx;split<;>simp<;>omega
theorem zPX(h:zy lo hi l){v:Int}(a:v<=lo):nx l v=0:=by
 cases l with
 |nil=>rfl
 |cons c r=>unfold nx;rw[if_pos (by have:=h.1;omega)]
theorem zPY{lo a hi:Int}(h:zy lo hi l)(b:a<=lo):zy a hi l:=by
 cases l with
 |nil=>trivial
 |cons c r=>exact⟨by have:=h.1;omega,h.2.1,h.2.2⟩
theorem zBJ{lo hi:Int}:∀{l:List Int},zy lo hi l->∀c∈l,lo<c/\c<=hi
 |[],_,_,h=>absurd h (by simp)
 |c::r,h,x,a=>by
  rcases List.mem_cons.1 a with rfl|a
  ·exact⟨h.1,h.2.1⟩
  ·have:=zBJ (zPY h.2.2 (Int.le_of_lt h.1)) x a;exact this
theorem zTd:∀{lo hi:Int}{l:List Int}{v:Int},zy lo hi l->v∈l->nx l v=nx l (v-1)+1
 | _,_,[],_,_,h=>absurd h (by simp)
 |lo,hi,c::r,v,ha,h=>by
  unfold nx;rcases List.mem_cons.1 h with rfl|h
  ·rw[if_neg (by omega),if_pos (by omega),zPX ha.2.2 (Int.le_refl _)]
  ·have a:=(zBJ ha.2.2 v h).1;rw[if_neg (by omega),if_neg (by omega),zTd ha.2.2 h]
theorem zVh{v:Int}(h:v∉l):nx l v=nx l (v-1):=by
 induction l with
 |nil=>rfl
 |cons c r ih=>
  simp only[List.mem_cons,not_or]at h;unfold nx;by_cases a:v<c
  ·rw[if_pos a,if_pos (by omega)]
  ·rw[if_neg a,if_neg (by omega),ih h.2]
theorem zK0:∀{lo hi:Int}{l m:List Int},zy lo hi l->zy lo hi m->(∀v,v∈l↔v∈m)->l=m
 | _,_,[],[],_,_,_=>rfl
 | _,_,[],c::r,_,_,h=>absurd ((h c).2 (by simp)) (by simp)
 | _,_,c::r,[],_,_,h=>absurd ((h c).1 (by simp)) (by simp)
 |lo,hi,c::r,d::s,h1,h2,h=>by
  have e:c=d:=by
   rcases List.mem_cons.1 ((h c).1 (by simp))with e|e
   ·exact e
   ·rcases List.mem_cons.1 ((h d).2 (by simp))with e'|e'
    ·exact e'.symm
    ·have a:=(zBJ h1.2.2 d e').1;have b:=(zBJ h2.2.2 c e).1;omega
  subst e;rw[zK0 h1.2.2 h2.2.2 (λv=> ?_)];constructor
  ·intro f;have:=(zBJ h1.2.2 v f).1;rcases List.mem_cons.1 ((h v).1 (List.mem_cons_of_mem _ f))with e|e
   ·omega
   ·exact e
  ·intro f;have:=(zBJ h2.2.2 v f).1;rcases List.mem_cons.1 ((h v).2 (List.mem_cons_of_mem _ f))with e|e
   ·omega
   ·exact e
def zh(lo:Int)(l:List Int)(j:Nat):Int:=if j=0 then lo else l.getD (j-1) 0
theorem zFr{hi:Int}:∀{lo:Int}{l:List Int}{j:Nat},zy lo hi l->j<=l.length->nx l (zh lo l j)=j
 |lo,l,0,h,_=>by simp[zh,zPX h (Int.le_refl _)]
 |lo,[],j+1,h,hj=>by simp at hj
 |lo,c::r,j+1,h,hj=>by
  have b:j<=r.length:=by simpa using hj
  have:=zFr h.2.2 b
  have d:c<=zh c r j:=by
   unfold zh;split
   ·exact Int.le_refl _
   ·(have a:j-1<r.length:=by omega);rw[List.getD_eq_getElem?_getD,List.getElem?_eq_getElem a];have:=(zBJ h.2.2 _ (List.getElem_mem a)).1;exact Int.le_of_lt this
  have e:zh lo (c::r) (j+1)=zh c r j:=by
   unfold zh
   cases j with
   |zero=>simp
   |succ j=>simp
  rw[e];unfold nx;rw[if_neg (by omega),this]
theorem zNt(h:zy lo hi l)(b:lo<=hi)(c:j<=l.length):lo<=zh lo l j/\zh lo l j<=hi:=by
 unfold zh;split
 ·exact⟨Int.le_refl _,b⟩
 ·have a:j-1<l.length:=by omega
  rw[List.getD_eq_getElem?_getD,List.getElem?_eq_getElem a];have:=zBJ h _ (List.getElem_mem a);exact⟨Int.le_of_lt this.1,this.2⟩
def sem(g:List zB):Nat->Int->List Int->Bool
 |0,_,_=>false
 |k+1,i,c=>if(nAt g i).kids =[]then(nAt g i).leaf else sem g k ((nAt g i).kids.getD (nx (nAt g i).cuts (c.getD (nAt g i).fact.toNat 0)) 0) c
def zCP(ds:List zC)(g:List zB)(i:Int):Nat:=if(nAt g i).kids =[]then 0 else ds.length-(nAt g i).fact.toNat
def S(ds:List zC)(g:List zB)(i:Int)(c:List Int):Bool:=sem g (ds.length+1) i c
section good
variable {ds:List zC} {g:List zB}
theorem Good.inner(h:Good ds g)(hi:Rng g i)(a:(nAt g i).kids ≠[]):zDu ds g (nAt g i):=by
 rcases h.proper _ (zFC hi)with h|h
 ·exact absurd h.1 a
 ·exact h
theorem zDu.kid_rng(h:zDu ds g n)(v:Int):n.kids.getD (nx n.cuts v) 0∈n.kids:=by
 have b:=zF8 n.cuts v;have c:=h.len;have a:nx n.cuts v<n.kids.length:=by omega
 rw[List.getD_eq_getElem?_getD,List.getElem?_eq_getElem a];exact List.getElem_mem a
theorem zDo(i:Int):zCP ds g i<=ds.length:=by unfold zCP;split<;>omega
theorem Good.rank_kid(h:Good ds g)(hi:Rng g i)(a:k∈(nAt g i).kids):Rng g k/\zCP ds g k<zCP ds g i:=by
 have b:(nAt g i).kids ≠[]:=by intro e;rw[e]at a;simp at a
 have I:=h.inner hi b;refine⟨I.rng k a,?_⟩;have u:=I.up k a;have d:=I.f0;have f:=I.f1;unfold zCP;rw[if_neg b];split
 ·omega
 ·rename_i hkk;have:=u hkk;have c:=h.inner (I.rng k a) hkk;have:=c.f1;omega
theorem Good.sem_fuel(h:Good ds g):∀(k k':Nat)(i:Int)(c:List Int),Rng g i->zCP ds g i<k->zCP ds g i<k'->sem g k i c=sem g k' i c
 |0,_,_,_,_,h1,_=>by omega
 | _+1,0,_,_,_,_,h2=>by omega
 |k+1,k'+1,i,c,hi,h1,h2=>by
  unfold sem;split
  ·rfl
  ·rename_i hne;have a:=(h.inner hi hne).kid_rng (c.getD (nAt g i).fact.toNat 0);have:=h.rank_kid hi a;exact h.sem_fuel k k' _ c this.1 (by omega) (by omega)
theorem Good.S_leaf(b:Good ds g)(a:(nAt g i).kids =[])(c:List Int):S ds g i c=(nAt g i).leaf :=by
 unfold S sem;rw[if_pos a]
theorem Good.S_inner(h:Good ds g)(hi:Rng g i)(a:(nAt g i).kids ≠[])(c:List Int):
  S ds g i c=S ds g ((nAt g i).kids.getD (nx (nAt g i).cuts (c.getD (nAt g i).fact.toNat 0)) 0) c:=by
 have b:=(h.inner hi a).kid_rng (c.getD (nAt g i).fact.toNat 0);have:=h.rank_kid hi b;have d:=zDo (ds:=ds) (g:=g) i
 conv=>lhs;unfold S sem
 rw[if_neg a];exact h.sem_fuel _ _ _ c this.1 (by omega) (by omega)
theorem Good.S_indep(h:Good ds g):∀(r:Nat)(i:Int),zCP ds g i<=r->Rng g i->∀(lo:Nat)(c a:List Int),((nAt g i).kids ≠[]->(lo:Int)<=(nAt g i).fact)->(∀j,lo<=j->c.getD j 0=a.getD j 0)->S ds g i c=S ds g i a
 |r,i,hr,hi,lo,c,a,hl,hc=>by
  by_cases b:(nAt g i).kids =[]
  ·rw[h.S_leaf b,h.S_leaf b]
  ·have I:=h.inner hi b;have k:=hl b;rw[h.S_inner hi b,h.S_inner hi b a,hc (nAt g i).fact.toNat (by omega)];have f:=I.kid_rng (a.getD (nAt g i).fact.toNat 0);have e:=h.rank_kid hi f
   cases r with
   |zero=>omega
   |succ r=>
    refine h.S_indep r _ (by omega) e.1 lo c a (λd=> ?_) hc;have:=I.up _ f d;omega
end good
def Fit(ds:List zC)(c:List Int):Prop:=c.length=ds.length/\∀j,j<ds.length->(ds.getD j zAY).lo <=c.getD j 0/\c.getD j 0<=(ds.getD j zAY).hi
def zE3(ds:List zC):Prop:=∀j,j<ds.length->(ds.getD j zAY).lo <=(ds.getD j zAY).hi
theorem zED(l:List Int)(i j:Nat)(v:Int):(l.set i v).getD j 0=if i=j/\j<l.length then v else l.getD j 0:=by
 rw[List.getD_eq_getElem?_getD,List.getElem?_set,List.getD_eq_getElem?_getD];by_cases h:i=j
 ·subst h;by_cases a:i<l.length
  ·rw[if_pos rfl,if_pos a,if_pos ⟨rfl,a⟩];rfl
  ·rw[if_pos rfl,if_neg a,if_neg (λe=>a e.2),List.getElem?_eq_none (by omega)]
 ·rw[if_neg h,if_neg (λe=>h e.1)]
theorem Fit.set_(h:Fit ds c){v:Int}(a:(ds.getD j zAY).lo <=v)(b:v<=(ds.getD j zAY).hi):Fit ds (c.set j v):=by
 refine⟨by simp[h.1],λi hi=> ?_⟩;rw[zED];split
 ·rename_i e;rw[<-e.1];exact⟨a,b⟩
 ·exact h.2 i hi
theorem zE3.least(h:zE3 ds):Fit ds (ds.map zC.lo):=by
 refine⟨by simp,λj a=> ?_⟩
 have e:(ds.map zC.lo).getD j 0=(ds.getD j zAY).lo :=by
  simp[List.getD_eq_getElem?_getD,List.getElem?_eq_getElem a]
 rw[e];exact⟨Int.le_refl _,h j a⟩
def EqS(ds:List zC)(g1 g2:List zB)(i1 i2:Int):Prop:=∀c,Fit ds c->S ds g1 i1 c=S ds g2 i2 c
def zPZ(ds:List zC)(g:List zB)(r:Nat):Prop:=∀a b,Rng g a->Rng g b->zCP ds g a<r->zCP ds g b<r->EqS ds g g a b->a=b
section canon
variable {ds:List zC} {g g1 g2:List zB}
theorem Good.S_kid(h:Good ds g)(hi:Rng g i)(e:(nAt g i).kids ≠[])(k:Fit ds c){v:Int}:
  S ds g i (c.set (nAt g i).fact.toNat v)=S ds g ((nAt g i).kids.getD (nx (nAt g i).cuts v) 0) c:=by
 have I:=h.inner hi e;have m:=I.f0;have n:=I.f1;have b:(nAt g i).fact.toNat <c.length:=by rw[k.1];omega
 rw[h.S_inner hi e,zED,if_pos ⟨rfl,b⟩];have f:=I.kid_rng v;have d:=h.rank_kid hi f;refine h.S_indep _ _ (Nat.le_refl _) d.1 ((nAt g i).fact.toNat +1) _ _ (λa=> ?_) (λj o=> ?_)
 ·have:=I.up _ f a;omega
 ·rw[zED,if_neg (by omega)]
theorem zDu.kid_mem(h:zDu ds g n)(c:j<=n.cuts.length):n.kids.getD j 0∈n.kids:=by
 have b:=h.len;have a:j<n.kids.length:=by omega
 rw[List.getD_eq_getElem?_getD,List.getElem?_eq_getElem a];exact List.getElem_mem a
theorem zDu.fact_rng(h:zDu ds g n):n.fact.toNat<ds.length:=by have:=h.f0;have:=h.f1;omega
theorem Good.start_fit(h:Good ds g)(c:zE3 ds)(hi:Rng g i)(b:(nAt g i).kids ≠[])(a:j<=(nAt g i).cuts.length):
  (ds.getD (nAt g i).fact.toNat zAY).lo <=zh (fAt ds (nAt g i).fact).lo (nAt g i).cuts j/\zh (fAt ds (nAt g i).fact).lo (nAt g i).cuts j<=(ds.getD (nAt g i).fact.toNat zAY).hi :=by
 have I:=h.inner hi b;exact zNt I.asc (c _ I.fact_rng) a
theorem Good.depends(h:Good ds g)(n:zE3 ds)(A:zPZ ds g r)(hi:Rng g i)(e:(nAt g i).kids ≠[])(x:zCP ds g i<=r)
  (d:∀c v,Fit ds c->Fit ds (c.set (nAt g i).fact.toNat v)->S ds g i (c.set (nAt g i).fact.toNat v)=S ds g i c):False:=by
 have I:=h.inner hi e;have b:1<=(nAt g i).cuts.length :=by have:=I.cuts;cases a:(nAt g i).cuts with|nil=>exact absurd a this|cons=>simp
 have m:=I.diff 0 (by have:=I.len;omega);have s:=I.kid_mem (j:=0) (by omega);have t:=I.kid_mem (j:=1) b;have u:=h.rank_kid hi s;have w:=h.rank_kid hi t;simp only[Nat.zero_add]at m;refine m (A _ _ u.1 w.1 (by omega) (by omega) λc a=> ?_);have o:=h.start_fit n hi e (j:=0) (by omega);have q:=h.start_fit n hi e (j:=1) b;have f:=h.S_kid hi e a (v:=zh (fAt ds (nAt g i).fact).lo (nAt g i).cuts 0);have k:=h.S_kid hi e a (v:=zh (fAt ds (nAt g i).fact).lo (nAt g i).cuts 1);rw[zFr I.asc (by omega)]at f;rw[zFr I.asc b]at k;rw[<-f,<-k,d c _ a (a.set_ o.1 o.2),d c _ a (a.set_ q.1 q.2)]
theorem Good.indep_set(h:Good ds g)(hi:Rng g i){f:Int}(d:0<=f)(b:(nAt g i).kids ≠[]->f<(nAt g i).fact)(c:List Int)(v:Int):S ds g i (c.set f.toNat v)=S ds g i c:=by
 refine h.S_indep _ _ (Nat.le_refl _) hi (f.toNat+1) _ _ (λa=> ?_) (λj e=> ?_)
 ·have:=b a;omega
 ·rw[zED,if_neg (by omega)]
structure Alike (ds:List zC) (g1 g2:List zB) (i1 i2:Int):Prop where
 leaf:(nAt g1 i1).leaf =(nAt g2 i2).leaf
 fact:(nAt g1 i1).fact =(nAt g2 i2).fact
 cuts:(nAt g1 i1).cuts =(nAt g2 i2).cuts
 len:(nAt g1 i1).kids.length =(nAt g2 i2).kids.length
 kids:∀j,j<(nAt g1 i1).kids.length ->EqS ds g1 g2 ((nAt g1 i1).kids.getD j 0) ((nAt g2 i2).kids.getD j 0)
theorem Good.cut_iff(h:Good ds g)(o:zE3 ds)(A:zPZ ds g r)(hi:Rng g i)(d:(nAt g i).kids ≠[])(y:zCP ds g i<=r){v:Int}
  (j:(fAt ds (nAt g i).fact).lo <v)(k:v<=(fAt ds (nAt g i).fact).hi):
  v∈(nAt g i).cuts ↔¬∀c,Fit ds c->S ds g i (c.set (nAt g i).fact.toNat (v-1))=S ds g i (c.set (nAt g i).fact.toNat v):=by
 have I:=h.inner hi d;constructor
 ·intro f b;have e:=zTd I.asc f;have q:=zF8 (nAt g i).cuts v;have n:=I.len;have m:=I.diff (nx (nAt g i).cuts (v-1)) (by omega);have t:=I.kid_rng (v-1);have u:=I.kid_rng v;have w:=h.rank_kid hi t;have x:=h.rank_kid hi u;rw[<-e]at m;refine m (A _ _ w.1 x.1 (by omega) (by omega) λc a=> ?_);rw[<-h.S_kid hi d a,<-h.S_kid hi d a];exact b c a
 ·intro s;by_cases f:v∈(nAt g i).cuts
  ·exact f
  ·exact absurd (λc a=>by rw[h.S_kid hi d a,h.S_kid hi d a,zVh f]) s
theorem zKy(y:zE3 ds)(u:Good ds g1)(w:Good ds g2)(H:zPZ ds g1 r)(J:zPZ ds g2 r){i t:Int}(m:Rng g1 i)(n:Rng g2 t)
  (B:zCP ds g1 i<=r)(C:zCP ds g2 t<=r)(he:EqS ds g1 g2 i t):Alike ds g1 g2 i t:=by
 by_cases d:(nAt g1 i).kids =[]
 ·by_cases f:(nAt g2 t).kids =[]
  ·rcases u.proper _ (zFC m)with⟨_,G,b1⟩|h
   ·rcases w.proper _ (zFC n)with⟨_,x,b2⟩|h
    ·have:=he _ y.least;rw[u.S_leaf d,w.S_leaf f]at this;exact⟨this,by rw[G,x],by rw[b1,b2],by rw[d,f],λj L=>by rw[d]at L;simp at L⟩
    ·exact absurd f h.ne
   ·exact absurd d h.ne
  ·exfalso;have I:=w.inner n f;(refine w.depends y J n f C λc v g q=> ?_);rw[<-he _ g,<-he _ q];exact u.indep_set m I.f0 (λh=>absurd d h) c v
 ·have z:=u.inner m d;by_cases f:(nAt g2 t).kids =[]
  ·exfalso;(refine u.depends y H m d B λc v g q=> ?_);rw[he _ g,he _ q];exact w.indep_set n z.f0 (λh=>absurd f h) c v
  ·have F:=w.inner n f
   have D:(nAt g1 i).fact =(nAt g2 t).fact :=by
    rcases Int.lt_trichotomy (nAt g1 i).fact (nAt g2 t).fact with N|e|K
    ·exfalso;(refine u.depends y H m d B λc v g q=> ?_);rw[he _ g,he _ q];exact w.indep_set n z.f0 (λ_=>N) c v
    ·exact e
    ·exfalso;(refine w.depends y J n f C λc v g q=> ?_);rw[<-he _ g,<-he _ q];exact u.indep_set m F.f0 (λ_=>K) c v
   have o:∀c v,Fit ds c->(fAt ds (nAt g1 i).fact).lo <=v->v<=(fAt ds (nAt g1 i).fact).hi ->S ds g1 i (c.set (nAt g1 i).fact.toNat v)=S ds g2 t (c.set (nAt g2 t).fact.toNat v):=by
    intro c v g a b;rw[<-D];exact he _ (g.set_ a b)
   have k:(nAt g1 i).cuts =(nAt g2 t).cuts :=by
    have G:=z.asc;have x:=F.asc;rw[<-D]at x;(refine zK0 G x λv=> ?_);by_cases E:(fAt ds (nAt g1 i).fact).lo <v/\v<=(fAt ds (nAt g1 i).fact).hi
    ·rw[u.cut_iff y H m d B E.1 E.2,w.cut_iff y J n f C (by rw[<-D];exact E.1) (by rw[<-D];exact E.2)];refine not_congr ⟨λh c g=> ?_,λh c g=> ?_⟩
     ·rw[<-o c _ g (by omega) (by omega),<-o c _ g (by omega) (by omega)];exact h c g
     ·rw[o c _ g (by omega) (by omega),o c _ g (by omega) (by omega)];exact h c g
    ·exact⟨λh=>absurd (zBJ G v h) E,λh=>absurd (zBJ x v h) E⟩
   refine⟨by rw[z.leaf,F.leaf],D,k,by rw[z.len,F.len,k],λj L c g=> ?_⟩;(have A:j<=(nAt g1 i).cuts.length :=by have:=z.len;omega);(have M:j<=(nAt g2 t).cuts.length :=by rw[<-k];exact A);have s:=u.start_fit y m d A;have O:=u.S_kid m d g (v:=zh (fAt ds (nAt g1 i).fact).lo (nAt g1 i).cuts j);have P:=w.S_kid n f g (v:=zh (fAt ds (nAt g1 i).fact).lo (nAt g1 i).cuts j);have Q:=o c _ g s.1 s.2;rw[zFr z.asc A]at O;have x:=F.asc;rw[<-D]at x;rw[show nx (nAt g2 t).cuts (zh (fAt ds (nAt g1 i).fact).lo (nAt g1 i).cuts j)=j by rw[k];exact zFr x M]at P;rw[<-O,<-P,Q]
theorem zB.ext'{a b:zB}(c:a.leaf=b.leaf)(d:a.fact=b.fact)(e:a.cuts=b.cuts)(f:a.kids=b.kids):a=b:=by
 cases a;cases b;simp at c d e f;subst c d e f;rfl
theorem zG1(h:l.length=m.length)(c:∀j,j<l.length->l.getD j 0=m.getD j 0):l=m:=by
 apply List.ext_getElem h;intro i a b;have:=c i a;simpa[List.getD_eq_getElem?_getD,List.getElem?_eq_getElem a,List.getElem?_eq_getElem b]using this
theorem zBU(a:j<l.length):l.getD j 0∈l:=by
 rw[List.getD_eq_getElem?_getD,List.getElem?_eq_getElem a];exact List.getElem_mem a
theorem Good.uniq_all(f:zE3 ds)(h:Good ds g):∀r,zPZ ds g r
 |0=>λ_ _ _ _ o _ _=>by omega
 |r+1=>λa b c d i k he=>by
  have A:=Good.uniq_all f h r;have K:=zKy f h h A A c d (by omega) (by omega) he;refine zL4 h.nodup c d (zB.ext' K.leaf K.fact K.cuts (zG1 K.len λj e=> ?_));have m:=h.rank_kid c (zBU e);have n:=h.rank_kid d (zBU (K.len▸e));exact A _ _ m.1 n.1 (by omega) (by omega) (K.kids j e)
theorem Good.uniq(e:zE3 ds)(h:Good ds g){a b:Int}(c:Rng g a)(d:Rng g b)(he:EqS ds g g a b):a=b:=
 h.uniq_all e (ds.length+1) a b c d (by have:=zDo (ds:=ds) (g:=g) a;omega) (by have:=zDo (ds:=ds) (g:=g) b;omega) he
theorem Good.alike(c:zE3 ds)(d:Good ds g1)(e:Good ds g2){a b:Int}(f:Rng g1 a)(g:Rng g2 b)(he:EqS ds g1 g2 a b):Alike ds g1 g2 a b:=
 zKy c d e (d.uniq_all c ds.length) (e.uniq_all c ds.length) f g (zDo _) (zDo _) he
end canon
def zz(g:List zB):Nat->Int->List Int->List Int
 |0,_,o=>o
 |k+1,i,o=>if i∈o then o else(nAt g i).kids.foldl (λo x=>zz g k x o) (o++[i])
def zB2(ds:List zC)(g:List zB)(i:Int):List Int:=zz g (ds.length+1) i []
def zAO(o:List Int)(k:Int):Int:=if k∈o then(o.idxOf k:Nat)else 0
def zAl(g:List zB)(o:List Int)(i:Int):zB:=⟨(nAt g i).leaf,(nAt g i).fact,(nAt g i).cuts,(nAt g i).kids.map (zAO o)⟩
def zA8(ds:List zC)(g:List zB)(i:Int):List zB:=(zB2 ds g i).map (zAl g (zB2 ds g i))
section visit
variable {ds:List zC} {g g1 g2:List zB}
structure zHk (g:List zB) (o o':List Int):Prop where
 pre:∃t,o'=o++t
 nodup:o'.Nodup
 rng:∀x∈o',Rng g x
 kids:∀x∈o',x∉o->∀y∈(nAt g x).kids,y∈o'
theorem zHk.sub{o o':List Int}(h:zHk g o o')(a:x∈o):x∈o':=by
 obtain⟨t,rfl⟩:=h.pre;exact List.mem_append_left _ a
theorem zHk.trans{o o' a:List Int}(h:zHk g o o')(k:zHk g o' a):zHk g o a:=by
 refine⟨?_,k.nodup,k.rng,λx e b y d=> ?_⟩
 ·obtain⟨t,rfl⟩:=h.pre;obtain⟨f,rfl⟩:=k.pre;exact⟨t++f,by simp⟩
 ·by_cases c:x∈o'
  ·exact k.sub (h.kids x c b y d)
  ·exact k.kids x e c y d
theorem zJE(h:Good ds g):∀(k:Nat)(i:Int)(o:List Int),Rng g i->zCP ds g i<k->(∀x∈o,Rng g x)->o.Nodup->zHk g o (zz g k i o)/\i∈zz g k i o
 |0,_,_,_,hr,_,_=>by omega
 |k+1,i,o,hi,hr,j,f=>by
  unfold zz;by_cases q:i∈o
  ·rw[if_pos q];exact⟨⟨⟨[],by simp⟩,f,j,λx c d=>absurd c d⟩,q⟩
  ·rw[if_neg q]
   have n:∀(l o:List Int),(∀x∈l,Rng g x/\zCP ds g x<k)->(∀x∈o,Rng g x)->o.Nodup->
     zHk g o (l.foldl (λo x=>zz g k x o) o)/\∀x∈l,x∈l.foldl (λo x=>zz g k x o) o:=by
    intro l
    induction l with
    |nil=>intro o _ j f;exact⟨⟨⟨[],by simp⟩,f,j,λx c d=>absurd c d⟩,by simp⟩
    |cons a l ih=>
     intro o s j f;obtain⟨z,E⟩:=zJE h k a o (s a (by simp)).1 (s a (by simp)).2 j f;obtain⟨C,F⟩:=ih (zz g k a o) (λx c=>s x (List.mem_cons_of_mem _ c)) z.rng z.nodup;refine⟨z.trans C,λx c=> ?_⟩;rcases List.mem_cons.1 c with rfl|c
     ·exact C.sub E
     ·exact F x c
   have w:∀x∈o++[i],Rng g x:=λx c=>by
    rcases List.mem_append.1 c with c|c
    ·exact j x c
    ·simp at c;rw[c];exact hi
   have u:(o++[i]).Nodup :=by
    rw[List.nodup_append];exact⟨f,by simp,λa D b A e=>by simp at A;subst A;exact q (e▸D)⟩
   obtain⟨v,m⟩:=n (nAt g i).kids (o++[i]) (λx c=>by have:=h.rank_kid hi c;exact⟨this.1,by omega⟩) w u;refine⟨⟨?_,v.nodup,v.rng,λx c d y B=> ?_⟩,v.sub (by simp)⟩
   ·obtain⟨t,e⟩:=v.pre;exact⟨i::t,by rw[e];simp⟩
   ·by_cases e:x=i
    ·subst e;exact m y B
    ·exact v.kids x c (by simp[d,e]) y B
theorem zSR(h:Good ds g)(k:Nat)(i:Int):∃t,zz g (k+1) i []=i::t:=by
 have b:∀(l o:List Int),∃t,l.foldl (λo x=>zz g k x o) o=o++t:=by
  have d:∀(k:Nat)(i:Int)(o:List Int),∃t,zz g k i o=o++t:=by
   intro k
   induction k with
   |zero=>intro i o;exact⟨[],by simp[zz]⟩
   |succ k ih=>
    intro i o;unfold zz;split
    ·exact⟨[],by simp⟩
    ·have:∀(l o:List Int),∃t,l.foldl (λo x=>zz g k x o) o=o++t:=by
      intro l
      induction l with
      |nil=>intro o;exact⟨[],by simp⟩
      |cons a l ih'=>
       intro o;obtain⟨t,e⟩:=ih a o;obtain⟨f,c⟩:=ih' (zz g k a o);exact⟨t++f,by rw[List.foldl_cons,c,e];simp⟩
     obtain⟨t,e⟩:=this (nAt g i).kids (o++[i]);exact⟨i::t,by rw[e];simp⟩
  intro l
  induction l with
  |nil=>intro o;exact⟨[],by simp⟩
  |cons a l ih=>
   intro o;obtain⟨t,e⟩:=d k a o;obtain⟨f,c⟩:=ih (zz g k a o);exact⟨t++f,by rw[List.foldl_cons,c,e];simp⟩
 unfold zz;rw[if_neg (by simp)];obtain⟨t,e⟩:=b (nAt g i).kids ([]++[i]);exact⟨t,by rw[e];rfl⟩
structure zK1 (ds:List zC) (g:List zB) (i:Int) (o:List Int):Prop where
 head:∃t,o=i::t
 nodup:o.Nodup
 rng:∀x∈o,Rng g x
 kids:∀x∈o,∀y∈(nAt g x).kids,y∈o
theorem zDc(h:Good ds g)(hi:Rng g i):zK1 ds g i (zB2 ds g i):=by
 have b:=zDo (ds:=ds) (g:=g) i;obtain⟨v,_⟩:=zJE h (ds.length+1) i [] hi (by omega) (by simp) (by simp);exact⟨zSR h ds.length i,v.nodup,v.rng,λx a=>v.kids x a (by simp)⟩
theorem zF9:∀(n:Nat)(l:List Int),l.Nodup->(∀x∈l,0<=x/\x<n)->l.length<=n
 |0,l,_,h=>by
  cases l with
  |nil=>simp
  |cons a r=>have:=h a (by simp);omega
 |n+1,l,hn,h=>by
  have f:(l.erase (n:Int)).length <=n:=zF9 n _ (hn.erase _) (λx c=>by
   have a:=h x (List.mem_of_mem_erase c)
   have b:x≠(n:Int):=λe=>by
    subst e;have:=(List.Nodup.mem_erase_iff hn).1 c;exact this.1 rfl
   omega)
  have d:=List.length_erase (a:=(n:Int)) (l:=l);split at d<;>omega
theorem zK1.length_le{o:List Int}(h:zK1 ds g i o):o.length<=g.length:=zF9 _ _ h.nodup h.rng
inductive R2 (R:Int->Int->Prop):List Int->List Int->Prop where
 |nil:R2 R [] []
 |cons {a b:Int} {l m:List Int}:R a b->R2 R l m->R2 R (a::l) (b::m)
theorem R2.of_getD{R:Int->Int->Prop}:∀{l m:List Int},l.length=m.length->(∀j,j<l.length->R (l.getD j 0) (m.getD j 0))->R2 R l m
 |[],[],_,_=> .nil
 |[],_::_,h,_=>by simp at h
 | _::_,[],h,_=>by simp at h
 |a::l,b::m,h,hj=> .cons (by simpa using hj 0 (by simp)) (R2.of_getD (by simpa using h) λj c=>by simpa using hj (j+1) (by simpa using c))
theorem R2.append{l m a b:List Int}(h:R2 R l m)(c:R2 R a b):R2 R (l++a) (m++b):=by
 induction h with
 |nil=>exact c
 |cons h _ ih=>exact .cons h ih
theorem R2.mem(i:∀a d b,R a b->R d b->a=d)(g:∀a b f,R a b->R a f->b=f)(h:R2 R l m){a b:Int}(c:R a b):a∈l↔b∈m:=by
 induction h with
 |nil=>simp
 |cons h _ ih=>
  rename_i x y l m _;simp only[List.mem_cons,ih];refine or_congr ⟨λe=> ?_,λe=> ?_⟩ Iff.rfl
  ·subst e;exact g _ _ _ c h
  ·subst e;exact i _ _ _ c h
theorem R2.idx(i:∀a d b,R a b->R d b->a=d)(g:∀a b f,R a b->R a f->b=f)(h:R2 R l m){a b:Int}(c:R a b):l.idxOf a=m.idxOf b:=by
 induction h with
 |nil=>rfl
 |cons h _ ih=>
  rename_i x y l m _;rw[List.idxOf_cons,List.idxOf_cons,ih]
  have:(x==a)=(y==b):=by
   rw[Bool.eq_iff_iff,beq_iff_eq,beq_iff_eq];constructor
   ·intro e;subst e;exact g _ _ _ h c
   ·intro e;subst e;exact i _ _ _ h c
  rw[this]
theorem R2.map_eq{f c:Int->α}(h:R2 R l m)(d:∀a b,R a b->f a=c b):l.map f=m.map c:=by
 induction h with
 |nil=>rfl
 |cons h _ ih=>rw[List.map_cons,List.map_cons,ih,d _ _ h]
theorem zNu{R:Int->Int->Prop}(u:∀a j b,R a b->R j b->a=j)(s:∀a b n,R a b->R a n->b=n)(q:∀a b,R a b->R2 R (nAt g1 a).kids (nAt g2 b).kids):
  ∀(k:Nat)(a b:Int)(c d:List Int),R a b->R2 R c d->R2 R (zz g1 k a c) (zz g2 k b d)
 |0,_,_,_,_,_,h=>by simpa[zz]using h
 |k+1,a,b,c,d,hab,h=>by
  unfold zz;have t:=R2.mem u s h hab;by_cases f:a∈c
  ·rw[if_pos f,if_pos (t.1 f)];exact h
  ·rw[if_neg f,if_neg (λh=>f (t.2 h))]
   have e:∀{l m:List Int},R2 R l m->∀c d,R2 R c d->R2 R (l.foldl (λo x=>zz g1 k x o) c) (m.foldl (λo x=>zz g2 k x o) d):=by
    intro l m g
    induction g with
    |nil=>intro c d i;exact i
    |cons h _ ih=>intro c d i;exact ih _ _ (zNu u s q k _ _ _ _ h i)
   exact e (q a b hab) _ _ (h.append (.cons hab .nil))
theorem zP0(o:zE3 ds)(m:Good ds g1)(n:Good ds g2){a b:Int}(B:Rng g1 a)(C:Rng g2 b)(he:EqS ds g1 g2 a b):zA8 ds g1 a=zA8 ds g2 b:=by
 let R:Int->Int->Prop:=λa b=>Rng g1 a/\Rng g2 b/\EqS ds g1 g2 a b
 have s:∀a w b,R a b->R w b->a=w:=λa w b h g=>m.uniq o h.1 g.1 λc i=>by rw[h.2.2 c i,g.2.2 c i]
 have d:∀a b z,R a b->R a z->b=z:=λa b z h g=>n.uniq o h.2.1 g.2.1 λc i=>by rw[<-h.2.2 c i,<-g.2.2 c i]
 have k:∀a b,R a b->R2 R (nAt g1 a).kids (nAt g2 b).kids :=λa b h=>by
  have K:=Good.alike o m n h.1 h.2.1 h.2.2;exact R2.of_getD K.len λj A=>⟨(m.rank_kid h.1 (zBU A)).1,(n.rank_kid h.2.1 (zBU (K.len▸A))).1,K.kids j A⟩
 have q:R2 R (zB2 ds g1 a) (zB2 ds g2 b):=zNu s d k _ _ _ _ _ ⟨B,C,he⟩ .nil;unfold zA8;refine q.map_eq λx y e=> ?_
 have K:=Good.alike o m n e.1 e.2.1 e.2.2;unfold zAl;refine zB.ext' K.leaf K.fact K.cuts ?_;refine(k x y e).map_eq λu v f=> ?_
 unfold zAO;by_cases t:u∈zB2 ds g1 a
 ·rw[if_pos t,if_pos ((q.mem s d f).1 t),q.idx s d f]
 ·rw[if_neg t,if_neg (λh=>t ((q.mem s d f).2 h))]
end visit
section renumber
variable {ds:List zC} {g:List zB} {i:Int} {o:List Int}
theorem zNv(a:k∈o):0<=zAO o k/\zAO o k<o.length:=by
 unfold zAO;rw[if_pos a];have:=List.idxOf_lt_length_of_mem a;omega
theorem zNw{a b:Int}(c:a∈o)(d:b∈o)(h:zAO o a=zAO o b):a=b:=by
 unfold zAO at h;rw[if_pos c,if_pos d]at h;have f:=List.getElem_idxOf (List.idxOf_lt_length_of_mem c);have g:=List.getElem_idxOf (List.idxOf_lt_length_of_mem d);have e:o.idxOf a=o.idxOf b:=by omega
 rw[<-f,<-g];simp only[e]
theorem zP1{f:Int->zB}(b:k∈o):nAt (o.map f) (zAO o k)=f k:=by
 have a:=List.idxOf_lt_length_of_mem b;unfold zAO;rw[if_pos b,zBs (by simpa using a),List.getElem_map,List.getElem_idxOf a]
theorem zM6(h:Good ds g)(s:zK1 ds g i o):Good ds (o.map (zAl g o)):=by
 constructor
 ·intro n C;obtain⟨x,A,rfl⟩:=List.mem_map.1 C;rcases h.proper _ (zFC (s.rng x A))with t|I
  ·left;exact⟨by simp[zAl,t.1],t.2.1,t.2.2⟩
  ·right;have c:=s.kids x A;refine⟨by simp[zAl,I.ne],I.leaf,I.f0,I.f1,I.cuts,by simp[zAl,I.len],I.asc,λk v=> ?_,λk v=> ?_,λj f=> ?_⟩
   ·obtain⟨y,u,rfl⟩:=List.mem_map.1 v;have:=zNv (c y u);exact⟨this.1,by rw[List.length_map];exact this.2⟩
   ·obtain⟨y,u,rfl⟩:=List.mem_map.1 v;rw[zP1 (c y u)];intro q;exact I.up y u (by intro e;simp[zAl,e]at q)
   ·have m:j+1<(nAt g x).kids.length :=by simpa[zAl]using f
    have e:∀j,j<(nAt g x).kids.length ->(zAl g o x).kids.getD j 0=zAO o ((nAt g x).kids.getD j 0):=λj f=>by
     simp[zAl,List.getD_eq_getElem?_getD,List.getElem?_eq_getElem f]
    rw[e j (by omega),e (j+1) m];intro B;exact I.diff j m (zNw (c _ (zBU (by omega))) (c _ (zBU m)) B)
 ·have t:(o.map (zAl g o)).Pairwise (· ≠ ·):=by
   rw[List.pairwise_map];refine List.Pairwise.imp_of_mem (R:=(· ≠ ·)) (λ{a b} ha hb q e=>q ?_) s.nodup;unfold zAl at e;injection e with e1 e2 e3 e4;refine zL4 h.nodup (s.rng a ha) (s.rng b hb) (zB.ext' e1 e2 e3 ?_);have w:=s.kids a ha;have z:=s.kids b hb;(have d:(nAt g a).kids.length =(nAt g b).kids.length :=by have:=congrArg List.length e4;simpa using this);(refine zG1 d λj f=> ?_);refine zNw (w _ (zBU f)) (z _ (zBU (d▸f))) ?_;have:=congrArg (λl=>l.getD j 0) e4;simpa[List.getD_eq_getElem?_getD,List.getElem?_eq_getElem f,List.getElem?_eq_getElem (d▸f)]using this
  exact t
theorem zQd(h:Good ds g)(d:zK1 ds g i o):∀(r:Nat)(x:Int),x∈o->zCP ds g x<=r->∀c,S ds (o.map (zAl g o)) (zAO o x) c=S ds g x c
 |r,x,hx,hr,c=>by
  have k:=zM6 h d;have hi:=d.rng x hx;have a:nAt (o.map (zAl g o)) (zAO o x)=zAl g o x:=zP1 hx;have n:=zNv hx;have f:Rng (o.map (zAl g o)) (zAO o x):=⟨n.1,by rw[List.length_map];exact n.2⟩;by_cases b:(nAt g x).kids =[]
  ·rw[h.S_leaf b,k.S_leaf (by rw[a];simp[zAl,b]),a];rfl
  ·rw[h.S_inner hi b,k.S_inner f (by rw[a];simp[zAl,b]),a];have I:=h.inner hi b;have m:=I.kid_rng (c.getD (nAt g x).fact.toNat 0);have s:=h.rank_kid hi m;have j:nx (nAt g x).cuts (c.getD (nAt g x).fact.toNat 0)<(nAt g x).kids.length :=by have:=zF8 (nAt g x).cuts (c.getD (nAt g x).fact.toNat 0);have:=I.len;omega
   have e:(zAl g o x).kids.getD (nx (zAl g o x).cuts (c.getD (zAl g o x).fact.toNat 0)) 0=zAO o ((nAt g x).kids.getD (nx (nAt g x).cuts (c.getD (nAt g x).fact.toNat 0)) 0):=by
    show((nAt g x).kids.map (zAO o)).getD (nx (nAt g x).cuts (c.getD (nAt g x).fact.toNat 0)) 0=_;generalize nx (nAt g x).cuts (c.getD (nAt g x).fact.toNat 0)=q at*;simp[List.getD_eq_getElem?_getD,List.getElem?_eq_getElem j]
   rw[e]
   cases r with
   |zero=>omega
   |succ r=>exact zQd h d r _ (d.kids x hx _ m) (by omega) c
theorem zSS(a:zK1 ds g i o):zAO o i=0:=by
 obtain⟨t,rfl⟩:=a.head;unfold zAO;rw[if_pos (by simp)];simp
theorem zM7(h:Good ds g)(hi:Rng g i):Good ds (zA8 ds g i):=zM6 h (zDc h hi)
theorem zNx(h:Good ds g)(hi:Rng g i):Rng (zA8 ds g i) 0:=by
 obtain⟨t,e⟩:=(zDc h hi).head;refine⟨Int.le_refl _,?_⟩;unfold zA8;rw[List.length_map,e];simp
theorem zNF(h:Good ds g)(hi:Rng g i)(c:List Int):S ds (zA8 ds g i) 0 c=S ds g i c:=by
 have a:=zDc h hi;have:=zQd h a _ i (by obtain⟨t,e⟩:=a.head;rw[e];simp) (Nat.le_refl _) c;rw[zSS a]at this;exact this
theorem zQS(a:zE3 ds)(h:Good ds g)(hi:Rng g i):zA8 ds (zA8 ds g i) 0=zA8 ds g i:=
 zP0 a (zM7 h hi) h (zNx h hi) hi λc _=>zNF h hi c
end renumber
def zo(all:List zB)(n:zB):Int × List zB:=if n∈all then((all.idxOf n:Nat),all)else((all.length:Nat),all++[n])
def zR:Int->List Int->List Int->List Int × List Int
 |last,s::ss,k::ks=>if k=last then zR last ss ks else(s::(zR k ss ks).1,k::(zR k ss ks).2)
 | _,_,_=>([],[])
def zAT(all:List zB)(i:Int)(starts kids:List Int):Int × List zB:=
 if(zR (kids.getD 0 0) starts kids).2=[]then(kids.getD 0 0,all)
 else zo all ⟨false,i,(zR (kids.getD 0 0) starts kids).1,kids.getD 0 0::(zR (kids.getD 0 0) starts kids).2⟩
section ext
variable {ds:List zC} {g t:List zB}
theorem Rng.app(h:Rng g i)(t:List zB):Rng (g++t) i:=⟨h.1,by have:=h.2;simp;omega⟩
theorem zFs(h:Rng g i)(t:List zB):nAt (g++t) i=nAt g i:=by
 unfold nAt;have a:=h.1;have b:=h.2;have:i.toNat<g.length:=by omega
 rw[List.getD_eq_getElem?_getD,List.getD_eq_getElem?_getD,List.getElem?_append_left this]
theorem zUn(h:Good ds g)(b:Good ds (g++t)):∀(r:Nat)(i:Int),Rng g i->zCP ds g i<=r->∀c,S ds (g++t) i c=S ds g i c
 |r,i,hi,hr,c=>by
  by_cases a:(nAt g i).kids =[]
  ·rw[h.S_leaf a,b.S_leaf (by rw[zFs hi];exact a),zFs hi]
  ·have I:=h.inner hi a;have e:=I.kid_rng (c.getD (nAt g i).fact.toNat 0);have d:=h.rank_kid hi e;rw[h.S_inner hi a,b.S_inner (hi.app t) (by rw[zFs hi];exact a),zFs hi]
   cases r with
   |zero=>omega
   |succ r=>exact zUn h b r _ d.1 (by omega) c
theorem zP2(h:Good ds g)(a:Good ds (g++t))(hi:Rng g i)(c:List Int):S ds (g++t) i c=S ds g i c:=zUn h a _ i hi (Nat.le_refl _) c
theorem zDu.app(h:zDu ds g n)(t:List zB):zDu ds (g++t) n:=
 ⟨h.ne,h.leaf,h.f0,h.f1,h.cuts,h.len,h.asc,λk a=>(h.rng k a).app t,λk a=>by rw[zFs (h.rng k a)];exact h.up k a,h.diff⟩
theorem zGO.app(h:zGO ds g n)(t:List zB):zGO ds (g++t) n:=h.imp id (λh=>h.app t)
theorem Good.nil(ds:List zC):Good ds []:=⟨λ_ h=>absurd h (by simp),by simp⟩
structure Made (ds:List zC) (g g':List zB) (i:Int):Prop where
 pre:∃t,g'=g++t
 good:Good ds g'
 rng:Rng g' i
theorem Made.S_old{i j:Int}(h:Made ds g g' i)(a:Good ds g)(b:Rng g j)(c:List Int):S ds g' j c=S ds g j c:=by
 obtain⟨t,rfl⟩:=h.pre;exact zP2 a h.good b c
theorem zKI(h:Good ds g)(o:zGO ds g n):Made ds g (zo g n).2 (zo g n).1/\nAt (zo g n).2 (zo g n).1=n:=by
 unfold zo;by_cases f:n∈g
 ·rw[if_pos f];have c:=List.idxOf_lt_length_of_mem f;refine⟨⟨⟨[],by simp⟩,h,⟨by simp,by simpa using c⟩⟩,?_⟩;rw[zBs c,List.getElem_idxOf c]
 ·rw[if_neg f];have q:Rng (g++[n]) (g.length:Nat):=⟨by omega,by simp;omega⟩;refine⟨⟨⟨[n],rfl⟩,⟨λm i=> ?_,?_⟩,q⟩,?_⟩
  ·rcases List.mem_append.1 i with d|d
   ·exact(h.proper m d).app _
   ·simp at d;rw[d];exact o.app _
  ·rw[List.nodup_append];exact⟨h.nodup,by simp,λa k b j e=>by simp at j;subst j;exact f (e▸k)⟩
  ·simp only;rw[zBs (by simp)];simp
end ext
theorem zGP:∀(last:Int)(ss ks:List Int),(zR last ss ks).1.length =(zR last ss ks).2.length
 |last,s::ss,k::ks=>by
  unfold zR;split
  ·exact zGP last ss ks
  ·simp[zGP k ss ks]
 | _,[],_=>rfl
 | _,_::_,[]=>rfl
theorem zKJ:∀(last lo hi:Int)(ss ks:List Int),zy lo hi ss->zy lo hi (zR last ss ks).1
 |last,lo,hi,s::ss,k::ks,h=>by
  unfold zR;split
  ·exact zKJ last lo hi ss ks (zPY h.2.2 (Int.le_of_lt h.1))
  ·exact⟨h.1,h.2.1,zKJ k s hi ss ks h.2.2⟩
 | _,_,_,[],_,_=>trivial
 | _,_,_,_::_,[],_=>trivial
theorem zHl:∀(last:Int)(ss ks:List Int),∀k∈(zR last ss ks).2,k∈ks
 |last,s::ss,k::ks,x,a=>by
  unfold zR at a;split at a
  ·exact List.mem_cons_of_mem _ (zHl last ss ks x a)
  ·rcases List.mem_cons.1 a with rfl|a
   ·simp
   ·exact List.mem_cons_of_mem _ (zHl k ss ks x a)
 | _,[],_,_,h=>absurd h (by simp[zR])
 | _,_::_,[],_,h=>absurd h (by simp[zR])
theorem zJF:∀(last:Int)(ss ks:List Int)(j:Nat),j+1<(last::(zR last ss ks).2).length ->(last::(zR last ss ks).2).getD j 0≠(last::(zR last ss ks).2).getD (j+1) 0
 |last,s::ss,k::ks,j,hj=>by
  unfold zR at hj⊢;split
  ·rename_i h;rw[if_pos h]at hj;exact zJF last ss ks j hj
  ·rename_i h;rw[if_neg h]at hj
   cases j with
   |zero=>simp;exact λe=>h e.symm
   |succ j=>
    have:=zJF k ss ks j (by simpa using hj);simpa using this
 | _,[],_,j,hj=>by simp[zR]at hj
 | _,_::_,[],j,hj=>by simp[zR]at hj
theorem zJG:∀(last lo hi:Int)(ss ks:List Int)(v:Int),ss.length=ks.length->zy lo hi ss->
  (last::(zR last ss ks).2).getD (nx (zR last ss ks).1 v) 0=(last::ks).getD (nx ss v) 0
 |last,lo,hi,s::ss,k::ks,v,hl,h=>by
  have b:ss.length=ks.length:=by simpa using hl
  unfold zR;by_cases c:k=last
  ·rw[if_pos c,zJG last s hi ss ks v b h.2.2];rw[show nx (s::ss) v=if v<s then 0 else nx ss v+1 from rfl];by_cases a:v<s
   ·rw[if_pos a,zPX h.2.2 (v:=v) (by omega)];rfl
   ·rw[if_neg a,c,List.getD_cons_succ]
  ·rw[if_neg c];simp only[nx];by_cases a:v<s
   ·rw[if_pos a,if_pos a];rfl
   ·rw[if_neg a,if_neg a,List.getD_cons_succ,List.getD_cons_succ];exact zJG k s hi ss ks v b h.2.2
 | _,_,_,[],[],_,_,_=>by simp[zR,nx]
 | _,_,_,[],_::_,_,h,_=>by simp at h
 | _,_,_,_::_,[],_,h,_=>by simp at h
theorem zKz(k:Int)(s:Int)(ss ks:List Int):zR k (s::ss) (k::ks)=zR k ss ks:=by
 rw[zR,if_pos rfl]
theorem zM8(h:Good ds g){i:Nat}(hi:i<ds.length){rest:List Int}{a:Int}{ks:List Int}(z:rest.length=ks.length)
  (u:zy (ds.getD i zAY).lo (ds.getD i zAY).hi rest)(t:∀k∈a::ks,Rng g k)(x:∀k∈a::ks,(nAt g k).kids ≠[]->(i:Int)<(nAt g k).fact):
  Made ds g (zAT g i ((ds.getD i zAY).lo ::rest) (a::ks)).2 (zAT g i ((ds.getD i zAY).lo ::rest) (a::ks)).1/\
  (∀c,S ds (zAT g i ((ds.getD i zAY).lo ::rest) (a::ks)).2 (zAT g i ((ds.getD i zAY).lo ::rest) (a::ks)).1 c=S ds g ((a::ks).getD (nx rest (c.getD i 0)) 0) c)/\
  ((nAt (zAT g i ((ds.getD i zAY).lo ::rest) (a::ks)).2 (zAT g i ((ds.getD i zAY).lo ::rest) (a::ks)).1).kids ≠[]->
   (i:Int)<=(nAt (zAT g i ((ds.getD i zAY).lo ::rest) (a::ks)).2 (zAT g i ((ds.getD i zAY).lo ::rest) (a::ks)).1).fact):=by
 unfold zAT;simp only[List.getD_cons_zero,zKz];have w:=λv=>zJG a _ _ rest ks v z u
 have b:=zGP a rest ks;have q:=zKJ a _ _ rest ks u;have s:=zHl a rest ks;have o:=zJF a rest ks;generalize zR a rest ks=m at*;by_cases he:m.2=[]
 ·rw[if_pos he];refine⟨⟨⟨[],by simp⟩,h,t a (by simp)⟩,λc=> ?_,λf=>Int.le_of_lt (x a (by simp) f)⟩;have y:m.1=[]:=List.eq_nil_of_length_eq_zero (by rw[b,he];rfl);rw[<-w,y,he];rfl
 ·rw[if_neg he]
  have d:∀k∈a::m.2,k∈a::ks:=λk f=>by
   rcases List.mem_cons.1 f with rfl|f
   ·simp
   ·exact List.mem_cons_of_mem _ (s k f)
  have I:zDu ds g ⟨false,i,m.1,a::m.2⟩:=by
   refine⟨by simp,rfl,by simp,by simpa using hi,λe=>he (List.eq_nil_of_length_eq_zero (by rw[<-b];simp at e;rw[e];rfl)),by simp[b],?_,λk f=>t k (d k f),λk f=>x k (d k f),o⟩;show zy (fAt ds (i:Nat)).lo (fAt ds (i:Nat)).hi m.1;unfold fAt;rw[Int.toNat_natCast];exact q
  obtain⟨M,j⟩:=zKI h (n:=⟨false,i,m.1,a::m.2⟩) (Or.inr I);refine⟨M,λc=> ?_,λ_=> ?_⟩
  ·rw[M.good.S_inner M.rng (by rw[j];simp),j];simp only[Int.toNat_natCast];rw[w];refine M.S_old h (t _ ?_) c;have A:=zF8 rest (c.getD i 0);exact zBU (by simp only[List.length_cons];omega)
  ·rw[j];exact Int.le_refl _
def zCr:List Int->Int->List Int
 |[],n=>[n]
 |a::r,n=>if n<a then n::a::r else if n=a then a::r else a::zCr r n
def zEV(l:List Int):List Int:=l.foldl zCr []
theorem zUc(l:List Int)(n v:Int):v∈zCr l n↔v=n\/v∈l:=by
 induction l with
 |nil=>simp[zCr]
 |cons a r ih=>
  unfold zCr;split
  ·simp
  ·split
   ·rename_i h;subst h;simp
   ·simp only[List.mem_cons,ih];constructor
    ·rintro(h|h|h)<;>simp[h]
    ·rintro(h|h|h)<;>simp[h]
theorem zP3:∀{l:List Int}{lo hi n:Int},zy lo hi l->lo<n->n<=hi->zy lo hi (zCr l n)
 |[],_,_,_,_,h1,h2=>⟨h1,h2,trivial⟩
 |a::r,lo,hi,n,h,h1,h2=>by
  unfold zCr;split
  ·rename_i ha;exact⟨h1,h2,ha,h.2.1,h.2.2⟩
  ·split
   ·exact h
   ·exact⟨h.1,h.2.1,zP3 h.2.2 (by omega) h2⟩
theorem zNG(l:List Int):∀(m:List Int)(v:Int),v∈l.foldl zCr m↔v∈m\/v∈l:=by
 induction l with
 |nil=>intro m v;simp
 |cons a r ih=>
  intro m v;rw[List.foldl_cons,ih,zUc];simp only[List.mem_cons];constructor
  ·rintro((h|h)|h)
   ·exact Or.inr (Or.inl h)
   ·exact Or.inl h
   ·exact Or.inr (Or.inr h)
  ·rintro(h|h|h)
   ·exact Or.inl (Or.inr h)
   ·exact Or.inl (Or.inl h)
   ·exact Or.inr h
theorem zIR{lo hi:Int}:∀(l m:List Int),zy lo hi m->(∀v∈l,lo<v/\v<=hi)->zy lo hi (l.foldl zCr m)
 |[],_,h,_=>h
 |a::r,m,h,hl=>zIR r _ (zP3 h (hl a (by simp)).1 (hl a (by simp)).2) λv b=>hl v (List.mem_cons_of_mem _ b)
theorem zGQ(l:List Int)(v:Int):v∈zEV l↔v∈l:=by unfold zEV;rw[zNG];simp
theorem zGR(h:∀v∈l,lo<v/\v<=hi):zy lo hi (zEV l):=zIR l [] trivial h
theorem zE9:∀{l:List Int}{lo hi v:Int},zy lo hi l->lo<=v->zh lo l (nx l v)<=v
 |[],_,_,_,_,h=>by simpa[nx,zh]using h
 |c::r,lo,hi,v,h,hv=>by
  unfold nx;split
  ·simpa[zh]using hv
  ·have:=zE9 (l:=r) (lo:=c) (v:=v) h.2.2 (by omega);unfold zh at this⊢;simp only[Nat.succ_ne_zero,if_false,Nat.add_sub_cancel];split at this
   ·rename_i h0;rw[h0];simpa using this
   ·rename_i h0;obtain⟨q,a⟩:∃q,nx r v=q+1:=⟨nx r v-1,by omega⟩;rw[a]at this⊢;simpa using this
theorem zFa:∀{l:List Int}{lo hi v x:Int},zy lo hi l->x∈l->zh lo l (nx l v)<x->v<x
 |[],_,_,_,_,_,h,_=>absurd h (by simp)
 |c::r,lo,hi,v,x,h,b,hs=>by
  unfold nx at hs;by_cases e:v<c
  ·rcases List.mem_cons.1 b with rfl|b
   ·exact e
   ·have:=(zBJ h.2.2 x b).1;omega
  ·rw[if_neg e]at hs
   have a:zh c r (nx r v)<x:=by
    unfold zh at hs⊢;simp only[Nat.succ_ne_zero,if_false,Nat.add_sub_cancel]at hs;split
    ·rename_i h0;rw[h0]at hs;simpa using hs
    ·rename_i h0;obtain⟨q,f⟩:∃q,nx r v=q+1:=⟨nx r v-1,by omega⟩;rw[f]at hs⊢;simpa using hs
   rcases List.mem_cons.1 b with rfl|b
   ·have:=zE9 (l:=r) (lo:=x) (v:=v) h.2.2 (by omega);unfold zh at a;split at a
    ·omega
    ·exfalso;(have d:nx r v-1<r.length:=by have:=zF8 r v;omega);rw[List.getD_eq_getElem?_getD,List.getElem?_eq_getElem d]at a;have:=(zBJ h.2.2 _ (List.getElem_mem d)).1;simp at a;omega
   ·exact zFa h.2.2 b a
theorem zQe{v s:Int}(e:s<=v)(a:∀x∈m,s<x->v<x):nx m s=nx m v:=by
 induction m with
 |nil=>rfl
 |cons c r ih=>
  unfold nx;have b:=a c (by simp);by_cases h:s<c
  ·rw[if_pos h,if_pos (b h)]
  ·rw[if_neg h,if_neg (by omega),ih λx d=>a x (List.mem_cons_of_mem _ d)]
def kvI{κ:Type}[DecidableEq κ]:List (κ × Int)->κ->Option Int
 |[],_=>none
 |p::r,x=>if x=p.1 then some p.2 else kvI r x
def zCh{κ:Type}[DecidableEq κ]:List (κ × Int)->κ->Int->List (κ × Int)
 |[],x,v=>[(x,v)]
 |p::r,x,v=>if x=p.1 then(p.1,v)::r else p::zCh r x v
theorem zIS{κ:Type}[DecidableEq κ]{x:κ}{v:Int}:∀{l:List (κ × Int)},kvI l x=some v->(x,v)∈l
 |[],h=>by simp[kvI]at h
 |p::r,h=>by
  unfold kvI at h;split at h
  ·rename_i e;injection h with h;subst h;subst e;simp
  ·exact List.mem_cons_of_mem _ (zIS h)
theorem zFb{κ:Type}[DecidableEq κ]{x:κ}{v:Int}{p:κ × Int}:∀{l:List (κ × Int)},p∈zCh l x v->p∈l\/p=(x,v)
 |[],h=>by simp[zCh]at h;exact Or.inr h
 |q::r,h=>by
  unfold zCh at h;split at h
  ·rename_i e;subst e;rcases List.mem_cons.1 h with h|h
   ·exact Or.inr h
   ·exact Or.inl (List.mem_cons_of_mem _ h)
  ·rcases List.mem_cons.1 h with h|h
   ·exact Or.inl (by simp[h])
   ·rcases zFb h with h|h
    ·exact Or.inl (List.mem_cons_of_mem _ h)
    ·exact Or.inr h
def zP(ds:List zC)(n:zB):Int:=if n.kids=[]then ds.length else n.fact
def zAG(g:List zB)(at_ i v:Int):Int:=if(nAt g at_).kids ≠[]/\(nAt g at_).fact =i then(nAt g at_).kids.getD (nx (nAt g at_).cuts v) 0 else at_
structure ASt where
 all:List zB
 done:List ((Int × Int) × Int)
def zAB(ds:List zC)(p q:zB):List Int:=
 (fAt ds (min (zP ds p) (zP ds q))).lo ::zEV ((if zP ds p=min (zP ds p) (zP ds q)then p.cuts else[])++(if zP ds q=min (zP ds p) (zP ds q)then q.cuts else[]))
def zQ{σ:Type}(f:Int->σ->Int × σ):List Int->σ->List Int × σ
 |[],st=>([],st)
 |v::l,st=>((f v st).1::(zQ f l (f v st).2).1,(zQ f l (f v st).2).2)
def zAZ(ds:List zC)(a b:List zB):Nat->Int->Int->ASt->Int × ASt
 |0,_,_,st=>(0,st)
 |k+1,x,y,st=>
  match kvI st.done (x,y)with
  |some r=>(r,st)
  |none=>
   if min (zP ds (nAt a x)) (zP ds (nAt b y))=ds.length\/4000<st.all.length then
    ((zo st.all ⟨(nAt a x).leaf &&(nAt b y).leaf,0,[],[]⟩).1,⟨(zo st.all ⟨(nAt a x).leaf &&(nAt b y).leaf,0,[],[]⟩).2,st.done⟩)
   else
    let i:=min (zP ds (nAt a x)) (zP ds (nAt b y));let r:=zQ (λv st=>zAZ ds a b k (zAG a x i v) (zAG b y i v) st) (zAB ds (nAt a x) (nAt b y)) st;let o:=zAT r.2.all i (zAB ds (nAt a x) (nAt b y)) r.1
    (o.1,⟨o.2,zCh r.2.done (x,y) o.1⟩)
theorem zFt(all:List zB)(n:zB):∃t,(zo all n).2=all++t:=by
 unfold zo;split
 ·exact⟨[],by simp⟩
 ·exact⟨[n],rfl⟩
theorem zGS(all:List zB)(i:Int)(s k:List Int):∃t,(zAT all i s k).2=all++t:=by
 unfold zAT;split
 ·exact⟨[],by simp⟩
 ·exact zFt _ _
theorem zHm{g b a:List zB}(h:∃t,b=g++t)(k:∃t,a=b++t):∃t,a=g++t:=by
 obtain⟨t,rfl⟩:=h;obtain⟨u,rfl⟩:=k;exact⟨t++u,by simp⟩
theorem zHn{f:Int->ASt->Int × ASt}(h:∀v st,∃t,(f v st).2.all =st.all++t):∀(l:List Int)(st:ASt),∃t,(zQ f l st).2.all =st.all++t
 |[],st=>⟨[],by simp[zQ]⟩
 |v::l,st=>zHm (h v st) (zHn h l _)
theorem zHT(ds:List zC)(a b:List zB):∀(k:Nat)(x y:Int)(st:ASt),∃t,(zAZ ds a b k x y st).2.all =st.all++t
 |0,_,_,st=>⟨[],by simp[zAZ]⟩
 |k+1,x,y,st=>by
  unfold zAZ;split
  ·exact⟨[],by simp⟩
  ·split
   ·exact zFt _ _
   ·exact zHm (zHn (λv st=>zHT ds a b k _ _ st) _ st) (zGS _ _ _ _)
theorem zP4(h:∃t,g'=g++t):g.length<=g'.length:=by obtain⟨t,rfl⟩:=h;simp
theorem zG2:∀{α:Type}[DecidableEq α](l m:List α),l.Nodup->(∀x∈l,x∈m)->l.length<=m.length
 | _,_,[],_,_,_=>Nat.zero_le _
 | _,_,a::l,m,hn,h=>by
  have b:=List.nodup_cons.1 hn
  have f:=zG2 l (m.erase a) b.2 λx d=>by
   (have c:x≠a:=λe=>b.1 (e▸d));exact(List.mem_erase_of_ne c).2 (h x (List.mem_cons_of_mem _ d))
  have g:=List.length_erase_of_mem (h a (by simp));have i:=List.length_pos_of_mem (h a (by simp));simp only[List.length_cons];omega
section both
variable {ds:List zC} {a b:List zB}
def Closed(ds:List zC)(a b:List zB)(P:List (Int × Int)):Prop:=
 ∀p∈P,Rng a p.1/\Rng b p.2/\∀v,(zAG a p.1 (min (zP ds (nAt a p.1)) (zP ds (nAt b p.2))) v,zAG b p.2 (min (zP ds (nAt a p.1)) (zP ds (nAt b p.2))) v)∈P
structure For (ds:List zC) (a b all:List zB) (x y r:Int):Prop where
 rng:Rng all r
 says:∀c,Fit ds c->S ds all r c=(S ds a x c&&S ds b y c)
 low:(nAt all r).kids ≠[]->min (zP ds (nAt a x)) (zP ds (nAt b y))<=(nAt all r).fact
theorem For.app{all d:List zB}{x y r:Int}(h:For ds a b all x y r)(g:Good ds all)(e:Good ds d)(i:∃t,d=all++t):For ds a b d x y r:=by
 obtain⟨t,rfl⟩:=i;exact⟨h.rng.app t,λc f=>by rw[zP2 g e h.rng];exact h.says c f,by rw[zFs h.rng];exact h.low⟩
structure zHU (ds:List zC) (a b:List zB) (P:List (Int × Int)) (st:ASt):Prop where
 good:Good ds st.all
 done:∀p∈st.done,For ds a b st.all p.1.1 p.1.2 p.2
 from_:∀j,Rng st.all j->∃p∈P,∀c,Fit ds c->S ds st.all j c=(S ds a p.1 c&&S ds b p.2 c)
theorem zHU.length_le{P:List (Int × Int)}{st:ASt}(n:zE3 ds)(h:zHU ds a b P st):st.all.length<=P.length:=by
 have g:∀j:Nat,∃p:Int × Int,j<st.all.length->p∈P/\∀c,Fit ds c->S ds st.all j c=(S ds a p.1 c&&S ds b p.2 c):=λj=>by
  by_cases d:j<st.all.length
  ·obtain⟨p,m,e⟩:=h.from_ j ⟨by omega,by omega⟩;exact⟨p,λ_=>⟨m,e⟩⟩
  ·exact⟨(0,0),λh=>absurd h d⟩
 obtain⟨f,k⟩:=Classical.axiomOfChoice g
 have:=zG2 ((List.range st.all.length).map f) P (by
  show List.Pairwise (· ≠ ·) _;rw[List.pairwise_map];refine List.Pairwise.imp_of_mem (R:=(· ≠ ·)) (λ{i j} hi d hne e=>hne ?_) List.nodup_range;rw[List.mem_range]at hi d
  have:=h.good.uniq n (a:=(i:Int)) (b:=(j:Int)) ⟨by omega,by omega⟩ ⟨by omega,by omega⟩ λc g=>by
   rw[(k i hi).2 c g,(k j d).2 c g,e]
  omega) (λp m=>by
  obtain⟨j,d,rfl⟩:=List.mem_map.1 m
  exact(k j (List.mem_range.1 d)).1)
 simpa using this
theorem zEE(d:Good ds a){x i v:Int}(c:Rng a x)(hi:i<=zP ds (nAt a x))(hid:i<ds.length):Rng a (zAG a x i v)/\i<zP ds (nAt a (zAG a x i v)):=by
 unfold zAG;by_cases h:(nAt a x).kids ≠[]/\(nAt a x).fact =i
 ·rw[if_pos h];have I:=d.inner c h.1;have b:=I.kid_rng v;refine⟨I.rng _ b,?_⟩;unfold zP;split
  ·exact hid
  ·rename_i hk;have:=I.up _ b hk;rw[<-h.2];exact this
 ·rw[if_neg h];refine⟨c,?_⟩;unfold zP at hi⊢;split
  ·exact hid
  ·rename_i hk;rw[if_neg hk]at hi;(have:(nAt a x).fact ≠i:=λe=>h ⟨hk,e⟩);omega
theorem zTe(d:Good ds a)(f:Rng a x)(c:List Int)(b:0<=i)
  (e:(nAt a x).kids ≠[]->(nAt a x).fact =i->nx (nAt a x).cuts s=nx (nAt a x).cuts (c.getD i.toNat 0)):S ds a (zAG a x i s) c=S ds a x c:=by
 unfold zAG;by_cases h:(nAt a x).kids ≠[]/\(nAt a x).fact =i
 ·rw[if_pos h,d.S_inner f h.1,h.2,e h.1 h.2]
 ·rw[if_neg h]
theorem zFD(b:Good ds a)(c:Rng a x):0<=zP ds (nAt a x)/\zP ds (nAt a x)<=ds.length:=by
 unfold zP;split
 ·omega
 ·rename_i hk;have I:=b.inner c hk;have:=I.f0;have:=I.f1;omega
theorem zC7{σ:Type}{f:Int->σ->Int × σ}:∀(l:List Int)(st:σ),(zQ f l st).1.length =l.length
 |[],_=>rfl
 |v::l,st=>by simp[zQ,zC7 l]
theorem zHo(hl:zE3 ds)(J:Good ds a)(K:Good ds b){P:List (Int × Int)}(hP:Closed ds a b P):∀(k:Nat)(x y:Int)(st:ASt),(x,y)∈P->
  ds.length-(min (zP ds (nAt a x)) (zP ds (nAt b y))).toNat <k->zHU ds a b P st->(P.length<=4000\/(zAZ ds a b k x y st).2.all.length <=4000)->
  zHU ds a b P (zAZ ds a b k x y st).2/\For ds a b (zAZ ds a b k x y st).2.all x y (zAZ ds a b k x y st).1
 |0,_,_,_,_,h,_,_=>by omega
 |k+1,x,y,st,hxy,hk,g,m=>by
  have ah:=zHT ds a b (k+1) x y st;have F:=zP4 ah;obtain⟨H,U,Y⟩:=hP _ hxy;simp only at H U Y;have ax:=zFD J H;have ay:=zFD K U
  have au:st.all.length<=4000:=by
   rcases m with h|h
   ·exact Nat.le_trans (g.length_le hl) h
   ·exact Nat.le_trans F h
  unfold zAZ at m⊢
  cases R:kvI st.done (x,y)with
  |some r=>
   simp only[R]at m⊢;exact⟨g,g.done _ (zIS R)⟩
  |none=>
   simp only[R]at m⊢;by_cases A:min (zP ds (nAt a x)) (zP ds (nAt b y))=ds.length\/4000<st.all.length
   ·simp only[if_pos A]at m⊢
    have s:min (zP ds (nAt a x)) (zP ds (nAt b y))=ds.length:=by
     rcases A with h|h
     ·exact h
     ·omega
    have kx:(nAt a x).kids =[]:=by
     by_cases h:(nAt a x).kids =[]
     ·exact h
     ·have I:=J.inner H h;have:=I.f1;unfold zP at s;rw[if_neg h]at s;omega
    have ky:(nAt b y).kids =[]:=by
     by_cases h:(nAt b y).kids =[]
     ·exact h
     ·have I:=K.inner U h;have:=I.f1;unfold zP at s;rw[if_neg h]at s;omega
    obtain⟨M,O⟩:=zKI g.good (n:=⟨(nAt a x).leaf &&(nAt b y).leaf,0,[],[]⟩) (Or.inl ⟨rfl,rfl,rfl⟩);have aq:=zFt st.all ⟨(nAt a x).leaf &&(nAt b y).leaf,0,[],[]⟩
    have B:∀j,Rng (zo st.all ⟨(nAt a x).leaf &&(nAt b y).leaf,0,[],[]⟩).2 j->Rng st.all j\/j=(zo st.all ⟨(nAt a x).leaf &&(nAt b y).leaf,0,[],[]⟩).1:=by
     intro j d;unfold zo at d⊢;split at d
     ·exact Or.inl d
     ·rename_i hm;rw[if_neg hm];have V:=d.1;have u:=d.2;simp at u;by_cases e:j=(st.all.length:Nat)
      ·exact Or.inr e
      ·exact Or.inl ⟨V,by omega⟩
    generalize zo st.all ⟨(nAt a x).leaf &&(nAt b y).leaf,0,[],[]⟩=r at*;have hF:For ds a b r.2 x y r.1:=⟨M.rng,λc _=>by rw[M.good.S_leaf (by rw[O]),O,J.S_leaf kx,K.S_leaf ky],λh=>absurd (by rw[O]) h⟩;refine⟨⟨M.good,λp C=>(g.done p C).app g.good M.good M.pre,λj d=> ?_⟩,hF⟩;rcases B j d with h|h
    ·obtain⟨p,C,e⟩:=g.from_ j h;exact⟨p,C,λc W=>by rw[M.S_old g.good h];exact e c W⟩
    ·subst h;exact⟨_,hxy,hF.says⟩
   ·simp only[if_neg A]at m⊢;have hi:min (zP ds (nAt a x)) (zP ds (nAt b y))<ds.length:=by omega
    have af:∃rest,zAB ds (nAt a x) (nAt b y)=(fAt ds (min (zP ds (nAt a x)) (zP ds (nAt b y)))).lo ::rest/\zy (fAt ds (min (zP ds (nAt a x)) (zP ds (nAt b y)))).lo (fAt ds (min (zP ds (nAt a x)) (zP ds (nAt b y)))).hi rest/\
      ((nAt a x).kids ≠[]->(nAt a x).fact =min (zP ds (nAt a x)) (zP ds (nAt b y))->∀v∈(nAt a x).cuts,v∈rest)/\((nAt b y).kids ≠[]->(nAt b y).fact =min (zP ds (nAt a x)) (zP ds (nAt b y))->∀v∈(nAt b y).cuts,v∈rest):=by
     refine⟨_,rfl,zGR λv t=> ?_,λu N v t=> ?_,λu N v t=> ?_⟩
     ·rcases List.mem_append.1 t with t|t
      ·split at t
       ·rename_i e;rcases J.proper _ (zFC H)with h|h
        ·rw[h.2.2]at t;simp at t
        ·(have:zP ds (nAt a x)=(nAt a x).fact :=by unfold zP;rw[if_neg h.ne]);rw[<-e,this];exact zBJ h.asc v t
       ·simp at t
      ·split at t
       ·rename_i e;rcases K.proper _ (zFC U)with h|h
        ·rw[h.2.2]at t;simp at t
        ·(have:zP ds (nAt b y)=(nAt b y).fact :=by unfold zP;rw[if_neg h.ne]);rw[<-e,this];exact zBJ h.asc v t
       ·simp at t
     ·rw[zGQ,List.mem_append];left;rw[if_pos (by rw[<-N];unfold zP;rw[if_neg u])];exact t
     ·rw[zGQ,List.mem_append];right;rw[if_pos (by rw[<-N];unfold zP;rw[if_neg u])];exact t
    obtain⟨rest,al,w,ai,aj⟩:=af;(have ak:0<=min (zP ds (nAt a x)) (zP ds (nAt b y)):=by omega);(have aa:min (zP ds (nAt a x)) (zP ds (nAt b y))<=zP ds (nAt a x):=by omega);(have ab:min (zP ds (nAt a x)) (zP ds (nAt b y))<=zP ds (nAt b y):=by omega);generalize ar:min (zP ds (nAt a x)) (zP ds (nAt b y))=i at*
    have ac:∀(l:List Int)(st:ASt),zHU ds a b P st->(P.length<=4000\/(zQ (λv st=>zAZ ds a b k (zAG a x i v) (zAG b y i v) st) l st).2.all.length <=4000)->
      zHU ds a b P (zQ (λv st=>zAZ ds a b k (zAG a x i v) (zAG b y i v) st) l st).2/\
      ∀j,j<l.length->For ds a b (zQ (λv st=>zAZ ds a b k (zAG a x i v) (zAG b y i v) st) l st).2.all (zAG a x i (l.getD j 0)) (zAG b y i (l.getD j 0)) ((zQ (λv st=>zAZ ds a b k (zAG a x i v) (zAG b y i v) st) l st).1.getD j 0):=by
     intro l
     induction l with
     |nil=>intro st g _;exact⟨g,λj d=>absurd d (by simp)⟩
     |cons v l ih=>
      intro st g m;have sx:=zEE J (v:=v) H aa hi;have sy:=zEE K (v:=v) U ab hi;have ag:=zHn (f:=λv st=>zAZ ds a b k (zAG a x i v) (zAG b y i v) st) (λv st=>zHT ds a b k _ _ st) l (zAZ ds a b k (zAG a x i v) (zAG b y i v) st).2;have F:=zP4 ag;obtain⟨E,L⟩:=zHo hl J K hP k (zAG a x i v) (zAG b y i v) st (Y v) (by omega) g (m.imp id λh=>Nat.le_trans F h);obtain⟨A2,F2⟩:=ih _ E m;refine⟨A2,λj d=> ?_⟩
      cases j with
      |zero=>exact L.app E.good A2.good ag
      |succ j=>exact F2 j (by simpa using d)
    have ao:=zGS (zQ (λv st=>zAZ ds a b k (zAG a x i v) (zAG b y i v) st) (zAB ds (nAt a x) (nAt b y)) st).2.all i (zAB ds (nAt a x) (nAt b y)) (zQ (λv st=>zAZ ds a b k (zAG a x i v) (zAG b y i v) st) (zAB ds (nAt a x) (nAt b y)) st).1;obtain⟨E,L⟩:=ac (zAB ds (nAt a x) (nAt b y)) st g (m.imp id λh=>Nat.le_trans (zP4 ao) h);have G:=zC7 (f:=λv st=>zAZ ds a b k (zAG a x i v) (zAG b y i v) st) (zAB ds (nAt a x) (nAt b y)) st;rw[al]at E L G⊢;generalize zQ (λv st=>zAZ ds a b k (zAG a x i v) (zAG b y i v) st) ((fAt ds i).lo ::rest) st=r at*;obtain⟨kids,D⟩:=r;simp only at E L G⊢
    cases kids with
    |nil=>simp at G
    |cons k0 ks=>
     (have ad:rest.length=ks.length:=by simpa using G.symm);obtain⟨n,hn⟩:=Int.eq_ofNat_of_zero_le ak;subst hn;have hn:n<ds.length:=by omega
     have X:∀q∈k0::ks,∃j,j<((fAt ds (n:Int)).lo ::rest).length /\q=(k0::ks).getD j 0:=λq T=>by
      obtain⟨j,d,rfl⟩:=List.getElem_of_mem T;exact⟨j,by simp only[List.length_cons]at d⊢;omega,by rw[List.getD_eq_getElem?_getD,List.getElem?_eq_getElem d];rfl⟩
     have Q:fAt ds (n:Int)=ds.getD n zAY:=by unfold fAt;rw[Int.toNat_natCast]
     obtain⟨M,hS,ae⟩:=zM8 E.good hn ad (by rw[<-Q];exact w) (λq T=>by obtain⟨j,d,rfl⟩:=X q T;exact(L j d).rng) (λq T ap=>by
      obtain⟨j,d,rfl⟩:=X q T;have:=(L j d).low ap;have sx:=zEE J (v:=((fAt ds (n:Int)).lo ::rest).getD j 0) H aa hi;have sy:=zEE K (v:=((fAt ds (n:Int)).lo ::rest).getD j 0) U ab hi
      omega)
     rw[Q]
     have B:∀j,Rng (zAT D.all n ((ds.getD n zAY).lo ::rest) (k0::ks)).2 j->Rng D.all j\/j=(zAT D.all n ((ds.getD n zAY).lo ::rest) (k0::ks)).1:=by
      intro j d;unfold zAT zo at d⊢;split at d
      ·exact Or.inl d
      ·rename_i hm;rw[if_neg hm];split at d
       ·exact Or.inl d
       ·rename_i hm2;rw[if_neg hm2];have V:=d.1;have u:=d.2;simp at u;by_cases e:j=(D.all.length:Nat)
        ·exact Or.inr e
        ·exact Or.inl ⟨V,by omega⟩
     generalize zAT D.all n ((ds.getD n zAY).lo ::rest) (k0::ks)=o at*
     have hF:For ds a b o.2 x y o.1:=by
      refine⟨M.rng,λc W=> ?_,λh=> ?_⟩
      ·rw[hS c];have F:=zF8 rest (c.getD n 0);rw[(L (nx rest (c.getD n 0)) (by simp only[List.length_cons];omega)).says c W];have Z:=W.2 n hn
       have e:((fAt ds (n:Int)).lo ::rest).getD (nx rest (c.getD n 0)) 0=zh (fAt ds (n:Int)).lo rest (nx rest (c.getD n 0)):=by
        unfold zh;split
        ·rename_i V;rw[V];rfl
        ·rename_i V;obtain⟨q,T⟩:∃q,nx rest (c.getD n 0)=q+1:=⟨nx rest (c.getD n 0)-1,by omega⟩;rw[T];simp
       have s1:=zE9 (v:=c.getD n 0) w (by rw[Q];exact Z.1);(have s2:=λx H=>zFa (v:=c.getD n 0) (x:=x) w H);rw[e];rw[zTe J H c (by omega) (λu N=>zQe s1 λz hz=>s2 z (ai u N z hz)),zTe K U c (by omega) (λu N=>zQe s1 λz hz=>s2 z (aj u N z hz))]
      ·have:=ae h;omega
     refine⟨⟨M.good,λp C=> ?_,λj d=> ?_⟩,hF⟩
     ·rcases zFb C with C|C
      ·exact(E.done p C).app E.good M.good M.pre
      ·subst C;exact hF
     ·rcases B j d with h|h
      ·obtain⟨p,C,e⟩:=E.from_ j h;exact⟨p,C,λc W=>by rw[M.S_old E.good h];exact e c W⟩
      ·subst h;exact⟨_,hxy,hF.says⟩
end both
def zP5(l:List UInt8):Nat:=l.foldl (λa c=>a*10+(c.toNat-48)) 0
theorem zGT(h:d<10):(UInt8.ofNat (48+d)).toNat =48+d:=by
 show(48+d)%256=_;omega
theorem zJP(u:Nat):zP5 (Lib.decDigits u)=u:=by
 induction u using Nat.strongRecOn with
 | _ u ih=>
  rw[Lib.decDigits];by_cases h:u<10
  ·rw[dif_pos h];unfold zP5;rw[List.foldl_cons,List.foldl_nil,zGT h];omega
  ·rw[dif_neg h];have:=ih (u / 10) (by omega);unfold zP5 at this⊢;rw[List.foldl_append,this,List.foldl_cons,List.foldl_nil,zGT (by omega)];omega
def zAy(c:UInt8):Prop:=48<=c.toNat/\c.toNat<=57
theorem zCs(u:Nat):∀c∈Lib.decDigits u,zAy c:=by
 induction u using Nat.strongRecOn with
 | _ u ih=>
  intro c a;rw[Lib.decDigits]at a;by_cases h:u<10
  ·rw[dif_pos h]at a;rw[List.mem_singleton]at a;rw[a];unfold zAy;rw[zGT h];omega
  ·rw[dif_neg h]at a;rcases List.mem_append.1 a with a|a
   ·exact ih (u / 10) (by omega) c a
   ·rw[List.mem_singleton]at a;rw[a];unfold zAy;rw[zGT (by omega)];omega
theorem zJQ{u v:Nat}(h:Lib.decDigits u=Lib.decDigits v):u=v:=by
 rw[<-zJP u,h,zJP]
theorem zHV{m n:Int}(h:Lib.itoa m=Lib.itoa n):m=n:=by
 unfold Lib.itoa at h;by_cases b:m<0
 ·by_cases a:n<0
  ·rw[if_pos b,if_pos a]at h;injection h with _ h;have:=zJQ h;omega
  ·rw[if_pos b,if_neg a]at h;have:=zCs n.toNat 45 (by rw[<-h];simp);unfold zAy at this;simp at this
 ·by_cases a:n<0
  ·rw[if_neg b,if_pos a]at h;have:=zCs m.toNat 45 (by rw[h];simp);unfold zAy at this;simp at this
  ·rw[if_neg b,if_neg a]at h;have:=zJQ h;omega
theorem zST(n:Int):∀c∈Lib.itoa n,zAy c\/c=45:=λc a=>by
 unfold Lib.itoa at a;split at a
 ·rcases List.mem_cons.1 a with h|h
  ·exact Or.inr h
  ·exact Or.inl (zCs _ c h)
 ·exact Or.inl (zCs _ c a)
theorem zIT{n:Int}{s:UInt8}(a:¬zAy s)(b:s≠45):s∉Lib.itoa n:=λh=>by
 rcases zST n s h with h|h
 ·exact a h
 ·exact b h
theorem zEF{s:UInt8}:∀{A c B d:List UInt8},s∉A->s∉c->A++s::B=c++s::d->A=c/\B=d
 |[],[],_,_,_,_,h=>by injection h with _ h;exact⟨rfl,h⟩
 |[],a::c,_,_,_,h2,h=>by injection h with h _;exact absurd (by rw[h];simp) h2
 |a::A,[],_,_,h1,_,h=>by injection h with h _;exact absurd (by rw[<-h];simp) h1
 |a::A,b::c,_,_,h1,h2,h=>by
  injection h with h h';obtain⟨e,f⟩:=zEF (λh=>h1 (List.mem_cons_of_mem _ h)) (λh=>h2 (List.mem_cons_of_mem _ h)) h';exact⟨by rw[h,e],f⟩
theorem zKK{x i:UInt8}(k:¬zAy x)(f:¬zAy i):∀{A d B j:List UInt8},(∀c∈A,zAy c)->(∀c∈d,zAy c)->A++x::B=d++i::j->A=d/\x::B=i::j
 |[],[],_,_,_,_,h=>⟨rfl,h⟩
 |[],a::d,_,_,_,h2,h=>by injection h with h _;exact absurd (h2 a (by simp)) (h▸k)
 |a::A,[],_,_,h1,_,h=>by injection h with h _;exact absurd (h1 a (by simp)) (h▸f)
 |a::A,b::d,_,_,h1,h2,h=>by
  injection h with h h';obtain⟨e,m⟩:=zKK k f (λc g=>h1 c (List.mem_cons_of_mem _ g)) (λc g=>h2 c (List.mem_cons_of_mem _ g)) h';exact⟨by rw[h,e],m⟩
def zCG(l:List Int):List UInt8:=l.flatMap λk=>Lib.itoa k++[44]
theorem zEa(k:Int)(l:List Int):zCG (k::l)=Lib.itoa k++44::zCG l:=by unfold zCG;rw[List.flatMap_cons];simp
theorem zM9(l:List Int):(58:UInt8)∉zCG l:=λh=>by
 unfold zCG at h;obtain⟨k,_,a⟩:=List.mem_flatMap.1 h;rcases List.mem_append.1 a with a|a
 ·exact zIT (by unfold zAy;decide) (by decide) a
 ·simp at a
theorem zKL:∀{l m:List Int},zCG l=zCG m->l=m
 |[],[],_=>rfl
 |[],k::m,h=>by rw[zEa]at h;have:=congrArg List.length h;simp[zCG]at this
 |k::l,[],h=>by rw[zEa]at h;have:=congrArg List.length h;simp[zCG]at this
 |k::l,k'::m,h=>by
  rw[zEa,zEa]at h;have a:∀n,(44:UInt8)∉Lib.itoa n:=λn=>zIT (by unfold zAy;decide) (by decide)
  obtain⟨e,b⟩:=zEF (a k) (a k') h;rw[zHV e,zKL b]
def zEG(n:zB):List UInt8:=(if n.leaf=true then 49 else 48)::(Lib.itoa n.fact++58::(zCG n.cuts++58::zCG n.kids))
theorem zSU{m n:zB}(h:zEG m=zEG n):m=n:=by
 obtain⟨a,b,c,d⟩:=m;obtain⟨e,g,i,q⟩:=n;unfold zEG at h;injection h with h1 h;simp only at h h1;have f:∀n,(58:UInt8)∉Lib.itoa n:=λn=>zIT (by unfold zAy;decide) (by decide)
 obtain⟨j,h⟩:=zEF (f b) (f g) h;obtain⟨k,h⟩:=zEF (zM9 c) (zM9 i) h;have o:a=e:=by cases a<;>cases e<;>simp_all
 rw[zHV j,zKL k,zKL h,o]
mutual
def zAs:Fm->List UInt8
 | .mk op nm cm nu kids=>Lib.itoa op++nm.data.toList++44::(Lib.itoa cm++44::(Lib.itoa nu++40::(zAM kids++[41])))
def zAM:List Fm->List UInt8
 |[]=>[]
 |k::r=>zAs k++zAM r
end
mutual
def zDJ:Fm->Bool
 | .mk op nm _ _ kids=>decide (1<=op)&&decide (op<=6)&&(if op=3 then zBZ nm.data.toList else decide (nm=⟨#[]⟩))&&zD1 kids
def zD1:List Fm->Bool
 |[]=>true
 |k::r=>zDJ k&&zD1 r
end
theorem zGt(a:1<=op)(b:op<=6):Lib.itoa op=[UInt8.ofNat (48+op.toNat)]:=by
 unfold Lib.itoa;rw[if_neg (by omega),Lib.decDigits,dif_pos (by omega)]
theorem zHW(a:1<=op)(b:op<=6):(UInt8.ofNat (48+op.toNat)).toNat =48+op.toNat:=zGT (by omega)
theorem zVi{op a:Int}(d:1<=op)(e:op<=6)(b:1<=a)(c:a<=6)(h:UInt8.ofNat (48+op.toNat)=UInt8.ofNat (48+a.toNat)):op=a:=by
 have:=congrArg UInt8.toNat h;rw[zHW d e,zHW b c]at this;omega
def zVj(l:List UInt8):Prop:=(44:UInt8)∉l/\∀r,∃x B,¬zAy x/\l++44::r=x::B
theorem zHp{nm:ByteArray}(h:(if op=3 then zBZ nm.data.toList else decide (nm=⟨#[]⟩))=true):zVj nm.data.toList:=by
 split at h
 ·generalize nm.data.toList=l at*
  cases l with
  |nil=>simp[zBZ]at h
  |cons c r=>
   unfold zBZ at h;simp only[Bool.and_eq_true,List.all_eq_true]at h;obtain⟨⟨b,f⟩,_⟩:=h
   have a:zBg c=true->c≠44/\¬zAy c:=λh=>by
    unfold zBg at h;simp only[Bool.or_eq_true,decide_eq_true_eq]at h;refine⟨λe=> ?_,λe=> ?_⟩
    ·subst e;simp at h
    ·unfold zAy at e;omega
   refine⟨λd=> ?_,λg=>⟨c,r++44::g,(a b).2,rfl⟩⟩;rcases List.mem_cons.1 d with e|e
   ·exact(a b).1 e.symm
   ·have:=f _ e;revert this;decide
 ·have e:nm.data.toList=[]:=by rw[decide_eq_true_eq]at h;rw[h]
  rw[e];exact⟨by simp,λr=>⟨44,r,by unfold zAy;decide,rfl⟩⟩
theorem zUd{a b:ByteArray}(h:a.data.toList=b.data.toList):a=b:=by
 cases a;cases b;simp only at h;congr 1;exact Array.toList_inj.1 h
mutual
theorem zMa:∀{f g:Fm}{r r':List UInt8},zDJ f=true->zDJ g=true->zAs f++r=zAs g++r'->f=g/\r=r'
 | .mk op nm cm nu kids,.mk op' nm' cm' nu' kids',r,r',h1,h2,h=>by
  rw[zDJ]at h1 h2;simp only[Bool.and_eq_true,decide_eq_true_eq]at h1 h2;obtain⟨⟨⟨b,c⟩,j⟩,k⟩:=h1;obtain⟨⟨⟨d,e⟩,m⟩,o⟩:=h2;rw[zAs,zAs,zGt b c,zGt d e]at h;simp only[List.cons_append,List.nil_append,List.append_assoc]at h;injection h with h0 h;have v:=(zHp j).1;have w:=(zHp m).1;have i:∀n,(44:UInt8)∉Lib.itoa n:=λn=>zIT (by unfold zAy;decide) (by decide)
  have a:∀n,(40:UInt8)∉Lib.itoa n:=λn=>zIT (by unfold zAy;decide) (by decide)
  obtain⟨q,h⟩:=zEF v w h;obtain⟨s,h⟩:=zEF (i cm) (i cm') h;obtain⟨t,h⟩:=zEF (a nu) (a nu') h;obtain⟨u,h⟩:=zLA k o h;exact⟨by rw[zVi b c d e h0,zUd q,zHV s,zHV t,u],h⟩
theorem zLA:∀{l m:List Fm}{r r':List UInt8},zD1 l=true->zD1 m=true->zAM l++41::r=zAM m++41::r'->l=m/\r=r'
 |[],[],_,_,_,_,h=>by simp[zAM]at h;exact⟨rfl,h⟩
 |[],.mk op nm cm nu kids::m,r,r',_,h2,h=>by
  rw[zD1,zDJ]at h2;simp only[Bool.and_eq_true,decide_eq_true_eq]at h2;rw[zAM,zAM,zAs,zGt h2.1.1.1.1 h2.1.1.1.2]at h;simp only[List.cons_append,List.nil_append]at h;injection h with h _;have:=congrArg UInt8.toNat h;rw[zHW h2.1.1.1.1 h2.1.1.1.2]at this;simp at this;omega
 | .mk op nm cm nu kids::l,[],r,r',h1,_,h=>by
  rw[zD1,zDJ]at h1;simp only[Bool.and_eq_true,decide_eq_true_eq]at h1;rw[zAM,zAM,zAs,zGt h1.1.1.1.1 h1.1.1.1.2]at h;simp only[List.cons_append,List.nil_append]at h;injection h with h _;have:=congrArg UInt8.toNat h;rw[zHW h1.1.1.1.1 h1.1.1.1.2]at this;simp at this;omega
 |f::l,g::m,r,r',h1,h2,h=>by
  rw[zD1]at h1 h2;simp only[Bool.and_eq_true]at h1 h2;rw[zAM,zAM,List.append_assoc,List.append_assoc]at h;obtain⟨e,h⟩:=zMa h1.1 h2.1 h;obtain⟨a,h⟩:=zLA h1.2 h2.2 h;exact⟨by rw[e,a],h⟩
end
def zCe(i:Nat)(f:Fm):List UInt8:=Lib.itoa i++zAs f
theorem zUe{i j:Nat}{f g:Fm}(d:zDJ f=true)(q:zDJ g=true)(h:zCe i f=zCe j g):i=j/\f=g:=by
 obtain⟨op,V,H,O,kids⟩:=f;obtain⟨m,N,s,w,b⟩:=g;have P:=d;have Q:=q;rw[zDJ]at d q;simp only[Bool.and_eq_true,decide_eq_true_eq]at d q;obtain⟨⟨⟨y,z⟩,F⟩,T⟩:=d;obtain⟨⟨⟨A,C⟩,G⟩,U⟩:=q
 have hi:∀n:Nat,∀c∈Lib.itoa (n:Int),zAy c:=λn c a=>by
  unfold Lib.itoa at a;rw[if_neg (by omega)]at a;exact zCs _ c a
 have k:=h;unfold zCe at k;unfold zCe at h;rw[zAs,zAs,zGt y z,zGt A C]at h;obtain⟨x,B,M,J⟩:=(zHp F).2 (Lib.itoa H++44::(Lib.itoa O++40::(zAM kids++[41])));obtain⟨R,E,v,u⟩:=(zHp G).2 (Lib.itoa s++44::(Lib.itoa w++40::(zAM b++[41])))
 have K:(Lib.itoa (i:Int)++[UInt8.ofNat (48+op.toNat)])++x::B=(Lib.itoa (j:Int)++[UInt8.ofNat (48+m.toNat)])++R::E:=by
  rw[<-J,<-u];simpa using h
 have D:∀(n:Nat)(o:Int),1<=o->o<=6->∀c∈Lib.itoa (n:Int)++[UInt8.ofNat (48+o.toNat)],zAy c:=λn o d L c a=>by
  rcases List.mem_append.1 a with a|a
  ·exact hi n c a
  ·rw[List.mem_singleton]at a;rw[a];unfold zAy;rw[zHW d L];omega
 obtain⟨e,_⟩:=zKK M v (D i op y z) (D j m A C) K;have I:=(List.append_inj' e rfl).1;have t:i=j:=by have:=zHV I;omega
 subst t;have:=List.append_cancel_left k;exact⟨rfl,(zMa (r:=[]) (r':=[]) P Q (by simpa using this)).1⟩
def zG3(lo hi:Int):List Int->Bool
 |[]=>true
 |c::r=>decide (lo<c)&&decide (c<=hi)&&zG3 c hi r
theorem zP6:∀{l:List Int}{lo hi:Int},zG3 lo hi l=true↔zy lo hi l
 |[],_,_=>by simp[zG3,zy]
 |c::r,lo,hi=>by simp only[zG3,zy,Bool.and_eq_true,decide_eq_true_eq,zP6,and_assoc]
def zEW(g:List zB)(f:Int):List Int->Bool
 |[]=>true
 |k::r=>(decide (0<=k)&&decide (k<g.length)&&(decide ((nAt g k).kids =[])||decide (f<(nAt g k).fact)))&&(match r with|[]=>true|k'::_=>decide (k≠k'))&&zEW g f r
def zAV(ds:List zC)(g:List zB)(n:zB):Bool:=
 if n.kids=[]then decide (n.fact=0)&&decide (n.cuts=[])
 else !n.leaf&&decide (0<=n.fact)&&decide (n.fact<ds.length)&&decide (n.cuts≠[])&&decide (n.kids.length=n.cuts.length+1)&&zG3 (fAt ds n.fact).lo (fAt ds n.fact).hi n.cuts&&zEW g n.fact n.kids
theorem zNy{g:List zB}{f:Int}:∀{l:List Int},zEW g f l=true↔(∀k∈l,Rng g k)/\(∀k∈l,(nAt g k).kids ≠[]->f<(nAt g k).fact)/\∀j,j+1<l.length->l.getD j 0≠l.getD (j+1) 0
 |[]=>by simp[zEW]
 |k::r=>by
  have ih:=zNy (g:=g) (f:=f) (l:=r);unfold zEW;simp only[Bool.and_eq_true,decide_eq_true_eq,Bool.or_eq_true,ih];constructor
  ·rintro⟨⟨⟨⟨h0,h1⟩,b⟩,h3⟩,h4,h5,h6⟩;refine⟨λx a=> ?_,λx a c=> ?_,λj d=> ?_⟩
   ·rcases List.mem_cons.1 a with rfl|a
    ·exact⟨h0,h1⟩
    ·exact h4 x a
   ·rcases List.mem_cons.1 a with rfl|a
    ·rcases b with b|b
     ·exact absurd b c
     ·exact b
    ·exact h5 x a c
   ·cases j with
    |zero=>
     cases r with
     |nil=>simp at d
     |cons k' r=>simpa using h3
    |succ j=>simpa using h6 j (by simpa using d)
  ·rintro⟨h1,b,h3⟩;refine⟨⟨⟨⟨(h1 k (by simp)).1,(h1 k (by simp)).2⟩,?_⟩,?_⟩,λx a=>h1 x (by simp[a]),λx a=>b x (by simp[a]),λj d=> ?_⟩
   ·by_cases e:(nAt g k).kids =[]
    ·exact Or.inl e
    ·exact Or.inr (b k (by simp) e)
   ·cases r with
    |nil=>rfl
    |cons k' r=>have:=h3 0 (by simp);simpa using this
   ·have:=h3 (j+1) (by simpa using d);simpa using this
theorem zLB:zAV ds g n=true↔zGO ds g n:=by
 unfold zAV;by_cases h:n.kids=[]
 ·rw[if_pos h];simp only[Bool.and_eq_true,decide_eq_true_eq]
  exact⟨λe=>Or.inl ⟨h,e.1,e.2⟩,λe=>by
   rcases e with e|e
   ·exact e.2
   ·exact absurd h e.ne⟩
 ·rw[if_neg h];simp only[Bool.and_eq_true,decide_eq_true_eq,Bool.not_eq_true',zP6,zNy];constructor
  ·rintro⟨⟨⟨⟨⟨⟨h1,h2⟩,h3⟩,h4⟩,h5⟩,h6⟩,h7,h8,h9⟩;exact Or.inr ⟨h,h1,h2,h3,h4,h5,h6,h7,h8,h9⟩
  ·rintro(e|e)
   ·exact absurd e.1 h
   ·exact⟨⟨⟨⟨⟨⟨e.leaf,e.f0⟩,e.f1⟩,e.cuts⟩,e.len⟩,e.asc⟩,e.rng,e.up,e.diff⟩
def zB3(ds:List zC)(g:List zB):Bool:=
 zN ds&&decide (g≠[])&&decide (g.length<=4000)&&g.all (zAV ds g)&&decide g.Nodup&&decide (zA8 ds g 0=g)
structure zT (ds:List zC) (g:List zB):Prop where
 dom:zN ds=true
 ne:g≠[]
 len:g.length<=4000
 good:Good ds g
 canon:zA8 ds g 0=g
theorem zCH:zB3 ds g=true↔zT ds g:=by
 unfold zB3;simp only[Bool.and_eq_true,decide_eq_true_eq,List.all_eq_true,zLB];constructor
 ·rintro⟨⟨⟨⟨⟨h1,h2⟩,h3⟩,h4⟩,h5⟩,h6⟩;exact⟨h1,h2,h3,⟨h4,h5⟩,h6⟩
 ·rintro⟨h1,h2,h3,⟨h4,h5⟩,h6⟩;exact⟨⟨⟨⟨⟨h1,h2⟩,h3⟩,h4⟩,h5⟩,h6⟩
theorem zFE(h:zN ds=true):zE3 ds:=λj a=>by
 unfold zN at h;simp only[Bool.and_eq_true,List.all_eq_true]at h;have:=h.1.1 (ds.getD j zAY) (by rw[List.getD_eq_getElem?_getD,List.getElem?_eq_getElem a];exact List.getElem_mem a);unfold zCQ at this;simp only[Bool.and_eq_true,Bool.or_eq_true,beq_iff_eq,decide_eq_true_eq]at this;omega
theorem zT.rng(h:zT ds g):Rng g 0:=⟨Int.le_refl _,by have:=List.length_pos_iff.2 h.ne;omega⟩
theorem zT.eq{a b:List zB}(c:zT ds a)(d:zT ds b)(h:EqS ds a b 0 0):a=b:=by
 rw[<-c.canon,<-d.canon];exact zP0 (zFE c.dom) c.good d.good c.rng d.rng h
theorem zLC(b:zN ds=true)(h:Good ds g)(hi:Rng g i)(a:(zA8 ds g i).length <=4000):zT ds (zA8 ds g i):=
 ⟨b,by intro e;have:=(zNx h hi).2;rw[e]at this;simp at this,a,zM7 h hi,zQS (zFE b) h hi⟩
theorem zHX(h:fits ds c=true):Fit ds c:=by
 unfold fits at h;simp only[Bool.and_eq_true,decide_eq_true_eq,List.all_eq_true]at h;refine⟨h.1.2,λj b=> ?_⟩;have a:j<c.length:=by omega
 have:=h.2 (ds[j],c[j]) (by
  have d:(ds.zip c)[j]'(by simp;omega)=(ds[j],c[j]):=List.getElem_zip
  rw[<-d];exact List.getElem_mem _)
 unfold inR at this;simp only[Bool.and_eq_true,decide_eq_true_eq]at this;simpa[List.getD_eq_getElem?_getD,List.getElem?_eq_getElem b,List.getElem?_eq_getElem a]using this
theorem zQf(d:zN ds=true)(h:Fit ds c):fits ds c=true:=
 zOt d h.1 λj a b _=>by
  have:=h.2 j a;unfold inR;simp only[Bool.and_eq_true,decide_eq_true_eq];simpa[List.getD_eq_getElem?_getD,List.getElem?_eq_getElem a,List.getElem?_eq_getElem b]using this
def nxL(n:zB)(v:Int):Int:=if nx n.cuts v<n.cuts.length then(nx n.cuts v:Nat)else(n.kids.length:Int)-1
theorem zDu.nxL(h:zDu ds g n)(v:Int):nxL n v=(nx n.cuts v:Nat):=by
 unfold Go.Proofs.YthpocbeoanipbaaGreatDoor.nxL;have:=zF8 n.cuts v;have:=h.len;split<;>omega
theorem zNz{α:Type}{p q:α->Bool}(b:∀x,p x=true->q x=true):∀{l:List α}{x:α},x∈l->q x=true->p x=false->l.countP p+1<=l.countP q
 |a::l,x,c,hq,hp=>by
  rw[List.countP_cons,List.countP_cons];have d:l.countP p<=l.countP q:=List.countP_mono_left λx _ h=>b x h
  rcases List.mem_cons.1 c with rfl|c
  ·rw[hq,hp];simp;omega
  ·have:=zNz b c hq hp;by_cases h:p a=true
   ·rw[h,b a h];simp;omega
   ·rw[if_neg h];omega
section holds
variable {ds:List zC} {g:List zB}
def zUo(ds:List zC)(n:zB):Nat:=if n.kids=[]then 0 else ds.length-n.fact.toNat
def cnt(ds:List zC)(g:List zB)(r:Nat):Nat:=g.countP λn=>decide (zUo ds n<=r)
theorem cnt_lt(hi:Rng g i)(h:zCP ds g k<zCP ds g i):cnt ds g (zCP ds g k)+1<=cnt ds g (zCP ds g i):=
 zNz (λn a=>by simp only[decide_eq_true_eq]at a⊢;omega) (zFC hi) (by simp[zCP,zUo]) (by simp only[decide_eq_false_iff_not,Nat.not_le];exact h)
def live(g:List zB)(k:Int):Bool:=decide ((nAt g k).kids ≠[])||(nAt g k).leaf
def zCR(g:List zB):Nat->Int->List Int->Int × List Int
 |0,i,c=>(i,c)
 |k+1,i,c=>
  if(nAt g i).kids =[]then(i,c)
  else zCR g k ((nAt g i).kids.getD ((nAt g i).kids.findIdx (live g)) 0)
   (if 0<(nAt g i).kids.findIdx (live g)then c.set (nAt g i).fact.toNat ((nAt g i).cuts.getD ((nAt g i).kids.findIdx (live g)-1) 0)else c)
def zBC(ds:List zC)(g:List zB):Option (List Int):=
 if zB3 ds g=true then(if(nAt g (zCR g (ds.length+1) 0 (zBj ds)).1).leaf =true then some (zCR g (ds.length+1) 0 (zBj ds)).2 else none)else none
theorem Good.some_live(o:zE3 ds)(h:Good ds g)(hi:Rng g i)(c:(nAt g i).kids ≠[]):(nAt g i).kids.findIdx (live g)<(nAt g i).kids.length :=by
 have I:=h.inner hi c;refine List.findIdx_lt_length_of_exists ?_;have j:=I.len;have s:1<=(nAt g i).cuts.length :=by have:=I.cuts;cases q:(nAt g i).cuts with|nil=>exact absurd q this|cons=>simp
 have d:(nAt g i).kids.getD 0 0∈(nAt g i).kids :=zBU (by omega);have f:(nAt g i).kids.getD 1 0∈(nAt g i).kids :=zBU (by omega);by_cases m:live g ((nAt g i).kids.getD 0 0)=true
 ·exact⟨_,d,m⟩
 ·by_cases n:live g ((nAt g i).kids.getD 1 0)=true
  ·exact⟨_,f,n⟩
  ·exfalso;have t:=I.diff 0 (by omega)
   have a:∀k,Rng g k->¬live g k=true->nAt g k=zBN:=λk c b=>by
    unfold live at b;simp only[Bool.or_eq_true,decide_eq_true_eq,not_or,Decidable.not_not]at b;rcases h.proper _ (zFC c)with e|e
    ·exact zB.ext' (by rw[show zBN.leaf=false from rfl];simpa using b.2) e.2.1 e.2.2 e.1
    ·exact absurd b.1 e.ne
   exact t (zL4 h.nodup (I.rng _ d) (I.rng _ f) (by rw[a _ (I.rng _ d) m,a _ (I.rng _ f) n]))
def zMb(a b:List Int):Prop:=∃j,j<a.length/\j<b.length/\(∀i,i<j->a.getD i 0=b.getD i 0)/\a.getD j 0<b.getD j 0
theorem zTf(h:Good ds g)(a:live g i=false)(c:List Int):S ds g i c=false:=by
 unfold live at a;simp only[Bool.or_eq_false_iff,decide_eq_false_iff_not,Decidable.not_not]at a;rw[h.S_leaf a.1];exact a.2
theorem zID(U:zE3 ds)(h:Good ds g):∀(k:Nat)(i:Int)(c:List Int)(lo:Nat),Rng g i->zCP ds g i<k->live g i=true->Fit ds c->((nAt g i).kids ≠[]->(lo:Int)<=(nAt g i).fact)->
  (∀j,lo<=j->j<ds.length->c.getD j 0=(ds.getD j zAY).lo)->
  (nAt g (zCR g k i c).1).leaf =true/\Fit ds (zCR g k i c).2/\S ds g i (zCR g k i c).2=true/\(∀j,j<lo->(zCR g k i c).2.getD j 0=c.getD j 0)/\
  ((nAt g i).kids ≠[]->∀j:Nat,(j:Int)<(nAt g i).fact ->(zCR g k i c).2.getD j 0=c.getD j 0)/\
  ∀m,Fit ds m->(∀j,j<lo->m.getD j 0=c.getD j 0)->S ds g i m=true->¬zMb m (zCR g k i c).2
 |0,_,_,_,_,hr,_,_,_,_=>by omega
 |k+1,i,c,lo,hi,hr,hlv,hc,hlo,hcl=>by
  unfold zCR;by_cases n:(nAt g i).kids =[]
  ·rw[if_pos n];(have D:(nAt g i).leaf =true:=by unfold live at hlv;simpa[n]using hlv);refine⟨D,hc,by rw[h.S_leaf n];exact D,λj _=>rfl,λj f=>absurd n j,λm hc' hag hs ⟨j,h1,h2,h3,h4⟩=> ?_⟩;rcases Nat.lt_or_ge j lo with f|f
   ·have:=hag j f;simp only at h4;omega
   ·(have d:j<ds.length:=by rw[hc'.1]at h1;exact h1);have:=(hc'.2 j d).1;have:=hcl j f d;simp only at h4;omega
  ·rw[if_neg n];have I:=h.inner hi n;have ab:=hlo n;have f0:=I.f0;have f1:=I.f1;have B:=h.some_live U hi n;(have s:(nAt g i).fact.toNat <ds.length:=by omega);have C:=zBU B
   have T:live g ((nAt g i).kids.getD ((nAt g i).kids.findIdx (live g)) 0)=true:=by
    rw[List.getD_eq_getElem?_getD,List.getElem?_eq_getElem B];exact List.findIdx_getElem
   have o:∀j,j<(nAt g i).kids.findIdx (live g)->live g ((nAt g i).kids.getD j 0)=false:=λj f=>by
    (have w:j<(nAt g i).kids.length :=by omega);rw[List.getD_eq_getElem?_getD,List.getElem?_eq_getElem w];have:=List.not_of_lt_findIdx f;simpa using this
   have aa:=I.len;generalize hx:(nAt g i).kids.findIdx (live g)=x at*;have V:=h.rank_kid hi C
   have J:(if 0<x then c.set (nAt g i).fact.toNat ((nAt g i).cuts.getD (x-1) 0)else c)=c.set (nAt g i).fact.toNat (zh (fAt ds (nAt g i).fact).lo (nAt g i).cuts x):=by
    unfold zh;by_cases Z:x=0
    ·rw[if_neg (by omega),if_pos Z];have e:=hcl (nAt g i).fact.toNat (by omega) s;(have E:(nAt g i).fact.toNat <c.length:=by rw[hc.1];exact s);apply zG1 (by simp);intro j f;rw[zED];split
     ·rename_i hh;rw[<-hh.1,e];rfl
     ·rfl
    ·rw[if_pos (by omega),if_neg Z]
   rw[J];have K:=h.start_fit U hi n (j:=x) (by omega);have Q:=hc.set_ (j:=(nAt g i).fact.toNat) K.1 K.2;have W:=I.up _ C;generalize H:zh (fAt ds (nAt g i).fact).lo (nAt g i).cuts x=q at*;(have G:nx (nAt g i).cuts q=x:=by rw[<-H];exact zFr I.asc (by omega));have u:(nAt g i).fact.toNat <c.length:=by rw[hc.1];exact s
   obtain⟨a1,a2,a3,M,a5,a6⟩:=zID U h k ((nAt g i).kids.getD x 0) (c.set (nAt g i).fact.toNat q) ((nAt g i).fact.toNat +1) V.1 (by omega) T Q (λR=>by have:=W R;omega) (λj f d=>by
    rw[zED,if_neg (by omega)]
    exact hcl j (by omega) d)
   generalize zCR g k ((nAt g i).kids.getD x 0) (c.set (nAt g i).fact.toNat q)=r at*
   have A:r.2.getD (nAt g i).fact.toNat 0=q:=by
    rw[M _ (by omega),zED,if_pos ⟨rfl,u⟩]
   have t:∀j,j<(nAt g i).fact.toNat ->r.2.getD j 0=c.getD j 0:=λj f=>by
    rw[M j (by omega),zED,if_neg (by omega)]
   refine⟨a1,a2,?_,λj f=>t j (by omega),λ_ j f=>t j (by omega),λm hc' hag hs ⟨j,h1,h2,h3,h4⟩=> ?_⟩
   ·rw[h.S_inner hi n,A,G];exact a3
   ·(have d:j<ds.length:=by rw[hc'.1]at h1;exact h1);rcases Nat.lt_trichotomy j (nAt g i).fact.toNat with f|f|f
    ·have e:=t j f;rcases Nat.lt_or_ge j lo with z|z
     ·have:=hag j z;omega
     ·have:=(hc'.2 j d).1;have:=hcl j z d;omega
    ·subst f;rw[A]at h4;rw[h.S_inner hi n]at hs
     have E:nx (nAt g i).cuts (m.getD (nAt g i).fact.toNat 0)<x:=by
      rcases Nat.lt_or_ge (nx (nAt g i).cuts (m.getD (nAt g i).fact.toNat 0)) x with N|N
      ·exact N
      ·exfalso
       have X:x≠0:=λe=>by
        have:=(hc'.2 _ d).1;rw[e]at H;unfold zh fAt at H;simp only[if_true]at H;omega
       have F:q∈(nAt g i).cuts :=by
        rw[<-H];unfold zh;rw[if_neg X];exact zBU (by omega)
       have s1:=zFa (v:=m.getD (nAt g i).fact.toNat 0) I.asc F;have s2:=zE9 (v:=m.getD (nAt g i).fact.toNat 0) I.asc (hc'.2 _ d).1;have s3:zh (fAt ds (nAt g i).fact).lo (nAt g i).cuts (nx (nAt g i).cuts (m.getD (nAt g i).fact.toNat 0))<q:=by omega
       have L:∀(l:List Int)(lo hi:Int)(a b:Nat),zy lo hi l->a<=b->b<=l.length->zh lo l a<=zh lo l b:=by
        intro l
        induction l with
        |nil=>
         intro lo hi a b _ O P;simp at P;(have:a=b:=by omega);subst this;exact Int.le_refl _
        |cons y l ih=>
         intro lo hi a b ha O P
         cases a with
         |zero=>
          unfold zh;rw[if_pos rfl];split
          ·exact Int.le_refl _
          ·exact Int.le_of_lt (zBJ ha _ (zBU (by omega))).1
         |succ a=>
          obtain⟨b,rfl⟩:∃b',b=b'+1:=⟨b-1,by omega⟩
          have e:∀j,zh lo (y::l) (j+1)=zh y l j:=λj=>by
           unfold zh
           cases j with
           |zero=>simp
           |succ j=>simp
          rw[e,e];exact ih y hi a b ha.2.2 (by omega) (by simpa using P)
       have:=L _ _ _ x _ I.asc N (zF8 _ _);omega
     rw[zTf h (o _ E)]at hs;exact absurd hs (by simp)
    ·have Y:=h3 _ f;rw[A]at Y;rw[h.S_inner hi n,Y,G]at hs;refine a6 m hc' (λj' w=> ?_) hs ⟨j,h1,h2,h3,h4⟩;rw[h3 j' (by omega),M j' w]
theorem zLD{ds:List zC}(a:zN ds=true)(j:Nat)(b:j<ds.length):(zBj ds).getD j 0=(ds.getD j zAY).lo :=by
 rw[zDl a];simp[List.getD_eq_getElem?_getD,List.getElem?_eq_getElem b]
theorem zGC{p:List Int}(h:zBC ds g=some p):zT ds g/\Fit ds p/\S ds g 0 p=true/\∀c,Fit ds c->S ds g 0 c=true->¬zMb c p:=by
 unfold zBC at h;by_cases d:zB3 ds g=true
 ·rw[if_pos d]at h;have V:=zCH.1 d;have e:=zFE V.dom;have o:Fit ds (zBj ds):=by rw[zDl V.dom];exact e.least
  by_cases a:live g 0=true
  ·obtain⟨f,i,k,_,_,m⟩:=zID e V.good (ds.length+1) 0 (zBj ds) 0 V.rng (by have:=zDo (ds:=ds) (g:=g) 0;omega) a o (λq=>(V.good.inner V.rng q).f0) (λj _ b=>zLD V.dom j b);rw[if_pos f]at h;injection h with h;subst h;exact⟨V,i,k,λc n s=>m c n (λj b=>absurd b (by omega)) s⟩
  ·exfalso;unfold live at a;simp only[Bool.or_eq_true,decide_eq_true_eq,not_or,Decidable.not_not]at a;unfold zCR at h;rw[if_pos a.1,if_neg a.2]at h;cases h
 ·rw[if_neg d]at h;cases h
theorem zIE(a:zT ds g)(h:zBC ds g=none):(∀c,S ds g 0 c=false)/\live g 0=false:=by
 unfold zBC at h;rw[if_pos (zCH.2 a)]at h;have e:=zFE a.dom;have i:Fit ds (zBj ds):=by rw[zDl a.dom];exact e.least
 by_cases d:live g 0=true
 ·exfalso;obtain⟨f,_⟩:=zID e a.good (ds.length+1) 0 (zBj ds) 0 a.rng (by have:=zDo (ds:=ds) (g:=g) 0;omega) d i (λm=>(a.good.inner a.rng m).f0) (λj _ k=>zLD a.dom j k);rw[if_pos f]at h;cases h
 ·have b:live g 0=false:=by simpa using d
  exact⟨λc=>zTf a.good b c,b⟩
end holds
def zCx(n:zB):zB:=if n.kids=[]then⟨!n.leaf,n.fact,n.cuts,n.kids⟩else n
def zAC(g:List zB):List zB:=g.map zCx
theorem zFF(n:zB):(zCx n).kids =n.kids/\(zCx n).cuts =n.cuts/\(zCx n).fact =n.fact:=by unfold zCx;split<;>simp
theorem zOA(n:zB):zCx (zCx n)=n:=by
 unfold zCx;by_cases h:n.kids=[]
 ·simp only[if_pos h,Bool.not_not]
 ·simp only[if_neg h]
section not_
variable {ds:List zC} {g:List zB}
theorem zP7:Rng (zAC g) i↔Rng g i:=by unfold Rng zAC;rw[List.length_map]
theorem zNH(h:Rng g i):nAt (zAC g) i=zCx (nAt g i):=by
 obtain⟨n,rfl⟩:=Int.eq_ofNat_of_zero_le h.1;have a:n<g.length:=by have:=h.2;omega
 rw[zBs a,zBs (by unfold zAC;simpa using a)];unfold zAC;rw[List.getElem_map]
theorem zKM(h:Good ds g):Good ds (zAC g):=by
 constructor
 ·intro n f;obtain⟨m,d,rfl⟩:=List.mem_map.1 f;obtain⟨i,j,o⟩:=zFF m;rcases h.proper m d with e|I
  ·exact Or.inl ⟨by rw[i];exact e.1,by rw[o];exact e.2.1,by rw[j];exact e.2.2⟩
  ·(have e:zCx m=m:=by unfold zCx;rw[if_neg I.ne]);rw[e];refine Or.inr ⟨I.ne,I.leaf,I.f0,I.f1,I.cuts,I.len,I.asc,λk c=>zP7.2 (I.rng k c),λk c=> ?_,I.diff⟩;rw[zNH (I.rng k c),(zFF _).1,(zFF _).2.2];exact I.up k c
 ·show List.Pairwise (· ≠ ·) _;unfold zAC;rw[List.pairwise_map];refine List.Pairwise.imp (λ{a b} hne e=>hne ?_) h.nodup;rw[<-zOA a,e,zOA]
theorem zTg(h:Good ds g):∀(r:Nat)(i:Int),Rng g i->zCP ds g i<=r->∀c,S ds (zAC g) i c= !S ds g i c
 |r,i,hi,hr,c=>by
  have a:=zNH hi;by_cases b:(nAt g i).kids =[]
  ·rw[h.S_leaf b,(zKM h).S_leaf (by rw[a,(zFF _).1];exact b),a];unfold zCx;rw[if_pos b]
  ·have I:=h.inner hi b;have f:=I.kid_rng (c.getD (nAt g i).fact.toNat 0);have d:=h.rank_kid hi f;(have e:zCx (nAt g i)=nAt g i:=by unfold zCx;rw[if_neg b]);rw[h.S_inner hi b,(zKM h).S_inner (zP7.2 hi) (by rw[a,e];exact b),a,e]
   cases r with
   |zero=>omega
   |succ r=>exact zTg h r _ d.1 (by omega) c
theorem zMc:∀(k:Nat)(i:Int)(o:List Int),(∀j,(nAt (zAC g) j).kids =(nAt g j).kids)->zz (zAC g) k i o=zz g k i o
 |0,_,_,_=>rfl
 |k+1,i,o,h=>by
  unfold zz;rw[h i];have:(λ(o:List Int)(x:Int)=>zz (zAC g) k x o)=λo x=>zz g k x o:=funext λo=>funext λx=>zMc k x o h
  rw[this]
theorem zTh(j:Int):(nAt (zAC g) j).kids =(nAt g j).kids :=by
 unfold nAt zAC;rw[List.getD_eq_getElem?_getD,List.getD_eq_getElem?_getD,List.getElem?_map]
 cases g[j.toNat]? with
 |none=>rfl
 |some n=>exact(zFF n).1
theorem zEX(h:zT ds g):zT ds (zAC g):=by
 refine⟨h.dom,by unfold zAC;simp[h.ne],by unfold zAC;simpa using h.len,zKM h.good,?_⟩;have c:zB2 ds (zAC g) 0=zB2 ds g 0:=zMc _ _ _ zTh;have d:=zDc h.good h.rng;have b:=h.canon;unfold zA8 at b⊢;rw[c]
 have:(zB2 ds g 0).map (zAl (zAC g) (zB2 ds g 0))=((zB2 ds g 0).map (zAl g (zB2 ds g 0))).map zCx:=by
  rw[List.map_map];refine List.map_congr_left λx f=> ?_
  have a:=zNH (d.rng x f);obtain⟨i,j,k⟩:=zFF (nAt g x);simp only[Function.comp];unfold zAl;rw[a,i,j,k];unfold zCx;by_cases e:(nAt g x).kids =[]
  ·simp[e]
  ·simp[e]
 rw[this,b];rfl
end not_
theorem zEH{E:Prop}
  (y:o.guard=none)(s x:Operand)(t:TypeId)(I:o.op= .call {callee:= .builtin .append,args:=#[s,x],argTypes:=#[t,t]})
  {b d:Nat}(L:P.underlying t=some (.slice e))(El:zB0 P e b d){n:Nat}(J:a.eval s=v)(h:w.ownsRow base e b v n xs)
  {g m c off:Nat}(N:a.eval x= .slice (some ⟨g,off,none⟩) m c)(H:news.length=m*b)(G:∀j u,news[j]? =some u->w.cell? ⟨g,off+j,none⟩=some u)(z:∀u∈news,u.oneCell'=true)(q:n+m<=maxLen)(F:(n+m)*d<=140737488355328)(f:base<=w.heap.size)
  (D:∀k w',w'.ownsRow base e b k (n+m) (xs++news)->w.grownBy w' v.ownBlock->(k.ownBlock=v.ownBlock\/k.ownBlock=some w.heap.size)->K (a.put o.dst k) w'):
  if Region.wanted o (yielded ops a.tmps)=true then Oper.wp P o a w K Q else E:=by
 have M:Region.wanted o (yielded ops a.tmps)=true:=by simp[Region.wanted,y]
 rw[if_pos M];obtain⟨k,w',i,A,B,C⟩:=zHz (ty:=o.type) L El h H G z q F f;unfold Oper.wp execOp;simp only[I,resolve,invoke,builtin,Sem.run_bind,Sem.run_pure,Result.andThen_ok,List.map_toArray,List.map_cons,List.map_nil,J,N];rw[i];exact D _ _ A B C
theorem zAz
  (s x:Operand)(t:TypeId)(G:o.op= .call {callee:= .builtin .append,args:=#[s,x],argTypes:=#[t,t]})
  {b d:Nat}(I:P.underlying t=some (.slice e))(El:zB0 P e b d){n:Nat}(H:a.eval s=v)(h:w.ownsRow base e b v n xs)
  {g m c off:Nat}(J:a.eval x= .slice (some ⟨g,off,none⟩) m c)(F:news.length=m*b)(E:∀j u,news[j]? =some u->w.cell? ⟨g,off+j,none⟩=some u)(y:∀u∈news,u.oneCell'=true)(q:n+m<=maxLen)(D:(n+m)*d<=140737488355328)(f:base<=w.heap.size)
  (C:∀k w',w'.ownsRow base e b k (n+m) (xs++news)->w.grownBy w' v.ownBlock->(k.ownBlock=v.ownBlock\/k.ownBlock=some w.heap.size)->K (a.put o.dst k) w'):
  Oper.wp P o a w K Q:=by
 obtain⟨k,w',i,z,A,B⟩:=zHz (ty:=o.type) I El h F E y q D f;unfold Oper.wp execOp;simp only[G,resolve,invoke,builtin,Sem.run_bind,Sem.run_pure,Result.andThen_ok,List.map_toArray,List.map_cons,List.map_nil,H,J];rw[i];exact C _ _ z A B
theorem zL5
  (s x:Operand)(t:TypeId)(U:o.op= .call {callee:= .builtin .append,args:=#[s,x],argTypes:=#[t,t]})
  {b d:Nat}(X:P.underlying t=some (.slice e))(El:zB0 P e b d){I f n k:Nat}{olds:List Value}(W:a.eval s= .slice (some ⟨I,f,none⟩) n k)
  (D:olds.length=n*b)(v:∀j u,olds[j]? =some u->w.cell? ⟨I,f+j,none⟩=some u)
  {g m c off:Nat}(Y:a.eval x= .slice (some ⟨g,off,none⟩) m c)(T:news.length=m*b)(R:∀j u,news[j]? =some u->w.cell? ⟨g,off+j,none⟩=some u)(q:k<n+m)(A:n+m<=maxLen)(O:(n+m)*d<=140737488355328)
  (N:∀J w',w'.ownsRow w.heap.size e b J (n+m) (olds++news)->w.grownBy w' none->K (a.put o.dst J) w'):
  Oper.wp P o a w K Q:=by
 obtain⟨V,i,z,hi,Z,E,C,H⟩:=El;have h:∀(B F j:Nat),(⟨B,F,none⟩:Addr).add j=⟨B,F+j,none⟩:=λB F j=>by unfold Addr.add;split<;>simp_all
 obtain⟨J,w',y,L,M⟩:=run_append_arg_grows (P:=P) w t o.type e i z b d X hi Z E C H V ⟨I,f,none⟩ n k olds D (λj u G=>by rw[h];exact v j u G) ⟨g,off,none⟩ m c news T (λj u G=>by rw[h];exact R j u G) q A O;unfold Oper.wp execOp;simp only[U,resolve,invoke,builtin,Sem.run_bind,Sem.run_pure,Result.andThen_ok,List.map_toArray,List.map_cons,List.map_nil,W,Y];rw[y];exact N _ _ L M
def zc{α:Type}(R:List Value->α->Prop)(k:Nat):List α->List (List Value)->Prop
 |[],[]=>True
 |f::fs,c::cs=>(R c f/\c.length=k)/\zc R k fs cs
 | _,_=>False
section each
variable {α:Type} {R R':List Value->α->Prop} {k:Nat}
theorem zc.imp(a:∀cs x,R cs x->R' cs x):∀{fs:List α}{csl:List (List Value)},zc R k fs csl->zc R' k fs csl
 |[],[],_=>trivial
 | _::_,_::_,h=>⟨⟨a _ _ h.1.1,h.1.2⟩,zc.imp a h.2⟩
 |[],_::_,h=>h.elim
 | _::_,[],h=>h.elim
theorem zc.append:∀{fs a:List α}{csl dsl:List (List Value)},zc R k fs csl->zc R k a dsl->zc R k (fs++a) (csl++dsl)
 |[],_,[],_,_,h=>h
 | _::_,_,_::_,_,h,h'=>⟨h.1,zc.append h.2 h'⟩
 |[],_,_::_,_,h,_=>h.elim
 | _::_,_,[],_,h,_=>h.elim
theorem zc.one{f:α}{c:List Value}(h:R c f)(a:c.length=k):zc R k [f] [c]:=⟨⟨h,a⟩,trivial⟩
theorem zc.size:∀{fs:List α}{csl:List (List Value)},zc R k fs csl->csl.flatten.length=fs.length*k
 |[],[],_=>by simp
 | _::fs,c::cs,h=>by rw[List.flatten_cons,List.length_append,zc.size h.2,h.1.2,List.length_cons,Nat.succ_mul];omega
 |[],_::_,h=>h.elim
 | _::_,[],h=>h.elim
theorem zc.rows{Z:zE}{w:World}{b:Nat}(d:Z b):∀{fs:List α}{csl:List (List Value)}{off:Nat},zc R k fs csl->(∀j u,csl.flatten[j]? =some u->w.cell? ⟨b,off+j,none⟩=some u)->zm R k Z w fs (some ⟨b,off,none⟩)
 |[],[],_,_,_=>by unfold zm;trivial
 |f::fs,c::cs,off,h,hc=>by
  unfold zm;have e:c.length=k:=h.1.2;refine⟨b,off,c,rfl,d,λj u a=> ?_,h.1.1,zc.rows d h.2 λj u a=> ?_⟩
  ·refine hc j u ?_;rw[List.flatten_cons,List.getElem?_append_left (by have:=List.getElem?_eq_some_iff.1 a;obtain⟨h,_⟩:=this;exact h)];exact a
  ·have:=hc (k+j) u (by rw[List.flatten_cons,List.getElem?_append_right (by omega)];rw[show k+j-c.length=j by omega];exact a);rwa[show off+k+j=off+(k+j) by omega]
 |[],_::_,_,h,_=>h.elim
 | _::_,[],_,h,_=>h.elim
theorem zc.of_seq{Z:zE}{w:World}(d:∀cs x,R cs x->cs.length=k):∀{fs:List α}{A:Option Addr},zm R k Z w fs A->∃csl,zc R k fs csl/\∀b off,A=some ⟨b,off,none⟩->∀j u,csl.flatten[j]? =some u->w.cell? ⟨b,off+j,none⟩=some u
 |[],_,_=>⟨[],trivial,λ_ _ _ j u a=>by simp at a⟩
 |f::fs,A,⟨b,off,cs,e,hz,hc,h1,h2⟩=>by
  obtain⟨csl,h,i⟩:=zc.of_seq d h2;refine⟨cs::csl,⟨⟨h1,d _ _ h1⟩,h⟩,λn g c j u a=> ?_⟩;have o:=d _ _ h1;rw[e]at c;injection c with c;injection c with e1 e2;subst e1 e2;rw[List.flatten_cons]at a;by_cases m:j<cs.length
  ·rw[List.getElem?_append_left m]at a;exact hc j u a
  ·rw[List.getElem?_append_right (by omega)]at a;have:=i b (off+k) rfl (j-cs.length) u a;rwa[show off+k+(j-cs.length)=off+j from by omega]at this
end each
section pair
variable {P:Program} {k e:TypeId}
theorem zNI(j:P.underlying k=some (.array 2 e))(he:P.underlying e=some (.int .i64)){i:TypeInfo}(hi:P.info? e=some i)(h:P.cellsOf e=1)(w:World)(x y:Int × Int):
  (Op.equal k (zE0 x) (zE0 y)).run P w= .ok (decide (x=y)) w:=by
 have f:P.plainKey e=true:=by simp[Program.plainKey,he]
 have g:∀(d:Nat)(a b:Int),(Op.equalIn (d+1) e (.int .i64 a) (.int .i64 b)).run P w= .ok (a==b) w:=λd a b=>by
  simp[Op.equalIn,run_underlying he]
 have c:∀(a b:Int),(Op.equalIn 9999 e (.int .i64 a) (.int .i64 b)).run P w= .ok (a==b) w:=g 9998;have m:∀(a b:Int),(part e #[.int .i64 a,.int .i64 b] 0).run P w= .ok (.int .i64 a) w:=λa b=>run_part_plain w f rfl
 have n:∀(a b:Int),(part e #[.int .i64 a,.int .i64 b] 1).run P w= .ok (.int .i64 b) w:=λa b=>run_part_plain w f rfl
 unfold Op.equal zE0;rw[show Op.maxDepth=9999+1 from rfl,run_equalIn_array w 9999 _ _ j hi,h,show List.range 2=[0,1] from rfl];simp only[Op.eqItems,Sem.run_bind,Nat.zero_mul,Nat.one_mul,m,Result.andThen_ok,c];by_cases a:x.1=y.1<;>by_cases b:x.2=y.2<;>simp[a,b,Prod.ext_iff,n,c]
theorem zSV(f:P.underlying k=some (.array 2 e))(he:P.underlying e=some (.int .i64)){i:TypeInfo}(hi:P.info? e=some i)(u:P.cellsOf e=1)
  (c:∀(w:World)(m:Bool)(x:Int × Int),(Instr.checkKey m 10000 k (zE0 x)).run P w= .ok () w):zEd P k zE0 where
 check:=c
 find w x b a h:=by
  have d:∀(b:List MapEntry)(a:List ((Int × Int) × Value))(j:Nat),b.map (λe=>(e.key,e.val))=a.map (λp=>(zE0 p.1,p.2))->(Instr.findAsking k (zE0 x) b j).run P w= .ok (zBa a x j) w:=by
   intro b
   induction b with
   |nil=>intro a j h;cases a with
    |nil=>simp[Instr.findAsking,zBa]
    |cons p a=>simp at h
   |cons e' b ih=>intro a j h;cases a with
    |nil=>simp at h
    |cons p a=>
     simp only[List.map_cons,List.cons.injEq,Prod.mk.injEq]at h;obtain⟨⟨o,q⟩,s⟩:=h;have t:=zNI f he hi u w x p.1;unfold Instr.findAsking zBa;rw[o];simp only[Sem.run_bind,t,Result.andThen_ok];by_cases g:x=p.1
     ·simp[g,q]
     ·simp[g,ih a (j+1) s]
  cases b with
  |nil=>
   cases a with
   |nil=>simp[Instr.findKey,run_underlying f,Instr.findNow,zBa]
   |cons p a=>simp at h
  |cons e' b=>
   have n:=h
   cases a with
   |nil=>simp at h
   |cons p a=>
    simp only[List.map_cons,List.cons.injEq,Prod.mk.injEq]at h
    have v:Instr.findNow (.array 2 e) (zE0 x) (e'::b) 0=none:=by
     unfold Instr.findNow;rw[h.1.1];simp[Instr.sameNow]
    simp only[Instr.findKey,Sem.run_bind,run_underlying f,Result.andThen_ok,v];exact d _ _ 0 n
 stays w x:=by simp[Instr.keyThatStays,zE0,Instr.sameBits]
end pair
def kvA(d:List ((Int × Int) × Int)):List ((Int × Int) × Value):=d.map λp=>(p.1,.int .i64 p.2)
theorem zQg:∀(d:List ((Int × Int) × Int))(k:Int × Int),zg (kvA d) k=(kvI d k).map (.int .i64)
 |[],_=>rfl
 |p::r,k=>by
  have ih:=zQg r k;unfold kvA at ih⊢;rw[List.map_cons,zg,kvI];split
  ·rfl
  ·exact ih
theorem zQh:∀(d:List ((Int × Int) × Int))(k:Int × Int)(v:Int),zAU (kvA d) k (.int .i64 v)=kvA (zCh d k v)
 |[],_,_=>rfl
 |p::r,k,v=>by
  have ih:=zQh r k v;unfold kvA at ih⊢;rw[List.map_cons,zAU,zCh];split
  ·rfl
  ·rw[List.map_cons,<-ih]
def zQi(md:Region.Mode)(ops:Array Oper)(listed:Array Bool)(L:List Nat)(i s:Nat):Bool:=
 L.all (λj=>(Region.waitsFor md ops j i||L.any (λk=>Region.waitsFor md ops j k))&& !(listed.getD j true)&&(j !=i))&&L.contains s
theorem zOQ{y:Region.Mode}{S:World->Prop}{s i:Nat}(L:List Nat)(hi:ops[i]? =some oi)(x:∀(j:Nat)(o:Oper) cs b,ops[j]? =some o->o.op≠ .select cs b)
  (hQ:∀c a w,Q (.panic c) (a.put oi.dst v) w->Q (.panic c) a w)(hL:∀j∈L,j≠i/\∃k,(k=i\/k∈L)/\∃os,ops[j]? =some os/\∃e∈os.after,Region.binds y e=true/\e.on=k)(D:s∈L):
  ∀(fuel:Nat)(listed:Array Bool)(a:Act)(w:World),(∀j∈L,listed.getD j true=false)->
   (∀j z,ops[j]? =some z->j≠i->listed.getD j true=false->(∀e∈z.after,Region.binds y e=true->e.on≠i)->oi.apart ops z=true)->
   i∈Region.ready y ops listed->YieldsIf P ops S oi v a->S w->
   wpAnyS P y ops Q S s fuel (listed.setIfInBounds i true) (a.put oi.dst v) w->wpAnyS P y ops Q S s (fuel+1) listed a w:=by
 intro fuel;have Z:i≠s:=λe=>(hL s D).1 e.symm
 induction fuel with
 |zero=>
  intro listed a w _ _ C M E H;refine⟨λh=>(by rw[h]at C;cases C),λj K=> ?_⟩;by_cases d:j=i
  ·subst d;exact M.wpOp hi E ⟨Or.inr E,H⟩
  ·have:=ready_mono K d;rw[H.1]at this;cases this
 |succ fuel ih=>
  intro listed a w B g C M E H;refine⟨λh=>(by rw[h]at C;cases C),λj K=> ?_⟩;by_cases d:j=i
  ·subst d;exact M.wpOp hi E ⟨Or.inr E,H⟩
  ·have A:=H.2 j (ready_mono K d);obtain⟨u,z,f,G⟩:=mem_ready.1 K
   have m:∀k,(k=i\/k∈L)->∀e∈z.after,Region.binds y e=true->e.on≠k:=λk n e he R T=>by
    have A:=G e he R
    have h0:listed.getD k true=false:=by
     rcases n with rfl|n
     ·exact(mem_ready.1 C).1
     ·exact B k n
    rw[T]at A;rcases Nat.lt_or_ge k listed.size with N|N
    ·simp[N]at h0 A;rw[h0]at A;cases A
    ·simp[Array.getElem?_eq_none N]at A
   have J:∀e∈z.after,Region.binds y e=true->e.on≠i:=m i (Or.inl rfl)
   have I:j∉L:=λh=>by
    obtain⟨_,k,n,os,Y,e,he,R,X⟩:=hL j h;rw[Y]at f;injection f with f;subst f;exact m k n e he R X
   (have U:j≠s:=λe=>I (e▸D));have h2:=wpOp_putIf f (g j z f d u J) (λcs b=>x i oi cs b hi) (λcs b=>x j z cs b f) hQ M A
   have q:∀k ok,ops[k]? =some ok->k≠i->(listed.setIfInBounds j true).getD k true=false->
     (∀e∈ok.after,Region.binds y e=true->e.on≠i)->oi.apart ops ok=true:=λk ok n V m W=>by
    refine g k ok n V ?_ W;by_cases t:j=k
    ·subst t;exact u
    ·rw[getD_set_ne true t]at m;exact m
   refine wpOp_mono (λa' w' O=> ?_) h2
   have F:S w':=by
    rcases O.2.1 with h|h
    ·rw[getD_set_ne true U,getD_set_ne true Z,B s D]at h;cases h
    ·exact h
   refine⟨Or.inr F,ih (listed.setIfInBounds j true) a' w' (λk n=>by
    (have t:j≠k:=λe=>I (by rw[e];exact n));rw[getD_set_ne true t]
    exact B k n) q (ready_mono C (Ne.symm d)) O.1 F ?_⟩
   rw[Array.setIfInBounds_comm _ _ d];exact O.2.2
theorem tkC{b:Region.Mode}{S:World->Prop}{s:Nat}(i:Nat)(L:List Nat)(v:Value)(q:S w)(x:∀w,S w->(execOp a.eval oi).run P w= .ok (.value v) w)
  (h:wpAnyS P b ops Q S s fuel (listed.setIfInBounds i true) (a.put oi.dst v) w)(hi:ops[i]? =some oi:=by exact rfl)(u:Region.noSelect ops=true:=by kernel_rfl)
  (g:(Region.free b ops listed i&&(Region.ready b ops listed).contains i&&zQi b ops listed L i s)=true:=by kernel_rfl)
  (t:Region.wanted oi (yielded ops a.tmps)=true:=by kernel_rfl)(hQ:∀c a w,Q (.panic c) (a.put oi.dst v) w->Q (.panic c) a w:=by exact λ_ _ _ h=>h):wpAnyS P b ops Q S s (fuel+1) listed a w:=by
 simp only[Bool.and_eq_true]at g;obtain⟨⟨m,n⟩,e⟩:=g;unfold zQi at e;simp only[Bool.and_eq_true,List.all_eq_true,Bool.or_eq_true,List.any_eq_true,Bool.not_eq_true',bne_iff_ne,List.contains_iff_mem]at e;obtain⟨f,o⟩:=e;refine zOQ L hi (Region.noSelect_spec u) hQ (λj d=>⟨(f j d).2,?_⟩) (by simpa using o) fuel listed a w (λj d=>(f j d).1.2) (Region.free_spec hi m) (by simpa using n) (Or.inl ⟨t,x⟩) q h;rcases(f j d).1.1 with hw|⟨k,hk,hw⟩
 ·exact⟨i,Or.inl rfl,Region.waitsFor_spec hw⟩
 ·exact⟨k,Or.inr hk,Region.waitsFor_spec hw⟩
section
variable {P:Program} {fn:Func} {R:Ending->World->Prop}
theorem zHY{t t':Array Value}(h:∀w,(results fn t).run P w=(results fn t').run P w):∀(ds:List Deferred)(u:FrameMode)(w:World),Leaves P fn t R ds u w->Leaves P fn t' R ds u w
 |[],.returning,w,⟨v,hr,hR⟩=>⟨v,(h w).symm.trans hr,hR⟩
 |[],.panicking _,_,hh=>hh
 |[],.run,_,hh=>hh
 |d::ds,u,w,⟨hu,fv,cap,f,args,ht,hi,hc⟩=>⟨hu,fv,cap,f,args,ht,hi,hc.mono λe b w' a=>by
  cases e with
  |returned v=>exact zHY h ds _ _ a
  |panicked c=>exact zHY h ds _ _ a
  |outgrown=>exact a⟩
theorem zQT{c e f:TypeId}(b:fn.results=#[.cell 2 c,.cell 3 e,.cell 4 f])(a:d≠2/\d≠3/\d≠4)(t:Array Value):results fn (t.setIfInBounds d v)=results fn t:=by
 unfold results;rw[b];simp[Array.getD_eq_getD_getElem?,Array.getElem?_setIfInBounds,a.1,a.2.1,a.2.2]
theorem zBD{f g i:TypeId}(e:fn.results=#[.cell 2 f,.cell 3 g,.cell 4 i])(b:d≠2/\d≠3/\d≠4){c:List PanicEntry}(h:bodyPostD P fn R (.panic c) (a.put (some d) v) w):bodyPostD P fn R (.panic c) a w:=
 zHY (λw=>by show(results fn (a.tmps.setIfInBounds d v)).run P w=_;rw[zQT e b]) a.defers _ _ h
end
def lim(x:Nat):Value:= .int .u64 (x:Int)
section lims
variable {Z Z':zE} {w w':World} {v:Value} {l:List Nat}
end lims
theorem zQU{t ty e:TypeId}{d f:Nat}(G:P.underlying t=some (.slice e))(E:zB0 P e d f){n:Nat}(k:w.ownsRow base e d v n xs)
  {A:Option Addr}{m c:Nat}{Zn:zE}(C:news.length=m*d)(J:Row Zn w A news)(K:∀u∈news,u.oneCell'=true)(y:n+m<=maxLen)(O:(n+m)*f<=140737488355328)(o:base<=w.heap.size):
  ∃s w',(Builtin.append_ #[t,t] ty #[v,.slice A m c]).run P w= .ok s w'/\w'.ownsRow base e d s (n+m) (xs++news)/\w.grownBy w' v.ownBlock/\(s.ownBlock=v.ownBlock\/s.ownBlock=some w.heap.size):=by
 obtain⟨T,i,z,hi,U,F,B,I⟩:=E
 cases A with
 |some a=>
  obtain⟨s,w',x,L,M,_,N⟩:=run_append_own_at (P:=P) w base t ty e i z d f G hi U F B I T v n xs k a m c news C (λj u H=>by
   obtain⟨b,q,he,_,Q⟩:=J (λe=>by rw[e]at H;cases H);injection he with he;subst he;rw[show(⟨b,q,none⟩:Addr).add j=⟨b,q+j,none⟩ from by unfold Addr.add;split<;>simp_all]
   exact Q j u H) K y O o
  exact⟨s,w',x,L,M,N⟩
 |none=>
  have D:news=[]:=by
   by_cases h:news=[]
   ·exact h
   ·obtain⟨b,q,he,_⟩:=J h;cases he
  subst D
  have R:m=0:=by
   rw[List.length_nil]at C;rcases Nat.mul_eq_zero.1 C.symm with h|h
   ·exact h
   ·omega
  subst R;refine⟨v,w,?_,by simpa using k,⟨rfl,rfl,rfl,Nat.le_refl _,λ_ _ _=>rfl⟩,Or.inl rfl⟩;rcases k.2 with⟨rfl,rfl⟩|⟨g,cap,cur,rfl,hbg,hg,hnc,hcm,hcs,htake⟩
  ·simp[Builtin.append_,run_underlying G,sizeOf,typeInfo,hi,Builtin.lenOf,Builtin.firstCells]
  ·simp[Builtin.append_,run_underlying G,sizeOf,typeInfo,hi,Builtin.lenOf,Builtin.firstCells,hnc,storeCells]
section
open Go.ChangeShapes Go.Deep
section op
variable {H:Type} {enc:TypeId × Value->H} {P:Program} {w:World} {held:Bool}
def zCt(w:World):zE:=λb=>b<w.heap.size
abbrev zCI{H:Type}(P:Program)(t:TypeId)(d:DataW H):Prop:=(d.weights P t).all (· <=reachBytes)=true
theorem zHq{e:TypeId}:∀{l:List (DataW H)}{d:DataW H},d∈l->∀n∈d.weights P e,n∈DataW.weightsAll P e l
 |d'::r,d,hd,n,hn=>by
  simp only[DataW.weightsAll,List.mem_append];rcases List.mem_cons.1 hd with rfl|h
  ·exact Or.inl hn
  ·exact Or.inr (zHq h n hn)
theorem zVU{a b:List (DataW H)}(g:P.underlying t=some (.slice e))(h:zCI P t (.slice a b)){d:DataW H}(c:d∈a):zCI P e d:=by
 refine List.all_eq_true.2 λn f=>List.all_eq_true.1 h n ?_
 simp only[DataW.weights,g,List.mem_cons,List.mem_append];exact Or.inr (Or.inl (zHq c n f))
theorem zVk{a b:List (DataW H)}(c:P.underlying t=some (.slice e))(h:zCI P t (.slice a b)):(a.length+b.length)*P.bytesOf e<=reachBytes:=
 of_decide_eq_true (List.all_eq_true.1 h _ (by simp only[DataW.weights,c,List.mem_cons];exact Or.inl trivial))
theorem zVV{a:List (DataW H)}(g:P.underlying t=some (.struct fs))(h:zCI P t (.agg a)){f:Field}{d:DataW H}(c:fs[j]? =some f)(b:a[j]? =some d):zCI P f.type d:=by
 refine List.all_eq_true.2 λn e=>List.all_eq_true.1 h n ?_
 simp only[DataW.weights,g];exact DataW.weights_mem_each (j:=j) (by simpa using congrArg (Option.map (·.type)) c) b n e
theorem zTi{l:List UInt8}(h:zCI P t (.lit (.string l):DataW H)):l.length<=reachBytes:=
 of_decide_eq_true (List.all_eq_true.1 h _ (by simp[DataW.weights]))
theorem zOB{α:Type}{R:List Value->α->Prop}{k:Nat}{Z:zE}{b:Nat}(f:Z b):∀(n off:Nat),(∀i,i<n->∃cs a,(∀j u,cs[j]? =some u->w.cell? ⟨b,off+i*k+j,none⟩=some u)/\R cs a)->
  ∃l:List α,l.length=n/\zm R k Z w l (some ⟨b,off,none⟩)
 |0,_,_=>⟨[],rfl,trivial⟩
 |n+1,off,h=>by
  obtain⟨cs,a,c,d⟩:=h 0 (by omega)
  obtain⟨l,g,m⟩:=zOB f n (off+k) (λi hi=>by
   obtain⟨cs,a,c,d⟩:=h (i+1) (by omega);refine⟨cs,a,λj u e=> ?_,d⟩;have:=c j u e
   rwa[show off+(i+1)*k+j=off+k+i*k+j from by rw[Nat.add_mul];omega]at this)
  exact⟨a::l,by simp[g],b,off,cs,rfl,f,λj u e=>by simpa using c j u e,d,m⟩
theorem zMd{R:List Value->α->Prop}{k fuel:Nat}{x:DataW H × List MemPlace}(Y:0<k)(J:P.underlying t=some (.slice e))(Q:P.cellsOf e=k)
  (h:DataW.trod enc P w 0 (λ_=>true) held fuel t cs=some x)(L:zCI P t x.1)
  (F:∀m cs y,m<fuel->cs.length=k->DataW.trod enc P w 0 (λ_=>true) held m e cs=some y->zCI P e y.1->∃a,R cs a):
  ∃(l:List α)(A:Option Addr)(c:Nat),cs=[.slice A l.length c]/\l.length<=c/\c<=maxLen/\c*P.bytesOf e<=reachBytes/\zm R k (zCt w) w l A:=by
 rcases DataW.trod_slice J h with⟨rfl,rfl⟩|⟨a,len,c,elems,rest,n,rfl,rfl,rfl,-,hl,hm,hlen,hx,hsp,-⟩
 ·exact⟨[],none,0,rfl,Nat.le_refl _,by simp,by simp,trivial⟩
 have V:=(hsp rfl).1;have E:=zVk J L;rw[List.length_map,List.length_map,hlen,V,show len+(c-len)=c from by omega]at E
 have f:∀i,i<len->∃cs q,(∀j u,cs[j]? =some u->w.cell? (a.add (i*k+j))=some u)/\R cs q/\cs.length=k:=by
  intro i hi;have g:=hx i hi;rw[Q]at g;have s:i<elems.length:=by omega
  rw[List.getElem?_eq_getElem s,Option.bind_eq_some_iff]at g;obtain⟨d,C,M⟩:=g;obtain⟨-,K,N⟩:=World.cells?_some C;obtain⟨q,O⟩:=F n d _ (by omega) K M (zVU J L (List.mem_map.2 ⟨_,List.getElem_mem s,rfl⟩));refine⟨d,q,λj u v=> ?_,O,K⟩
  have T:j<k:=by
   rcases Nat.lt_or_ge j d.length with h|h
   ·omega
   ·rw[List.getElem?_eq_none h]at v;cases v
  rw[<-add_add,N j T,v]
 rcases Nat.eq_zero_or_pos len with rfl|U
 ·exact⟨[],some a,c,rfl,hl,hm,E,trivial⟩
 obtain⟨b,z,B⟩:=a;obtain⟨D,X,g,-,C⟩:=f 0 U;have o:=g 0 (D[0]'(by omega)) (List.getElem?_eq_getElem _);simp only[Nat.zero_mul,Nat.add_zero]at o;obtain rfl:B=none:=by simpa[Addr.add]using World.cell?_spot o
 have I:b<w.heap.size:=by simpa[Addr.add]using lt_of_cell o
 obtain⟨l,G,W⟩:=zOB (R:=R) (k:=k) (w:=w) (Z:=zCt w) (b:=b) I len z (λi hi=>by
  obtain⟨d,q,g,C,-⟩:=f i hi
  exact⟨d,q,λj u v=>by have:=g j u v;rw[Go.WideShapes.add_plain]at this;rwa[Nat.add_assoc],C⟩)
 exact⟨l,some ⟨b,z,none⟩,c,by rw[G],by omega,hm,E,W⟩
theorem zOR{Z:zE}:∀{l:List Value}{A:Option Addr},zm (λcs v=>cs=[v]) 1 Z w l A->Row Z w A l
 |[],_,_=>Row.nil
 |v::l,A,h=>λ_=>by
  have n:=h;obtain⟨b,g,cs,e,o,y,t,x⟩:=h;refine⟨b,g,e,o,λj u a=> ?_⟩
  have i:j<(v::l).length :=by
   rcases Nat.lt_or_ge j (v::l).length with h|h
   ·exact h
   ·rw[List.getElem?_eq_none h]at a;cases a
  obtain⟨s,k,m,c,q,f,d⟩:=zm.at_ n i;subst e;injection c with c;injection c with eb eo;subst eb eo;have:=f 0 u (by rw[d];rw[List.getElem?_eq_getElem i]at a;simpa using a);simpa using this
theorem zOC{n:Int}(h:(Lit.int .i64 n).wf =true):I64 n:=by
 have:=bounds_i64 h;exact this
theorem zVW{x:DataW H × List MemPlace}(u:P.underlying t=some (.slice e))(he:P.underlying e=some (.int .i64))(f:P.cellsOf e=1)(q:P.bytesOf e=8)
  (h:DataW.trod enc P w 0 (λ_=>true) held fuel t cs=some x)(z:zCI P t x.1):∃v xs,cs=[v]/\zK (zCt w) w v xs:=by
 obtain⟨l,A,c,rfl,a,d,k,o⟩:=zMd (R:=λcs(n:Int)=>cs=[.int .i64 n]/\I64 n) (Nat.zero_lt_one) u f h z (λm cs y _ _ B _=>by
  obtain⟨n,rfl,-,g⟩:=DataW.trod_int he B
  exact⟨n,rfl,zOC g⟩)
 rw[q]at k;have s:reachBytes=140737488351232:=rfl;rw[s]at k;refine⟨_,l,rfl,⟨A,c,rfl,a,by simpa[maxLen]using d,by omega,?_⟩,?_⟩
 ·clear a
  have:∀(l:List Int)(A:Option Addr),zm (λcs(n:Int)=>cs=[.int .i64 n]/\I64 n) 1 (zCt w) w l A->zm (λcs v=>cs=[v]) 1 (zCt w) w (l.map (.int .i64)) A:=by
   intro l
   induction l with
   |nil=>intro A _;exact trivial
   |cons n l ih=>intro A ⟨b,j,cs,e,C,f,a,d⟩;exact⟨b,j,cs,e,C,f,a.1,ih _ d⟩
  exact zOR (this _ _ o)
 ·intro n g;obtain⟨i,hi,rfl⟩:=List.getElem_of_mem g;obtain⟨_,_,_,_,_,_,h⟩:=zm.at_ o hi;exact h.2
theorem zHZ{x:DataW H × List MemPlace}(e:P.underlying t=some (.struct fs))(h:DataW.trod enc P w 0 (λ_=>true) held fuel t cs=some x)(k:zCI P t x.1):
  cs.length=P.cellsOf t/\∀(j:Nat)(f:Field),fs[j]? =some f->∃m y,m<fuel/\DataW.trod enc P w 0 (λ_=>true) held m f.type ((cs.drop f.offset).take (P.cellsOf f.type))=some y/\zCI P f.type y.1:=by
 obtain⟨xs,n,rfl,rfl,i,a,g⟩:=DataW.trod_struct e h;refine⟨i,λj f c=> ?_⟩;have d:=g j f c
 have b:j<xs.length:=by
  rw[a];rcases Nat.lt_or_ge j fs.size with h|h
  ·exact h
  ·rw[Array.getElem?_eq_none h]at c;cases c
 rw[List.getElem?_eq_getElem b]at d;exact⟨n,_,by omega,d,zVV e k c (by simp[b])⟩
structure Tys (P:Program) (tInt tStr tBool tInts tFact tFacts tNode tNodes tFm tFms:TypeId):Prop where
 int:P.underlying tInt=some (.int .i64)
 intc:P.cellsOf tInt=1
 intb:P.bytesOf tInt=8
 str:P.underlying tStr=some .string
 strc:P.cellsOf tStr=1
 bool:P.underlying tBool=some .bool
 boolc:P.cellsOf tBool=1
 ints:P.underlying tInts=some (.slice tInt)
 intsc:P.cellsOf tInts=1
 fact:∃f0 f1 f2 f3,P.underlying tFact=some (.struct #[f0,f1,f2,f3])/\(f0.type=tStr/\f0.offset=0)/\(f1.type=tInt/\f1.offset=1)/\(f2.type=tInt/\f2.offset=2)/\(f3.type=tInt/\f3.offset=3)
 factc:P.cellsOf tFact=4
 factb:P.bytesOf tFact=40
 facts:P.underlying tFacts=some (.slice tFact)
 factsc:P.cellsOf tFacts=1
 node:∃f0 f1 f2 f3,P.underlying tNode=some (.struct #[f0,f1,f2,f3])/\(f0.type=tBool/\f0.offset=0)/\(f1.type=tInt/\f1.offset=1)/\(f2.type=tInts/\f2.offset=2)/\(f3.type=tInts/\f3.offset=3)
 nodec:P.cellsOf tNode=4
 nodeb:P.bytesOf tNode=64
 nodes:P.underlying tNodes=some (.slice tNode)
 nodesc:P.cellsOf tNodes=1
 fm:∃f0 f1 f2 f3 f4,P.underlying tFm=some (.struct #[f0,f1,f2,f3,f4])/\(f0.type=tInt/\f0.offset=0)/\(f1.type=tStr/\f1.offset=1)/\(f2.type=tInt/\f2.offset=2)/\(f3.type=tInt/\f3.offset=3)/\(f4.type=tFms/\f4.offset=4)
 fmc:P.cellsOf tFm=5
 fmb:P.bytesOf tFm=64
 fms:P.underlying tFms=some (.slice tFm)
 fmsc:P.cellsOf tFms=1
theorem zJH:reachBytes=140737488351232:=rfl
theorem zIU{m:Nat}{y:DataW H × List MemPlace}(b:P.underlying t=some (.int .i64))(h:DataW.trod enc P w 0 (λ_=>true) held m t [v]=some y):∃n,v= .int .i64 n/\I64 n:=by
 obtain⟨n,e,-,a⟩:=DataW.trod_int b h;exact⟨n,by simpa using e,zOC a⟩
theorem zP8{m:Nat}{y:DataW H × List MemPlace}(a:P.underlying t=some .string)(h:DataW.trod enc P w 0 (λ_=>true) held m t [v]=some y)(b:zCI P t y.1):∃s:ByteArray,v= .string s/\s.size<=140737488355328:=by
 obtain⟨s,e,rfl,-⟩:=DataW.trod_string a h;have:=zTi b;rw[zJH]at this;have c:s.size=s.data.toList.length:=by rw[Array.length_toList];rfl
 exact⟨s,List.singleton_inj.1 e,by omega⟩
theorem zVX{m:Nat}{y:DataW H × List MemPlace}(a:P.underlying t=some .bool)(h:DataW.trod enc P w 0 (λ_=>true) held m t [v]=some y):∃b:Bool,v= .bool b:=by
 obtain⟨b,e,-⟩:=DataW.trod_bool a h;exact⟨b,by simpa using e⟩
variable {tInt tStr tBool tInts tFact tFacts tNode tNodes tFm tFms:TypeId}
theorem zUf(T:Tys P tInt tStr tBool tInts tFact tFacts tNode tNodes tFm tFms){m:Nat}{y:DataW H × List MemPlace}(h:DataW.trod enc P w 0 (λ_=>true) held m tFacts [v]=some y)(c:zCI P tFacts y.1):∃xs,Facts (zCt w) w v xs:=by
 obtain⟨l,A,b,e,C,D,E,d⟩:=zMd (R:=λcs(f:zC)=>cs=zC.cells f/\f.fit) (by decide) T.facts T.factc h c (λm cs y _ G K c=>by
  obtain⟨t,u,z,B,F,⟨o,V⟩,⟨Z,W⟩,⟨t2,X⟩,⟨t3,Y⟩⟩:=T.fact;obtain⟨-,a⟩:=zHZ F K c
  match cs,G with
  |[c0,c1,c2,c3],_=>
   obtain⟨m0,y0,-,g,q⟩:=a 0 t rfl;obtain⟨m1,y1,-,j,w1⟩:=a 1 u rfl;obtain⟨m2,y2,-,k,w2⟩:=a 2 z rfl;obtain⟨m3,y3,-,n,w3⟩:=a 3 B rfl;rw[o,V,T.strc]at g;rw[o]at q;rw[Z,W,T.intc]at j;rw[t2,X,T.intc]at k;rw[t3,Y,T.intc]at n;obtain⟨s,rfl,I⟩:=zP8 T.str g q;obtain⟨O,rfl,L⟩:=zIU T.int j;obtain⟨Q,rfl,M⟩:=zIU T.int k;obtain⟨U,rfl,N⟩:=zIU T.int n
   exact⟨⟨s,O,Q,U⟩,rfl,I,L,M,N⟩)
 rw[T.factb,zJH]at E;obtain rfl:v=_:=by simpa using e
 refine⟨l,⟨A,b,rfl,C,by simpa[maxLen]using D,by omega,d.imp (λ_ _ h=>h.1) (zA.refl _ _) (λ_ h=>h)⟩,λx J=> ?_⟩;obtain⟨i,hi,rfl⟩:=List.getElem_of_mem J;obtain⟨_,_,_,_,_,_,h⟩:=zm.at_ d hi;exact h.2
theorem zVx(T:Tys P tInt tStr tBool tInts tFact tFacts tNode tNodes tFm tFms):∀(m:Nat)(cs:List Value)(y:DataW H × List MemPlace),cs.length=5->DataW.trod enc P w 0 (λ_=>true) held m tFm cs=some y->zCI P tFm y.1->∃f,FmR (zCt w) w f cs:=by
 intro m
 induction m using Nat.strongRecOn with
 |ind m ih=>
  intro cs y c g d;obtain⟨v,x,z,B,C,I,⟨t0,W⟩,⟨o,X⟩,⟨t2,Y⟩,⟨t3,Z⟩,⟨q,o4⟩⟩:=T.fm;obtain⟨-,a⟩:=zHZ I g d
  match cs,c with
  |[c0,c1,c2,c3,c4],_=>
   obtain⟨m0,y0,-,h,w0⟩:=a 0 v rfl;obtain⟨m1,y1,-,i,t⟩:=a 1 x rfl;obtain⟨m2,y2,-,j,w2⟩:=a 2 z rfl;obtain⟨m3,y3,-,k,w3⟩:=a 3 B rfl;obtain⟨m4,y4,N,n,u⟩:=a 4 C rfl;rw[t0,W,T.intc]at h;rw[o,X,T.strc]at i;rw[t2,Y,T.intc]at j;rw[t3,Z,T.intc]at k;rw[q,o4,T.fmsc]at n;rw[o]at t;rw[q]at u;obtain⟨Q,rfl,K⟩:=zIU T.int h;obtain⟨s,rfl,J⟩:=zP8 T.str i t;obtain⟨U,rfl,L⟩:=zIU T.int j;obtain⟨V,rfl,M⟩:=zIU T.int k;obtain⟨l,A,b,e,D,E,F,G⟩:=zMd (R:=λcs f=>FmR (zCt w) w f cs) (by decide) T.fms T.fmc n u (λO cs y hm c g d=>ih O (by omega) cs y c g d);rw[T.fmb,zJH]at F;(obtain rfl:c4=_:=by simpa using e);refine⟨.mk Q s U V l,?_⟩;unfold FmR;exact⟨K,J,L,M,A,b,rfl,D,by simpa[maxLen]using E,by omega,zi.of_seq G⟩
end op
end
end Go.Proofs.YthpocbeoanipbaaGreatDoor
