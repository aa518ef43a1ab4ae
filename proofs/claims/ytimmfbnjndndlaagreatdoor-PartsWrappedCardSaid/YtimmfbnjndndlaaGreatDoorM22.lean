/- Texts W23. -/
import Derived.Lib.AppendIntMem
import Derived.Test.YtimmfbnjndndlaaGreatDoorM0
import Derived.Test.YtimmfbnjndndlaaGreatDoorM21
import Derived.WalkSpells
import Derived.WalkLawsBesides
import Derived.Lib.OthersKept
import Derived.Lib.ItoaLen
import Derived.Laws.IdiomStrings
set_option linter.all false
namespace Go.Proofs.YtimmfbnjndndlaaGreatDoor
open Go.RowKit
section
open Go.Shelf
def TabB(B:Nat)(w:World):Prop:=Lib.TabBelow Tryz.prog B w "internal/strconv.uint64pow10" .u64 Lib.pow10Tab
theorem TabB.on{B:Nat}{w w':World}(h:TabB B w)(hb:Below B w w'):TabB B w':=Lib.TabBelow.on h hb
theorem TabB.mono{B B':Nat}{w:World}(h:TabB B w)(hB:B≤B'):TabB B' w:=λw' hb=>h w' (hb.mono hB)
theorem TabB.here{B:Nat}{w:World}(h:TabB B w):Lib.TabIs Tryz.prog w "internal/strconv.uint64pow10" .u64 Lib.pow10Tab:=Lib.TabBelow.here h
theorem own_of_blk{W:World}{g base:Nat}{e:TypeId}{cells:Array Value}(h:Blk W g e cells)(hb:base≤g)(hc:cells.size≤maxLen):W.ownsRow base e 1 (.slice (some ⟨g,0,none⟩) cells.size cells.size) cells.size cells.toList:=
 ⟨by simp,.inr ⟨g,cells.size,cells,rfl,hb,h,Nat.le_refl _,hc,by simp,by rw[Nat.mul_one];exact List.take_of_length_le (by simp)⟩⟩
theorem own_ne_blk{W:World}{g base n size:Nat}{t e:TypeId}{cs:Array Value}{v:Value}{xs:List Value}(h:Blk W g t cs)(ho:W.ownsRow base e size v n xs)(hne:t≠e):v.ownBlock≠some g:=by
 rcases ho.2 with⟨rfl,_⟩|⟨g',cap,cur,rfl,_,hg,_⟩
 ·intro h;cases h
 ·intro e';injection e' with e';simp only at e';subst e';unfold Blk at h;rw[h]at hg;injection hg with hg;injection hg with _ ht;exact hne ht
theorem Blk.othersKept{W W':World}{g:Nat}{t e:TypeId}{cs:Array Value}{b:Option Nat}(h:Blk W g t cs)(hk:Lib.OthersKept e b W W')(hb:some g≠b)(ht:t≠e):Blk W' g t cs:=
 hk g _ h hb λc fz e'=>by injection e' with _ e';exact ht e'
theorem Tryz.eU8:ElemIs Tryz.prog 5 1 1:=elemIs_of (z:= .int .u8 0) (by kernel_rfl) rfl (by decide)
def secs(n:NodeD):List (List Int):=[n.cuts,n.kids]
def preT(n:NodeD)(k:Nat):List UInt8:=(if n.leaf=true then 49 else 48)::(Lib.itoa n.fact++((secs n).take k).flatMap λl=>58::itemsT l)
def inT(n:NodeD)(k j:Nat):List UInt8:=preT n k++58::itemsT (((secs n).getD k []).take j)
theorem preT_all(n:NodeD):preT n 2=writeT n:=by simp[preT,writeT,secs]
theorem preT_zero(n:NodeD):preT n 0=(if n.leaf=true then 49 else 48)::Lib.itoa n.fact:=by simp[preT]
theorem inT_zero(n:NodeD)(k:Nat):inT n k 0=preT n k++[58]:=by simp[inT,itemsT]
theorem inT_succ(n:NodeD)(k j:Nat)(hj:j<((secs n).getD k []).length):inT n k (j+1)=inT n k j++Lib.itoa (((secs n).getD k [])[j])++[44]:=by
 unfold inT;rw[List.take_succ_eq_append_getElem hj];generalize ((secs n).getD k [])=l at*;unfold itemsT;rw[List.flatMap_append];simp
theorem inT_all(n:NodeD)(k:Nat)(hk:k<2):inT n k ((secs n).getD k []).length =preT n (k+1):=by
 unfold inT preT secs;have:k=0∨k=1:=by omega
 rcases this with rfl|rfl<;>simp
theorem items_len(l:List Int)(h:∀x∈l,I64 x):(itemsT l).length ≤22*l.length:=by
 induction l with
 |nil=>simp[itemsT]
 |cons a r ih=>
  rw[itemsT_cons];have:=ih λx hx=>h x (List.mem_cons_of_mem _ hx)
  have ha:=h a (by simp);have:=Lib.itoa_length_le a ha.1 ha.2;simp only[List.length_append,List.length_cons];omega
theorem inT_len{n:NodeD}(hf:I64 n.fact)(hc:∀x∈n.cuts,I64 x)(hk:∀x∈n.kids,I64 x)(hcl:n.cuts.length≤2000000)(hkl:n.kids.length≤2000000)(k j:Nat)(hk2:k<2):(inT n k j).length ≤200000000:=by
 have h1:=Lib.itoa_length_le n.fact hf.1 hf.2;have h2:=items_len n.cuts hc;have h3:=items_len n.kids hk
 have h4:(itemsT (n.cuts.take j)).length ≤22*n.cuts.length:=by
  have:=items_len (n.cuts.take j) (λx hx=>hc x (List.mem_of_mem_take hx));have:(n.cuts.take j).length ≤n.cuts.length:=by simp;omega
  omega
 have h5:(itemsT (n.kids.take j)).length ≤22*n.kids.length:=by
  have:=items_len (n.kids.take j) (λx hx=>hk x (List.mem_of_mem_take hx));have:(n.kids.take j).length ≤n.kids.length:=by simp;omega
  omega
 have:k=0∨k=1:=by omega
 unfold inT preT secs;rcases this with rfl|rfl<;>simp<;>omega
theorem preT_len{n:NodeD}(hf:I64 n.fact)(hc:∀x∈n.cuts,I64 x)(hk:∀x∈n.kids,I64 x)(hcl:n.cuts.length≤2000000)(hkl:n.kids.length≤2000000)(k:Nat)(hk2:k<2):(preT n k).length ≤200000000:=by
 have:=inT_len hf hc hk hcl hkl k 0 hk2;rw[inT_zero]at this;simp at this;omega
end
end Go.Proofs.YtimmfbnjndndlaaGreatDoor
