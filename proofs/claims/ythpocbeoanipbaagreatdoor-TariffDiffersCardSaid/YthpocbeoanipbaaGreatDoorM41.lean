/- Texts TY. -/
import Derived.Test.YthpocbeoanipbaaGreatDoorM37
set_option linter.all false
namespace Go.Proofs.YthpocbeoanipbaaGreatDoor
open Go.RowKit
variable{a b t:zY}{c:List Int}
theorem zTb(h:(z7 t&&fits t.dom c)=true):
  (∃hi:zAw t c<t.lines.length,zAR t c=(((zAw t c:Nat):Int),0)/\zCZ t.dom c t.lines[zAw t c].when_ =true)\/(zAR t c=(0,11)/\zAw t c=t.lines.length):=by
 unfold zAR;rw[if_neg (by rw[h];decide)];by_cases a:zAw t c<t.lines.length
 ·rw[if_pos a];exact .inl ⟨a,rfl,List.findIdx_getElem (p:=λl:zI=>zCZ t.dom c l.when_) (w:=a)⟩
 ·rw[if_neg a];exact .inr ⟨rfl,Nat.le_antisymm List.findIdx_le_length (by omega)⟩
theorem zPW{i:Nat}(hi:i<t.lines.length)(h:i<zAw t c):zCZ t.dom c t.lines[i].when_ =false:=by
 have:=List.not_of_lt_findIdx (p:=λl:zI=>zCZ t.dom c l.when_) (xs:=t.lines) (i:=i) h;simpa using this
theorem zTc(h:(z7 t&&fits t.dom c)=false):zAR t c=(0,1):=by unfold zAR;rw[if_pos h]
theorem zKZ(h:VT t)(d:fits t.dom c=true):outT t c=(zBL t c,decide (zBL t c≠zAi)):=by
 cases a:zBA t.dom c t.lines with
 |some l=>
  obtain⟨g,f,e⟩:=zIB h d a;have i:=h.key (l:=l) (e▸List.getElem_mem f);have b:zBL t c=zAo l:=by unfold zBL zAe;rw[a];rfl
  unfold outT;rw[g,if_pos rfl,List.getElem?_eq_getElem f,e,b];simp[i]
 |none=>
  have b:zBL t c=zAi:=by unfold zBL zAe;rw[a];rfl
  unfold outT;rw[zKq h d a,if_neg (by decide),b];simp
theorem zSN(f:z7 a=true)(g:z7 b=true)(h:a.dom=b.dom):
  ((zS a b).2=0\/(zS a b).2=2)/\((zS b a).2=0\/(zS b a).2=2)/\
  ((zS a b).2=0->(zS b a).2=0->(zS b a).1=(zS a b).1/\
   (∀p,(zS a b).1=some p->fits a.dom p=true/\(outT a p).1≠(outT b p).1/\∀c,fits a.dom c=true->zC9 c p=true->outT a c=outT b c)/\
   ((zS a b).1=none->∀c,fits a.dom c=true->outT a c=outT b c)):=by
 have f:=zAj.1 f;have g:=zAj.1 g;obtain⟨o,q,s⟩:=zRj f g h
 have j:∀c,fits a.dom c=true->zBL a c=zBL b c->outT a c=outT b c:=λc d e=>by
  rw[zKZ f d,zKZ g (h▸d),e]
 refine⟨o,q,λz1 z2=> ?_⟩;obtain⟨k,m,n⟩:=s z1 z2;refine⟨k,λp v=> ?_,λu c d=>j c d (n u c d)⟩;obtain⟨i,w,x⟩:=m p v;refine⟨i,?_,λc d t=>j c d (x c d (zJa t))⟩;rw[zKZ f i,zKZ g (h▸i)];exact w
theorem zSO(h:z7 a=false\/z7 b=false\/a.dom≠b.dom):zS a b=(none,1)/\zS b a=(none,1):=by
 unfold zS;rw[if_pos h,if_pos (by rcases h with h|h|h;exact .inr (.inl h);exact .inl h;exact .inr (.inr λe=>h e.symm))];exact⟨rfl,rfl⟩
end Go.Proofs.YthpocbeoanipbaaGreatDoor
