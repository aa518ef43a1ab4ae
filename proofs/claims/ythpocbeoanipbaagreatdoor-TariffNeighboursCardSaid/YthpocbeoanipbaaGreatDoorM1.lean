/- Texts N1 N2 N3 QT R2. -/
import Derived.WalkKit
import Derived.Lib.ItoaNum
import Derived.Lib.ItoaMem
import Derived.Deep.QuietTactic
import Derived.BigQuiet
import Derived.ProofKit
import Derived.JoinedOf
set_option linter.all false
namespace Go.Proofs.YthpocbeoanipbaaGreatDoor
open Go.RowKit
variable{P:Program}{args:Array Value}{f:FuncId}{n:Nat}{v:Value}{w:World}
def lv:List Nat->Nat
 |[]=>0
 |x::r=>x+1000000000*lv r
section
open Go.Lib (decDigits)
end
section
open Go.Lib (decDigits)
end
theorem zMf{a n:Nat}
  (h:Calls P f args (w.drewN (a+n)) λe w'=>e= .returned v/\w.drewN (a+n)=w'):
  Calls P f args (w.drewN (a+n)) λe b=>e= .returned v/\∃m,b=w.drewN (a+m):=
 h.mono λ_ _ ⟨he,hm⟩=>⟨he,n,hm.symm⟩
theorem zOZ
  (h:Calls P f args (w.drewN n) λe w'=>e= .returned v/\∃m,w'=(w.drewN n).drewN m):Calls P f args (w.drewN n) λe a=>e= .returned v/\∃m,a=w.drewN m:=
 h.mono λ_ _ ⟨he,m,hm⟩=>⟨he,n+m,by rw[hm,World.drewN_drewN]⟩
section
open Go
theorem zDS{a:Func}{s:ChangeSpec}{c:OpenClaim}
  (G:c.wf (OpenSpec.ofChange s)=true)(H:laidOutB P=true)(I:mapsRowed P=true)(J:a.params.all (P.readableRec ·)=true)(K:namedTie P c.named s.vars=true)
  (L:(c.stops==[])=true)(M:(P.stops==[])=true)(N:(c.knobs==[])=true)(O:(P.stopKnobs==[])=true)
  (d:(c.inPlace==P.inPlace f)=true)(e:(c.unfollowed==P.unfollowed f)=true)(g:(c.recurses==P.recurses f)=true)(h:(c.named==P.varsNamed f)=true)
  (i:(c.maps==(a.params.toList++s.plain.varTypes P).any (P.mapsRec ·))=true)(j:(c.ifaces==(a.params.toList++s.plain.varTypes P).any (P.ifacesRec ·))=true)(m:(c.mapsOut==P.mapsAmong a.resultTypes.toList)=true)
  (n:(c.loops==(a.params.toList++s.plain.varTypes P).any (P.loopsFrom ·))=true)(o:(c.wideKeys==(a.params.toList++s.plain.varTypes P++a.resultTypes.toList).any (P.wideKeysFrom ·))=true)
  (q:s.vars.all (P.varReadable ·)=true)(u:a.resultTypes.all (λt=>P.readableRec t&&decide (t<P.types.size))=true)(v:(c.ifacesOut==a.resultTypes.toList.any (P.ifacesRec ·))=true)(w:(c.loopsOut==a.resultTypes.toList.any (P.loopsFrom ·))=true)
  (x:(c.plainKeys==P.plainKeys)=true)(y:c.shortTexts.isNone=true)(z:P.stopsHeard=true)(A:P.mayEnter=true)(B:(c.lifted==P.liftsFinal)=true)(C:(P.make==some c.make)=true)
  (b:(c.kinds==(if c.domain.isEmpty then[]else a.params.toList.map λt=>match P.underlying t with|some (.int k)=>some k| _=>none))=true)(D:(c.pinned==c.pinnedBy)=true)
  (E:(c.veiled==(a.params.toList++s.plain.varTypes P++a.resultTypes.toList).any (P.veiledRec ·))=true)(F:c.veiledFits P a.params.toList (a.params.toList++s.plain.varTypes P++a.resultTypes.toList)=true):
  joinedFacts P f a s c=true:=by
 unfold joinedFacts;simp only[Bool.and_eq_true]
 repeat' apply And.intro
 all_goals first|assumption|exact b
end
end Go.Proofs.YthpocbeoanipbaaGreatDoor
