/-
  DERIVED. GIVEN WITH THE SEED: THE CARDS: each row of YtonmdbdopchkaaaGreatDoorRows.lean that lists a variable, with what it lists TIED to the program's text (the seventh form; the later family's looks); each row that meets fmt, with fmt's text TOLD by the authors' own Lean function (tested against real Go, not proved from fmt's source: count such statements apart). THE CARD IS WHAT COUNTS. Prove the row's statement (the work); the ties are given (YtonmdbdopchkaaaGreatDoorTie.lean); close each card by the builder's one call (the guide's Derived/Test/ToyasCard.lean, 'card_holds'). Laid BY PROGRAM, IN A SANDBOX (cutbox-door.mjs). By AI agents, Wed Nov 11 2026. No macro, syntax, notation, axiom, sorry.
-/
import Derived.Test.YtonmdbdopchkaaaGreatDoorRows
import GoSem.ClaimSeven
namespace Go.Proofs.YtonmdbdopchkaaaGreatDoor
namespace Rows

/-- THE TIED CARD OF 'customhouselaw26.DiagramMatchesReference'. -/
def diagramMatchesReferenceCard : Claim7 := { stood := { row := diagramMatchesReferenceRow, standIns := [], harness := (true, "6d07bb31f24f463ea83b747315759bd421efc6321bbac119f33ae2fe324b630f"), looks := true }, kinds := [], alts := [], laidByText := true, laidKinds := [.data, .data, .data, .sentinel, .sentinel], laidTests := true, laidLooks := .later }
def DiagramMatchesReferenceCardSaid : Prop := Claim7.holds Tryz.pinned (.plain (OpenSpec.ofChange diagramMatchesReferenceSpec)) diagramMatchesReferenceCard

/-- THE SECOND FORM's CARD OF 'customhouselaw26.DiagramMatchesReference'. -/
def diagramMatchesReferenceUptoCard : Claim7 := { stood := { row := diagramMatchesReferenceUptoRow, standIns := [], harness := (true, "6d07bb31f24f463ea83b747315759bd421efc6321bbac119f33ae2fe324b630f"), looks := true }, kinds := [], alts := [], laidByText := true, laidKinds := [.data, .data, .data, .sentinel, .sentinel], laidTests := true, laidLooks := .later }
def DiagramMatchesReferenceUptoCardSaid : Prop := Claim7.holds Tryz.pinned (.plain (OpenSpec.upto diagramMatchesReferenceSpec)) diagramMatchesReferenceUptoCard
end Rows
end Go.Proofs.YtonmdbdopchkaaaGreatDoor
