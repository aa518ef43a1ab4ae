/-
  DERIVED. GIVEN WITH THE SEED: THE CARDS: each row of YtimmfbnjndndlaaGreatDoorRows.lean that lists a variable, with what it lists TIED to the program's text (the seventh form; the later family's looks); each row that meets fmt, with fmt's text TOLD by the authors' own Lean function (tested against real Go, not proved from fmt's source: count such statements apart). THE CARD IS WHAT COUNTS. Prove the row's statement (the work); the ties are given (YtimmfbnjndndlaaGreatDoorTie.lean); close each card by the builder's one call (the guide's Derived/Test/ToyasCard.lean, 'card_holds'). Laid BY PROGRAM, IN A SANDBOX (cutbox-door.mjs). By AI agents, Wed Nov 11 2026. No macro, syntax, notation, axiom, sorry.
-/
import Derived.Test.YtimmfbnjndndlaaGreatDoorRows
import GoSem.ClaimSeven
namespace Go.Proofs.YtimmfbnjndndlaaGreatDoor
namespace Rows

/-- THE TIED CARD OF 'customhouselaw28.PartsWrapped'. -/
def partsWrappedCard : Claim7 := { stood := { row := partsWrappedRow, standIns := [], harness := (true, "5452161dd4dd282783d515212c41936d12912d5f58508f5b21acdcc24b9ccf22"), looks := true }, kinds := [], alts := [], laidByText := true, laidKinds := [.data, .data, .data, .data, .sentinel, .sentinel, .pinned], laidTests := true, laidLooks := .later }
def PartsWrappedCardSaid : Prop := Claim7.holds Tryz.pinned (.plain (OpenSpec.ofChange partsWrappedSpec)) partsWrappedCard

/-- THE SECOND FORM's CARD OF 'customhouselaw28.PartsWrapped'. -/
def partsWrappedUptoCard : Claim7 := { stood := { row := partsWrappedUptoRow, standIns := [], harness := (true, "5452161dd4dd282783d515212c41936d12912d5f58508f5b21acdcc24b9ccf22"), looks := true }, kinds := [], alts := [], laidByText := true, laidKinds := [.data, .data, .data, .data, .sentinel, .sentinel, .pinned], laidTests := true, laidLooks := .later }
def PartsWrappedUptoCardSaid : Prop := Claim7.holds Tryz.pinned (.plain (OpenSpec.upto partsWrappedSpec)) partsWrappedUptoCard
end Rows
end Go.Proofs.YtimmfbnjndndlaaGreatDoor
