/-
  DERIVED. GIVEN WITH THE SEED: THE CARDS: each row of YtommaegelgilnaaGreatDoorRows.lean that lists a variable, with what it lists TIED to the program's text (the seventh form; the later family's looks); each row that meets fmt, with fmt's text TOLD by the authors' own Lean function (tested against real Go, not proved from fmt's source: count such statements apart). THE CARD IS WHAT COUNTS. Prove the row's statement (the work); the ties are given (YtommaegelgilnaaGreatDoorTie.lean); close each card by the builder's one call (the guide's Derived/Test/ToyasCard.lean, 'card_holds'). Laid BY PROGRAM, IN A SANDBOX (cutbox-door.mjs). By AI agents, Wed Nov 11 2026. No macro, syntax, notation, axiom, sorry.
-/
import Derived.Test.YtommaegelgilnaaGreatDoorRows
import GoSem.ClaimSeven
namespace Go.Proofs.YtommaegelgilnaaGreatDoor
namespace Rows

/-- THE TIED CARD OF 'customhouselaw33.EqualMatchesReference'. -/
def equalMatchesReferenceCard : Claim7 := { stood := { row := equalMatchesReferenceRow, standIns := [], harness := (true, "b7c691893ac5ffd63a8a77a1c3b8b90599a3d2dc70d51f5bf9900650e53e98a9"), looks := true }, kinds := [], alts := [], laidByText := true, laidKinds := [.data, .data, .data, .sentinel, .sentinel], laidTests := true, laidLooks := .later }
def EqualMatchesReferenceCardSaid : Prop := Claim7.holds Tryz.pinned (.plain (OpenSpec.ofChange equalMatchesReferenceSpec)) equalMatchesReferenceCard

/-- THE TIED CARD OF 'customhouselaw33.EqualShows'. -/
def equalShowsCard : Claim7 := { stood := { row := equalShowsRow, standIns := [], harness := (true, "b7c691893ac5ffd63a8a77a1c3b8b90599a3d2dc70d51f5bf9900650e53e98a9"), looks := true }, kinds := [], alts := [], laidByText := true, laidKinds := [.data, .data, .data, .sentinel, .sentinel], laidTests := true, laidLooks := .later }
def EqualShowsCardSaid : Prop := Claim7.holds Tryz.pinned (.plain (OpenSpec.ofChange equalShowsSpec)) equalShowsCard

/-- THE TIED CARD OF 'customhouselaw33.EqualFirst'. -/
def equalFirstCard : Claim7 := { stood := { row := equalFirstRow, standIns := [], harness := (true, "b7c691893ac5ffd63a8a77a1c3b8b90599a3d2dc70d51f5bf9900650e53e98a9"), looks := true }, kinds := [], alts := [], laidByText := true, laidKinds := [.data, .data, .data, .sentinel, .sentinel], laidTests := true, laidLooks := .later }
def EqualFirstCardSaid : Prop := Claim7.holds Tryz.pinned (.plain (OpenSpec.ofChange equalFirstSpec)) equalFirstCard

/-- THE TIED CARD OF 'customhouselaw33.EqualTurned'. -/
def equalTurnedCard : Claim7 := { stood := { row := equalTurnedRow, standIns := [], harness := (true, "b7c691893ac5ffd63a8a77a1c3b8b90599a3d2dc70d51f5bf9900650e53e98a9"), looks := true }, kinds := [], alts := [], laidByText := true, laidKinds := [.data, .data, .data, .sentinel, .sentinel], laidTests := true, laidLooks := .later }
def EqualTurnedCardSaid : Prop := Claim7.holds Tryz.pinned (.plain (OpenSpec.ofChange equalTurnedSpec)) equalTurnedCard

/-- THE TIED CARD OF 'customhouselaw33.EqualOrder'. -/
def equalOrderCard : Claim7 := { stood := { row := equalOrderRow, standIns := [], harness := (true, "b7c691893ac5ffd63a8a77a1c3b8b90599a3d2dc70d51f5bf9900650e53e98a9"), looks := true }, kinds := [], alts := [], laidByText := true, laidKinds := [.data, .data, .data, .sentinel, .sentinel], laidTests := true, laidLooks := .later }
def EqualOrderCardSaid : Prop := Claim7.holds Tryz.pinned (.plain (OpenSpec.ofChange equalOrderSpec)) equalOrderCard

/-- THE TIED CARD OF 'customhouselaw33.EqualOthers'. -/
def equalOthersCard : Claim7 := { stood := { row := equalOthersRow, standIns := [], harness := (true, "b7c691893ac5ffd63a8a77a1c3b8b90599a3d2dc70d51f5bf9900650e53e98a9"), looks := true }, kinds := [], alts := [], laidByText := true, laidKinds := [.data, .data, .data, .sentinel, .sentinel], laidTests := true, laidLooks := .later }
def EqualOthersCardSaid : Prop := Claim7.holds Tryz.pinned (.plain (OpenSpec.ofChange equalOthersSpec)) equalOthersCard

/-- THE TIED CARD OF 'customhouselaw33.EqualTwice'. -/
def equalTwiceCard : Claim7 := { stood := { row := equalTwiceRow, standIns := [], harness := (true, "b7c691893ac5ffd63a8a77a1c3b8b90599a3d2dc70d51f5bf9900650e53e98a9"), looks := true }, kinds := [], alts := [], laidByText := true, laidKinds := [.data, .data, .data, .sentinel, .sentinel], laidTests := true, laidLooks := .later }
def EqualTwiceCardSaid : Prop := Claim7.holds Tryz.pinned (.plain (OpenSpec.ofChange equalTwiceSpec)) equalTwiceCard

/-- THE SECOND FORM's CARD OF 'customhouselaw33.EqualMatchesReference'. -/
def equalMatchesReferenceUptoCard : Claim7 := { stood := { row := equalMatchesReferenceUptoRow, standIns := [], harness := (true, "b7c691893ac5ffd63a8a77a1c3b8b90599a3d2dc70d51f5bf9900650e53e98a9"), looks := true }, kinds := [], alts := [], laidByText := true, laidKinds := [.data, .data, .data, .sentinel, .sentinel], laidTests := true, laidLooks := .later }
def EqualMatchesReferenceUptoCardSaid : Prop := Claim7.holds Tryz.pinned (.plain (OpenSpec.upto equalMatchesReferenceSpec)) equalMatchesReferenceUptoCard

/-- THE SECOND FORM's CARD OF 'customhouselaw33.EqualShows'. -/
def equalShowsUptoCard : Claim7 := { stood := { row := equalShowsUptoRow, standIns := [], harness := (true, "b7c691893ac5ffd63a8a77a1c3b8b90599a3d2dc70d51f5bf9900650e53e98a9"), looks := true }, kinds := [], alts := [], laidByText := true, laidKinds := [.data, .data, .data, .sentinel, .sentinel], laidTests := true, laidLooks := .later }
def EqualShowsUptoCardSaid : Prop := Claim7.holds Tryz.pinned (.plain (OpenSpec.upto equalShowsSpec)) equalShowsUptoCard

/-- THE SECOND FORM's CARD OF 'customhouselaw33.EqualFirst'. -/
def equalFirstUptoCard : Claim7 := { stood := { row := equalFirstUptoRow, standIns := [], harness := (true, "b7c691893ac5ffd63a8a77a1c3b8b90599a3d2dc70d51f5bf9900650e53e98a9"), looks := true }, kinds := [], alts := [], laidByText := true, laidKinds := [.data, .data, .data, .sentinel, .sentinel], laidTests := true, laidLooks := .later }
def EqualFirstUptoCardSaid : Prop := Claim7.holds Tryz.pinned (.plain (OpenSpec.upto equalFirstSpec)) equalFirstUptoCard

/-- THE SECOND FORM's CARD OF 'customhouselaw33.EqualTurned'. -/
def equalTurnedUptoCard : Claim7 := { stood := { row := equalTurnedUptoRow, standIns := [], harness := (true, "b7c691893ac5ffd63a8a77a1c3b8b90599a3d2dc70d51f5bf9900650e53e98a9"), looks := true }, kinds := [], alts := [], laidByText := true, laidKinds := [.data, .data, .data, .sentinel, .sentinel], laidTests := true, laidLooks := .later }
def EqualTurnedUptoCardSaid : Prop := Claim7.holds Tryz.pinned (.plain (OpenSpec.upto equalTurnedSpec)) equalTurnedUptoCard

/-- THE SECOND FORM's CARD OF 'customhouselaw33.EqualOrder'. -/
def equalOrderUptoCard : Claim7 := { stood := { row := equalOrderUptoRow, standIns := [], harness := (true, "b7c691893ac5ffd63a8a77a1c3b8b90599a3d2dc70d51f5bf9900650e53e98a9"), looks := true }, kinds := [], alts := [], laidByText := true, laidKinds := [.data, .data, .data, .sentinel, .sentinel], laidTests := true, laidLooks := .later }
def EqualOrderUptoCardSaid : Prop := Claim7.holds Tryz.pinned (.plain (OpenSpec.upto equalOrderSpec)) equalOrderUptoCard

/-- THE SECOND FORM's CARD OF 'customhouselaw33.EqualOthers'. -/
def equalOthersUptoCard : Claim7 := { stood := { row := equalOthersUptoRow, standIns := [], harness := (true, "b7c691893ac5ffd63a8a77a1c3b8b90599a3d2dc70d51f5bf9900650e53e98a9"), looks := true }, kinds := [], alts := [], laidByText := true, laidKinds := [.data, .data, .data, .sentinel, .sentinel], laidTests := true, laidLooks := .later }
def EqualOthersUptoCardSaid : Prop := Claim7.holds Tryz.pinned (.plain (OpenSpec.upto equalOthersSpec)) equalOthersUptoCard

/-- THE SECOND FORM's CARD OF 'customhouselaw33.EqualTwice'. -/
def equalTwiceUptoCard : Claim7 := { stood := { row := equalTwiceUptoRow, standIns := [], harness := (true, "b7c691893ac5ffd63a8a77a1c3b8b90599a3d2dc70d51f5bf9900650e53e98a9"), looks := true }, kinds := [], alts := [], laidByText := true, laidKinds := [.data, .data, .data, .sentinel, .sentinel], laidTests := true, laidLooks := .later }
def EqualTwiceUptoCardSaid : Prop := Claim7.holds Tryz.pinned (.plain (OpenSpec.upto equalTwiceSpec)) equalTwiceUptoCard
end Rows
end Go.Proofs.YtommaegelgilnaaGreatDoor
