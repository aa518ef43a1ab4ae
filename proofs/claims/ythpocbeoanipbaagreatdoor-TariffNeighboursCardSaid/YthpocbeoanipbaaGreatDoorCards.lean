/-
  DERIVED. GIVEN WITH THE SEED: THE CARDS: each row of YthpocbeoanipbaaGreatDoorRows.lean that lists a variable, with what it lists TIED to the program's text (the seventh form; the later family's looks); each row that meets fmt, with fmt's text TOLD by the authors' own Lean function (tested against real Go, not proved from fmt's source: count such statements apart). THE CARD IS WHAT COUNTS. Prove the row's statement (the work); the ties are given (YthpocbeoanipbaaGreatDoorTie.lean); close each card by the builder's one call (the guide's Derived/Test/ToyasCard.lean, 'card_holds'). Laid BY PROGRAM, IN A SANDBOX (cutbox-door.mjs). By AI agents, Wed Nov 11 2026. No macro, syntax, notation, axiom, sorry.
-/
import Derived.Test.YthpocbeoanipbaaGreatDoorRows
import GoSem.ClaimSeven
namespace Go.Proofs.YthpocbeoanipbaaGreatDoor
namespace Rows

/-- THE TIED CARD OF 'customhouselaw27.TariffFirst'. -/
def tariffFirstCard : Claim7 := { stood := { row := tariffFirstRow, standIns := [], harness := (true, "9d5f64aa18c290daaccff0ab2ce20b26d467f80ee7c9efc2112ab5ceb4813111"), looks := true }, kinds := [], alts := [], laidByText := true, laidKinds := [.data, .data, .data, .sentinel, .sentinel], laidTests := true, laidLooks := .later }
def TariffFirstCardSaid : Prop := Claim7.holds Tryz.pinned (.plain (OpenSpec.ofChange tariffFirstSpec)) tariffFirstCard

/-- THE TIED CARD OF 'customhouselaw27.TariffGap'. -/
def tariffGapCard : Claim7 := { stood := { row := tariffGapRow, standIns := [], harness := (true, "9d5f64aa18c290daaccff0ab2ce20b26d467f80ee7c9efc2112ab5ceb4813111"), looks := true }, kinds := [], alts := [], laidByText := true, laidKinds := [.data, .data, .data, .sentinel, .sentinel], laidTests := true, laidLooks := .later }
def TariffGapCardSaid : Prop := Claim7.holds Tryz.pinned (.plain (OpenSpec.ofChange tariffGapSpec)) tariffGapCard

/-- THE TIED CARD OF 'customhouselaw27.TariffDead'. -/
def tariffDeadCard : Claim7 := { stood := { row := tariffDeadRow, standIns := [], harness := (true, "9d5f64aa18c290daaccff0ab2ce20b26d467f80ee7c9efc2112ab5ceb4813111"), looks := true }, kinds := [], alts := [], laidByText := true, laidKinds := [.data, .data, .data, .sentinel, .sentinel], laidTests := true, laidLooks := .later }
def TariffDeadCardSaid : Prop := Claim7.holds Tryz.pinned (.plain (OpenSpec.ofChange tariffDeadSpec)) tariffDeadCard

/-- THE TIED CARD OF 'customhouselaw27.TariffDiffers'. -/
def tariffDiffersCard : Claim7 := { stood := { row := tariffDiffersRow, standIns := [], harness := (true, "9d5f64aa18c290daaccff0ab2ce20b26d467f80ee7c9efc2112ab5ceb4813111"), looks := true }, kinds := [], alts := [], laidByText := true, laidKinds := [.data, .data, .data, .sentinel, .sentinel], laidTests := true, laidLooks := .later }
def TariffDiffersCardSaid : Prop := Claim7.holds Tryz.pinned (.plain (OpenSpec.ofChange tariffDiffersSpec)) tariffDiffersCard

/-- THE TIED CARD OF 'customhouselaw27.TariffNeighbours'. -/
def tariffNeighboursCard : Claim7 := { stood := { row := tariffNeighboursRow, standIns := [], harness := (true, "9d5f64aa18c290daaccff0ab2ce20b26d467f80ee7c9efc2112ab5ceb4813111"), looks := true }, kinds := [], alts := [], laidByText := true, laidKinds := [.data, .data, .data, .sentinel, .sentinel], laidTests := true, laidLooks := .later }
def TariffNeighboursCardSaid : Prop := Claim7.holds Tryz.pinned (.plain (OpenSpec.ofChange tariffNeighboursSpec)) tariffNeighboursCard

/-- THE TIED CARD OF 'customhouselaw27.TariffLast'. -/
def tariffLastCard : Claim7 := { stood := { row := tariffLastRow, standIns := [], harness := (true, "9d5f64aa18c290daaccff0ab2ce20b26d467f80ee7c9efc2112ab5ceb4813111"), looks := true }, kinds := [], alts := [], laidByText := true, laidKinds := [.data, .data, .data, .sentinel, .sentinel], laidTests := true, laidLooks := .later }
def TariffLastCardSaid : Prop := Claim7.holds Tryz.pinned (.plain (OpenSpec.ofChange tariffLastSpec)) tariffLastCard

/-- THE SECOND FORM's CARD OF 'customhouselaw27.TariffFirst'. -/
def tariffFirstUptoCard : Claim7 := { stood := { row := tariffFirstUptoRow, standIns := [], harness := (true, "9d5f64aa18c290daaccff0ab2ce20b26d467f80ee7c9efc2112ab5ceb4813111"), looks := true }, kinds := [], alts := [], laidByText := true, laidKinds := [.data, .data, .data, .sentinel, .sentinel], laidTests := true, laidLooks := .later }
def TariffFirstUptoCardSaid : Prop := Claim7.holds Tryz.pinned (.plain (OpenSpec.upto tariffFirstSpec)) tariffFirstUptoCard

/-- THE SECOND FORM's CARD OF 'customhouselaw27.TariffGap'. -/
def tariffGapUptoCard : Claim7 := { stood := { row := tariffGapUptoRow, standIns := [], harness := (true, "9d5f64aa18c290daaccff0ab2ce20b26d467f80ee7c9efc2112ab5ceb4813111"), looks := true }, kinds := [], alts := [], laidByText := true, laidKinds := [.data, .data, .data, .sentinel, .sentinel], laidTests := true, laidLooks := .later }
def TariffGapUptoCardSaid : Prop := Claim7.holds Tryz.pinned (.plain (OpenSpec.upto tariffGapSpec)) tariffGapUptoCard

/-- THE SECOND FORM's CARD OF 'customhouselaw27.TariffDead'. -/
def tariffDeadUptoCard : Claim7 := { stood := { row := tariffDeadUptoRow, standIns := [], harness := (true, "9d5f64aa18c290daaccff0ab2ce20b26d467f80ee7c9efc2112ab5ceb4813111"), looks := true }, kinds := [], alts := [], laidByText := true, laidKinds := [.data, .data, .data, .sentinel, .sentinel], laidTests := true, laidLooks := .later }
def TariffDeadUptoCardSaid : Prop := Claim7.holds Tryz.pinned (.plain (OpenSpec.upto tariffDeadSpec)) tariffDeadUptoCard

/-- THE SECOND FORM's CARD OF 'customhouselaw27.TariffDiffers'. -/
def tariffDiffersUptoCard : Claim7 := { stood := { row := tariffDiffersUptoRow, standIns := [], harness := (true, "9d5f64aa18c290daaccff0ab2ce20b26d467f80ee7c9efc2112ab5ceb4813111"), looks := true }, kinds := [], alts := [], laidByText := true, laidKinds := [.data, .data, .data, .sentinel, .sentinel], laidTests := true, laidLooks := .later }
def TariffDiffersUptoCardSaid : Prop := Claim7.holds Tryz.pinned (.plain (OpenSpec.upto tariffDiffersSpec)) tariffDiffersUptoCard

/-- THE SECOND FORM's CARD OF 'customhouselaw27.TariffNeighbours'. -/
def tariffNeighboursUptoCard : Claim7 := { stood := { row := tariffNeighboursUptoRow, standIns := [], harness := (true, "9d5f64aa18c290daaccff0ab2ce20b26d467f80ee7c9efc2112ab5ceb4813111"), looks := true }, kinds := [], alts := [], laidByText := true, laidKinds := [.data, .data, .data, .sentinel, .sentinel], laidTests := true, laidLooks := .later }
def TariffNeighboursUptoCardSaid : Prop := Claim7.holds Tryz.pinned (.plain (OpenSpec.upto tariffNeighboursSpec)) tariffNeighboursUptoCard

/-- THE SECOND FORM's CARD OF 'customhouselaw27.TariffLast'. -/
def tariffLastUptoCard : Claim7 := { stood := { row := tariffLastUptoRow, standIns := [], harness := (true, "9d5f64aa18c290daaccff0ab2ce20b26d467f80ee7c9efc2112ab5ceb4813111"), looks := true }, kinds := [], alts := [], laidByText := true, laidKinds := [.data, .data, .data, .sentinel, .sentinel], laidTests := true, laidLooks := .later }
def TariffLastUptoCardSaid : Prop := Claim7.holds Tryz.pinned (.plain (OpenSpec.upto tariffLastSpec)) tariffLastUptoCard
end Rows
end Go.Proofs.YthpocbeoanipbaaGreatDoor
