/-
  DERIVED. GIVEN WITH THE SEED: THE CARDS: each row of YtaedcjcdpckkaaaGreatDoorRows.lean that lists a variable, with what it lists TIED to the program's text (the seventh form; the later family's looks); each row that meets fmt, with fmt's text TOLD by the authors' own Lean function (tested against real Go, not proved from fmt's source: count such statements apart). THE CARD IS WHAT COUNTS. Prove the row's statement (the work); the ties are given (YtaedcjcdpckkaaaGreatDoorTie.lean); close each card by the builder's one call (the guide's Derived/Test/ToyasCard.lean, 'card_holds'). Laid BY PROGRAM, IN A SANDBOX (cutbox-door.mjs). By AI agents, Wed Nov 11 2026. No macro, syntax, notation, axiom, sorry.
-/
import Derived.Test.YtaedcjcdpckkaaaGreatDoorRows
import GoSem.ClaimSeven
namespace Go.Proofs.YtaedcjcdpckkaaaGreatDoor
namespace Rows

/-- THE TIED CARD OF 'customhouselaw28.PartsMatchesReference'. -/
def partsMatchesReferenceCard : Claim7 := { stood := { row := partsMatchesReferenceRow, standIns := [], harness := (true, "6153792142eb100ff59508268ab888eb745437a65818656218587bab2593252c"), looks := true }, kinds := [], alts := [], laidByText := true, laidKinds := [.data, .data, .data, .data, .sentinel, .sentinel, .pinned], laidTests := true, laidLooks := .later }
def PartsMatchesReferenceCardSaid : Prop := Claim7.holds Tryz.pinned (.plain (OpenSpec.ofChange partsMatchesReferenceSpec)) partsMatchesReferenceCard

/-- THE TIED CARD OF 'customhouselaw28.PartsOrder'. -/
def partsOrderCard : Claim7 := { stood := { row := partsOrderRow, standIns := [], harness := (true, "6153792142eb100ff59508268ab888eb745437a65818656218587bab2593252c"), looks := true }, kinds := [], alts := [], laidByText := true, laidKinds := [.data, .data, .data, .data, .sentinel, .sentinel, .pinned], laidTests := true, laidLooks := .later }
def PartsOrderCardSaid : Prop := Claim7.holds Tryz.pinned (.plain (OpenSpec.ofChange partsOrderSpec)) partsOrderCard

/-- THE TIED CARD OF 'customhouselaw28.PartsValues'. -/
def partsValuesCard : Claim7 := { stood := { row := partsValuesRow, standIns := [], harness := (true, "6153792142eb100ff59508268ab888eb745437a65818656218587bab2593252c"), looks := true }, kinds := [], alts := [], laidByText := true, laidKinds := [.data, .data, .data, .data, .sentinel, .sentinel, .pinned], laidTests := true, laidLooks := .later }
def PartsValuesCardSaid : Prop := Claim7.holds Tryz.pinned (.plain (OpenSpec.ofChange partsValuesSpec)) partsValuesCard

/-- THE TIED CARD OF 'customhouselaw28.PartsTurned'. -/
def partsTurnedCard : Claim7 := { stood := { row := partsTurnedRow, standIns := [], harness := (true, "6153792142eb100ff59508268ab888eb745437a65818656218587bab2593252c"), looks := true }, kinds := [], alts := [], laidByText := true, laidKinds := [.data, .data, .data, .data, .sentinel, .sentinel, .pinned], laidTests := true, laidLooks := .later }
def PartsTurnedCardSaid : Prop := Claim7.holds Tryz.pinned (.plain (OpenSpec.ofChange partsTurnedSpec)) partsTurnedCard

/-- THE TIED CARD OF 'customhouselaw28.PartsControlled'. -/
def partsControlledCard : Claim7 := { stood := { row := partsControlledRow, standIns := [], harness := (true, "6153792142eb100ff59508268ab888eb745437a65818656218587bab2593252c"), looks := true }, kinds := [], alts := [], laidByText := true, laidKinds := [.data, .data, .data, .data, .sentinel, .sentinel, .pinned], laidTests := true, laidLooks := .later }
def PartsControlledCardSaid : Prop := Claim7.holds Tryz.pinned (.plain (OpenSpec.ofChange partsControlledSpec)) partsControlledCard

/-- THE TIED CARD OF 'customhouselaw28.PartsShare'. -/
def partsShareCard : Claim7 := { stood := { row := partsShareRow, standIns := [], harness := (true, "6153792142eb100ff59508268ab888eb745437a65818656218587bab2593252c"), looks := true }, kinds := [], alts := [], laidByText := true, laidKinds := [.data, .data, .data, .data, .sentinel, .sentinel, .pinned], laidTests := true, laidLooks := .later }
def PartsShareCardSaid : Prop := Claim7.holds Tryz.pinned (.plain (OpenSpec.ofChange partsShareSpec)) partsShareCard

/-- THE TIED CARD OF 'customhouselaw28.PartsWrapped'. -/
def partsWrappedCard : Claim7 := { stood := { row := partsWrappedRow, standIns := [], harness := (true, "6153792142eb100ff59508268ab888eb745437a65818656218587bab2593252c"), looks := true }, kinds := [], alts := [], laidByText := true, laidKinds := [.data, .data, .data, .data, .sentinel, .sentinel, .pinned], laidTests := true, laidLooks := .later }
def PartsWrappedCardSaid : Prop := Claim7.holds Tryz.pinned (.plain (OpenSpec.ofChange partsWrappedSpec)) partsWrappedCard

/-- THE SECOND FORM's CARD OF 'customhouselaw28.PartsMatchesReference'. -/
def partsMatchesReferenceUptoCard : Claim7 := { stood := { row := partsMatchesReferenceUptoRow, standIns := [], harness := (true, "6153792142eb100ff59508268ab888eb745437a65818656218587bab2593252c"), looks := true }, kinds := [], alts := [], laidByText := true, laidKinds := [.data, .data, .data, .data, .sentinel, .sentinel, .pinned], laidTests := true, laidLooks := .later }
def PartsMatchesReferenceUptoCardSaid : Prop := Claim7.holds Tryz.pinned (.plain (OpenSpec.upto partsMatchesReferenceSpec)) partsMatchesReferenceUptoCard

/-- THE SECOND FORM's CARD OF 'customhouselaw28.PartsOrder'. -/
def partsOrderUptoCard : Claim7 := { stood := { row := partsOrderUptoRow, standIns := [], harness := (true, "6153792142eb100ff59508268ab888eb745437a65818656218587bab2593252c"), looks := true }, kinds := [], alts := [], laidByText := true, laidKinds := [.data, .data, .data, .data, .sentinel, .sentinel, .pinned], laidTests := true, laidLooks := .later }
def PartsOrderUptoCardSaid : Prop := Claim7.holds Tryz.pinned (.plain (OpenSpec.upto partsOrderSpec)) partsOrderUptoCard

/-- THE SECOND FORM's CARD OF 'customhouselaw28.PartsValues'. -/
def partsValuesUptoCard : Claim7 := { stood := { row := partsValuesUptoRow, standIns := [], harness := (true, "6153792142eb100ff59508268ab888eb745437a65818656218587bab2593252c"), looks := true }, kinds := [], alts := [], laidByText := true, laidKinds := [.data, .data, .data, .data, .sentinel, .sentinel, .pinned], laidTests := true, laidLooks := .later }
def PartsValuesUptoCardSaid : Prop := Claim7.holds Tryz.pinned (.plain (OpenSpec.upto partsValuesSpec)) partsValuesUptoCard

/-- THE SECOND FORM's CARD OF 'customhouselaw28.PartsTurned'. -/
def partsTurnedUptoCard : Claim7 := { stood := { row := partsTurnedUptoRow, standIns := [], harness := (true, "6153792142eb100ff59508268ab888eb745437a65818656218587bab2593252c"), looks := true }, kinds := [], alts := [], laidByText := true, laidKinds := [.data, .data, .data, .data, .sentinel, .sentinel, .pinned], laidTests := true, laidLooks := .later }
def PartsTurnedUptoCardSaid : Prop := Claim7.holds Tryz.pinned (.plain (OpenSpec.upto partsTurnedSpec)) partsTurnedUptoCard

/-- THE SECOND FORM's CARD OF 'customhouselaw28.PartsControlled'. -/
def partsControlledUptoCard : Claim7 := { stood := { row := partsControlledUptoRow, standIns := [], harness := (true, "6153792142eb100ff59508268ab888eb745437a65818656218587bab2593252c"), looks := true }, kinds := [], alts := [], laidByText := true, laidKinds := [.data, .data, .data, .data, .sentinel, .sentinel, .pinned], laidTests := true, laidLooks := .later }
def PartsControlledUptoCardSaid : Prop := Claim7.holds Tryz.pinned (.plain (OpenSpec.upto partsControlledSpec)) partsControlledUptoCard

/-- THE SECOND FORM's CARD OF 'customhouselaw28.PartsShare'. -/
def partsShareUptoCard : Claim7 := { stood := { row := partsShareUptoRow, standIns := [], harness := (true, "6153792142eb100ff59508268ab888eb745437a65818656218587bab2593252c"), looks := true }, kinds := [], alts := [], laidByText := true, laidKinds := [.data, .data, .data, .data, .sentinel, .sentinel, .pinned], laidTests := true, laidLooks := .later }
def PartsShareUptoCardSaid : Prop := Claim7.holds Tryz.pinned (.plain (OpenSpec.upto partsShareSpec)) partsShareUptoCard

/-- THE SECOND FORM's CARD OF 'customhouselaw28.PartsWrapped'. -/
def partsWrappedUptoCard : Claim7 := { stood := { row := partsWrappedUptoRow, standIns := [], harness := (true, "6153792142eb100ff59508268ab888eb745437a65818656218587bab2593252c"), looks := true }, kinds := [], alts := [], laidByText := true, laidKinds := [.data, .data, .data, .data, .sentinel, .sentinel, .pinned], laidTests := true, laidLooks := .later }
def PartsWrappedUptoCardSaid : Prop := Claim7.holds Tryz.pinned (.plain (OpenSpec.upto partsWrappedSpec)) partsWrappedUptoCard
end Rows
end Go.Proofs.YtaedcjcdpckkaaaGreatDoor
