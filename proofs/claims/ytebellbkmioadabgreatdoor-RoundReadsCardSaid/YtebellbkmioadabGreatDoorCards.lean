/-
  DERIVED. GIVEN WITH THE SEED: THE CARDS: each row of YtebellbkmioadabGreatDoorRows.lean that lists a variable, with what it lists TIED to the program's text (the seventh form; the later family's looks); each row that meets fmt, with fmt's text TOLD by the authors' own Lean function (tested against real Go, not proved from fmt's source: count such statements apart). THE CARD IS WHAT COUNTS. Prove the row's statement (the work); the ties are given (YtebellbkmioadabGreatDoorTie.lean); close each card by the builder's one call (the guide's Derived/Test/ToyasCard.lean, 'card_holds'). Laid BY PROGRAM, IN A SANDBOX (cutbox-door.mjs). By AI agents, Wed Nov 11 2026. No macro, syntax, notation, axiom, sorry.
-/
import Derived.Test.YtebellbkmioadabGreatDoorRows
import GoSem.ClaimSeven
namespace Go.Proofs.YtebellbkmioadabGreatDoor
namespace Rows

/-- THE TIED CARD OF 'ephemeristlaw04.RoundMore'. -/
def roundMoreCard : Claim7 := { stood := { row := roundMoreRow, standIns := [], harness := (true, "54bc54d732b00ab41745012f143d3a299984cc0782d0007b60a3d798b30a7197"), looks := true }, kinds := [], alts := [], laidByText := true, laidKinds := [.data, .data, .data, .data, .pinned], laidTests := true, laidLooks := .later }
def RoundMoreCardSaid : Prop := Claim7.holds Tryz.pinned (.plain (OpenSpec.ofChange roundMoreSpec)) roundMoreCard

/-- THE TIED CARD OF 'ephemeristlaw04.RoundTurned'. -/
def roundTurnedCard : Claim7 := { stood := { row := roundTurnedRow, standIns := [], harness := (true, "54bc54d732b00ab41745012f143d3a299984cc0782d0007b60a3d798b30a7197"), looks := true }, kinds := [], alts := [], laidByText := true, laidKinds := [.data, .data, .data, .data, .pinned], laidTests := true, laidLooks := .later }
def RoundTurnedCardSaid : Prop := Claim7.holds Tryz.pinned (.plain (OpenSpec.ofChange roundTurnedSpec)) roundTurnedCard

/-- THE TIED CARD OF 'ephemeristlaw04.RoundFigures'. -/
def roundFiguresCard : Claim7 := { stood := { row := roundFiguresRow, standIns := [], harness := (true, "54bc54d732b00ab41745012f143d3a299984cc0782d0007b60a3d798b30a7197"), looks := true }, kinds := [], alts := [], laidByText := true, laidKinds := [.data, .data, .data, .data, .pinned], laidTests := true, laidLooks := .later }
def RoundFiguresCardSaid : Prop := Claim7.holds Tryz.pinned (.plain (OpenSpec.ofChange roundFiguresSpec)) roundFiguresCard

/-- THE TIED CARD OF 'ephemeristlaw04.RoundPrints'. -/
def roundPrintsCard : Claim7 := { stood := { row := roundPrintsRow, standIns := [], harness := (true, "54bc54d732b00ab41745012f143d3a299984cc0782d0007b60a3d798b30a7197"), looks := true }, kinds := [], alts := [], laidByText := true, laidKinds := [.data, .data, .data, .data, .pinned], laidTests := true, laidLooks := .later }
def RoundPrintsCardSaid : Prop := Claim7.holds Tryz.pinned (.plain (OpenSpec.ofChange roundPrintsSpec)) roundPrintsCard

/-- THE TIED CARD OF 'ephemeristlaw04.RoundReads'. -/
def roundReadsCard : Claim7 := { stood := { row := roundReadsRow, standIns := [], harness := (true, "54bc54d732b00ab41745012f143d3a299984cc0782d0007b60a3d798b30a7197"), looks := true }, kinds := [], alts := [], laidByText := true, laidKinds := [.data, .data, .data, .data, .pinned], laidTests := true, laidLooks := .later }
def RoundReadsCardSaid : Prop := Claim7.holds Tryz.pinned (.plain (OpenSpec.ofChange roundReadsSpec)) roundReadsCard

/-- THE TIED CARD OF 'ephemeristlaw04.RoundSpoilt'. -/
def roundSpoiltCard : Claim7 := { stood := { row := roundSpoiltRow, standIns := [], harness := (true, "54bc54d732b00ab41745012f143d3a299984cc0782d0007b60a3d798b30a7197"), looks := true }, kinds := [], alts := [], laidByText := true, laidKinds := [.data, .data, .data, .data, .pinned], laidTests := true, laidLooks := .later }
def RoundSpoiltCardSaid : Prop := Claim7.holds Tryz.pinned (.plain (OpenSpec.ofChange roundSpoiltSpec)) roundSpoiltCard

/-- THE SECOND FORM's CARD OF 'ephemeristlaw04.RoundMore'. -/
def roundMoreUptoCard : Claim7 := { stood := { row := roundMoreUptoRow, standIns := [], harness := (true, "54bc54d732b00ab41745012f143d3a299984cc0782d0007b60a3d798b30a7197"), looks := true }, kinds := [], alts := [], laidByText := true, laidKinds := [.data, .data, .data, .data, .pinned], laidTests := true, laidLooks := .later }
def RoundMoreUptoCardSaid : Prop := Claim7.holds Tryz.pinned (.plain (OpenSpec.upto roundMoreSpec)) roundMoreUptoCard

/-- THE SECOND FORM's CARD OF 'ephemeristlaw04.RoundTurned'. -/
def roundTurnedUptoCard : Claim7 := { stood := { row := roundTurnedUptoRow, standIns := [], harness := (true, "54bc54d732b00ab41745012f143d3a299984cc0782d0007b60a3d798b30a7197"), looks := true }, kinds := [], alts := [], laidByText := true, laidKinds := [.data, .data, .data, .data, .pinned], laidTests := true, laidLooks := .later }
def RoundTurnedUptoCardSaid : Prop := Claim7.holds Tryz.pinned (.plain (OpenSpec.upto roundTurnedSpec)) roundTurnedUptoCard

/-- THE SECOND FORM's CARD OF 'ephemeristlaw04.RoundFigures'. -/
def roundFiguresUptoCard : Claim7 := { stood := { row := roundFiguresUptoRow, standIns := [], harness := (true, "54bc54d732b00ab41745012f143d3a299984cc0782d0007b60a3d798b30a7197"), looks := true }, kinds := [], alts := [], laidByText := true, laidKinds := [.data, .data, .data, .data, .pinned], laidTests := true, laidLooks := .later }
def RoundFiguresUptoCardSaid : Prop := Claim7.holds Tryz.pinned (.plain (OpenSpec.upto roundFiguresSpec)) roundFiguresUptoCard

/-- THE SECOND FORM's CARD OF 'ephemeristlaw04.RoundPrints'. -/
def roundPrintsUptoCard : Claim7 := { stood := { row := roundPrintsUptoRow, standIns := [], harness := (true, "54bc54d732b00ab41745012f143d3a299984cc0782d0007b60a3d798b30a7197"), looks := true }, kinds := [], alts := [], laidByText := true, laidKinds := [.data, .data, .data, .data, .pinned], laidTests := true, laidLooks := .later }
def RoundPrintsUptoCardSaid : Prop := Claim7.holds Tryz.pinned (.plain (OpenSpec.upto roundPrintsSpec)) roundPrintsUptoCard

/-- THE SECOND FORM's CARD OF 'ephemeristlaw04.RoundReads'. -/
def roundReadsUptoCard : Claim7 := { stood := { row := roundReadsUptoRow, standIns := [], harness := (true, "54bc54d732b00ab41745012f143d3a299984cc0782d0007b60a3d798b30a7197"), looks := true }, kinds := [], alts := [], laidByText := true, laidKinds := [.data, .data, .data, .data, .pinned], laidTests := true, laidLooks := .later }
def RoundReadsUptoCardSaid : Prop := Claim7.holds Tryz.pinned (.plain (OpenSpec.upto roundReadsSpec)) roundReadsUptoCard

/-- THE SECOND FORM's CARD OF 'ephemeristlaw04.RoundSpoilt'. -/
def roundSpoiltUptoCard : Claim7 := { stood := { row := roundSpoiltUptoRow, standIns := [], harness := (true, "54bc54d732b00ab41745012f143d3a299984cc0782d0007b60a3d798b30a7197"), looks := true }, kinds := [], alts := [], laidByText := true, laidKinds := [.data, .data, .data, .data, .pinned], laidTests := true, laidLooks := .later }
def RoundSpoiltUptoCardSaid : Prop := Claim7.holds Tryz.pinned (.plain (OpenSpec.upto roundSpoiltSpec)) roundSpoiltUptoCard
end Rows
end Go.Proofs.YtebellbkmioadabGreatDoor
