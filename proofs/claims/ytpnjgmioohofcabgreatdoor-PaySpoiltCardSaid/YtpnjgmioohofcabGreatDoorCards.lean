/-
  DERIVED. GIVEN WITH THE SEED: THE CARDS: each row of YtpnjgmioohofcabGreatDoorRows.lean that lists a variable, with what it lists TIED to the program's text (the seventh form; the later family's looks); each row that meets fmt, with fmt's text TOLD by the authors' own Lean function (tested against real Go, not proved from fmt's source: count such statements apart). THE CARD IS WHAT COUNTS. Prove the row's statement (the work); the ties are given (YtpnjgmioohofcabGreatDoorTie.lean); close each card by the builder's one call (the guide's Derived/Test/ToyasCard.lean, 'card_holds'). Laid BY PROGRAM, IN A SANDBOX (cutbox-door.mjs). By AI agents, Wed Nov 11 2026. No macro, syntax, notation, axiom, sorry.
-/
import Derived.Test.YtpnjgmioohofcabGreatDoorRows
import GoSem.ClaimSeven
namespace Go.Proofs.YtpnjgmioohofcabGreatDoor
namespace Rows

/-- THE TIED CARD OF 'ephemeristlaw08.PayShares'. -/
def paySharesCard : Claim7 := { stood := { row := paySharesRow, standIns := [], harness := (true, "5a6ea851d6db5332263f4202e8bb68f7d38141fb34fef9e77fb9ecad3099a87b"), looks := true }, kinds := [], alts := [], laidByText := true, laidKinds := [.data, .data, .data, .data, .pinned], laidTests := true, laidLooks := .later }
def PaySharesCardSaid : Prop := Claim7.holds Tryz.pinned (.plain (OpenSpec.ofChange paySharesSpec)) paySharesCard

/-- THE TIED CARD OF 'ephemeristlaw08.PayJust'. -/
def payJustCard : Claim7 := { stood := { row := payJustRow, standIns := [], harness := (true, "5a6ea851d6db5332263f4202e8bb68f7d38141fb34fef9e77fb9ecad3099a87b"), looks := true }, kinds := [], alts := [], laidByText := true, laidKinds := [.data, .data, .data, .data, .pinned], laidTests := true, laidLooks := .later }
def PayJustCardSaid : Prop := Claim7.holds Tryz.pinned (.plain (OpenSpec.ofChange payJustSpec)) payJustCard

/-- THE TIED CARD OF 'ephemeristlaw08.PayRates'. -/
def payRatesCard : Claim7 := { stood := { row := payRatesRow, standIns := [], harness := (true, "5a6ea851d6db5332263f4202e8bb68f7d38141fb34fef9e77fb9ecad3099a87b"), looks := true }, kinds := [], alts := [], laidByText := true, laidKinds := [.data, .data, .data, .data, .pinned], laidTests := true, laidLooks := .later }
def PayRatesCardSaid : Prop := Claim7.holds Tryz.pinned (.plain (OpenSpec.ofChange payRatesSpec)) payRatesCard

/-- THE TIED CARD OF 'ephemeristlaw08.PayEnough'. -/
def payEnoughCard : Claim7 := { stood := { row := payEnoughRow, standIns := [], harness := (true, "5a6ea851d6db5332263f4202e8bb68f7d38141fb34fef9e77fb9ecad3099a87b"), looks := true }, kinds := [], alts := [], laidByText := true, laidKinds := [.data, .data, .data, .data, .pinned], laidTests := true, laidLooks := .later }
def PayEnoughCardSaid : Prop := Claim7.holds Tryz.pinned (.plain (OpenSpec.ofChange payEnoughSpec)) payEnoughCard

/-- THE TIED CARD OF 'ephemeristlaw08.PayMore'. -/
def payMoreCard : Claim7 := { stood := { row := payMoreRow, standIns := [], harness := (true, "5a6ea851d6db5332263f4202e8bb68f7d38141fb34fef9e77fb9ecad3099a87b"), looks := true }, kinds := [], alts := [], laidByText := true, laidKinds := [.data, .data, .data, .data, .pinned], laidTests := true, laidLooks := .later }
def PayMoreCardSaid : Prop := Claim7.holds Tryz.pinned (.plain (OpenSpec.ofChange payMoreSpec)) payMoreCard

/-- THE TIED CARD OF 'ephemeristlaw08.PayOwes'. -/
def payOwesCard : Claim7 := { stood := { row := payOwesRow, standIns := [], harness := (true, "5a6ea851d6db5332263f4202e8bb68f7d38141fb34fef9e77fb9ecad3099a87b"), looks := true }, kinds := [], alts := [], laidByText := true, laidKinds := [.data, .data, .data, .data, .pinned], laidTests := true, laidLooks := .later }
def PayOwesCardSaid : Prop := Claim7.holds Tryz.pinned (.plain (OpenSpec.ofChange payOwesSpec)) payOwesCard

/-- THE TIED CARD OF 'ephemeristlaw08.PayPrints'. -/
def payPrintsCard : Claim7 := { stood := { row := payPrintsRow, standIns := [], harness := (true, "5a6ea851d6db5332263f4202e8bb68f7d38141fb34fef9e77fb9ecad3099a87b"), looks := true }, kinds := [], alts := [], laidByText := true, laidKinds := [.data, .data, .data, .data, .pinned], laidTests := true, laidLooks := .later }
def PayPrintsCardSaid : Prop := Claim7.holds Tryz.pinned (.plain (OpenSpec.ofChange payPrintsSpec)) payPrintsCard

/-- THE TIED CARD OF 'ephemeristlaw08.PayReads'. -/
def payReadsCard : Claim7 := { stood := { row := payReadsRow, standIns := [], harness := (true, "5a6ea851d6db5332263f4202e8bb68f7d38141fb34fef9e77fb9ecad3099a87b"), looks := true }, kinds := [], alts := [], laidByText := true, laidKinds := [.data, .data, .data, .data, .pinned], laidTests := true, laidLooks := .later }
def PayReadsCardSaid : Prop := Claim7.holds Tryz.pinned (.plain (OpenSpec.ofChange payReadsSpec)) payReadsCard

/-- THE TIED CARD OF 'ephemeristlaw08.PaySpoilt'. -/
def paySpoiltCard : Claim7 := { stood := { row := paySpoiltRow, standIns := [], harness := (true, "5a6ea851d6db5332263f4202e8bb68f7d38141fb34fef9e77fb9ecad3099a87b"), looks := true }, kinds := [], alts := [], laidByText := true, laidKinds := [.data, .data, .data, .data, .pinned], laidTests := true, laidLooks := .later }
def PaySpoiltCardSaid : Prop := Claim7.holds Tryz.pinned (.plain (OpenSpec.ofChange paySpoiltSpec)) paySpoiltCard

/-- THE SECOND FORM's CARD OF 'ephemeristlaw08.PayShares'. -/
def paySharesUptoCard : Claim7 := { stood := { row := paySharesUptoRow, standIns := [], harness := (true, "5a6ea851d6db5332263f4202e8bb68f7d38141fb34fef9e77fb9ecad3099a87b"), looks := true }, kinds := [], alts := [], laidByText := true, laidKinds := [.data, .data, .data, .data, .pinned], laidTests := true, laidLooks := .later }
def PaySharesUptoCardSaid : Prop := Claim7.holds Tryz.pinned (.plain (OpenSpec.upto paySharesSpec)) paySharesUptoCard

/-- THE SECOND FORM's CARD OF 'ephemeristlaw08.PayJust'. -/
def payJustUptoCard : Claim7 := { stood := { row := payJustUptoRow, standIns := [], harness := (true, "5a6ea851d6db5332263f4202e8bb68f7d38141fb34fef9e77fb9ecad3099a87b"), looks := true }, kinds := [], alts := [], laidByText := true, laidKinds := [.data, .data, .data, .data, .pinned], laidTests := true, laidLooks := .later }
def PayJustUptoCardSaid : Prop := Claim7.holds Tryz.pinned (.plain (OpenSpec.upto payJustSpec)) payJustUptoCard

/-- THE SECOND FORM's CARD OF 'ephemeristlaw08.PayRates'. -/
def payRatesUptoCard : Claim7 := { stood := { row := payRatesUptoRow, standIns := [], harness := (true, "5a6ea851d6db5332263f4202e8bb68f7d38141fb34fef9e77fb9ecad3099a87b"), looks := true }, kinds := [], alts := [], laidByText := true, laidKinds := [.data, .data, .data, .data, .pinned], laidTests := true, laidLooks := .later }
def PayRatesUptoCardSaid : Prop := Claim7.holds Tryz.pinned (.plain (OpenSpec.upto payRatesSpec)) payRatesUptoCard

/-- THE SECOND FORM's CARD OF 'ephemeristlaw08.PayEnough'. -/
def payEnoughUptoCard : Claim7 := { stood := { row := payEnoughUptoRow, standIns := [], harness := (true, "5a6ea851d6db5332263f4202e8bb68f7d38141fb34fef9e77fb9ecad3099a87b"), looks := true }, kinds := [], alts := [], laidByText := true, laidKinds := [.data, .data, .data, .data, .pinned], laidTests := true, laidLooks := .later }
def PayEnoughUptoCardSaid : Prop := Claim7.holds Tryz.pinned (.plain (OpenSpec.upto payEnoughSpec)) payEnoughUptoCard

/-- THE SECOND FORM's CARD OF 'ephemeristlaw08.PayMore'. -/
def payMoreUptoCard : Claim7 := { stood := { row := payMoreUptoRow, standIns := [], harness := (true, "5a6ea851d6db5332263f4202e8bb68f7d38141fb34fef9e77fb9ecad3099a87b"), looks := true }, kinds := [], alts := [], laidByText := true, laidKinds := [.data, .data, .data, .data, .pinned], laidTests := true, laidLooks := .later }
def PayMoreUptoCardSaid : Prop := Claim7.holds Tryz.pinned (.plain (OpenSpec.upto payMoreSpec)) payMoreUptoCard

/-- THE SECOND FORM's CARD OF 'ephemeristlaw08.PayOwes'. -/
def payOwesUptoCard : Claim7 := { stood := { row := payOwesUptoRow, standIns := [], harness := (true, "5a6ea851d6db5332263f4202e8bb68f7d38141fb34fef9e77fb9ecad3099a87b"), looks := true }, kinds := [], alts := [], laidByText := true, laidKinds := [.data, .data, .data, .data, .pinned], laidTests := true, laidLooks := .later }
def PayOwesUptoCardSaid : Prop := Claim7.holds Tryz.pinned (.plain (OpenSpec.upto payOwesSpec)) payOwesUptoCard

/-- THE SECOND FORM's CARD OF 'ephemeristlaw08.PayPrints'. -/
def payPrintsUptoCard : Claim7 := { stood := { row := payPrintsUptoRow, standIns := [], harness := (true, "5a6ea851d6db5332263f4202e8bb68f7d38141fb34fef9e77fb9ecad3099a87b"), looks := true }, kinds := [], alts := [], laidByText := true, laidKinds := [.data, .data, .data, .data, .pinned], laidTests := true, laidLooks := .later }
def PayPrintsUptoCardSaid : Prop := Claim7.holds Tryz.pinned (.plain (OpenSpec.upto payPrintsSpec)) payPrintsUptoCard

/-- THE SECOND FORM's CARD OF 'ephemeristlaw08.PayReads'. -/
def payReadsUptoCard : Claim7 := { stood := { row := payReadsUptoRow, standIns := [], harness := (true, "5a6ea851d6db5332263f4202e8bb68f7d38141fb34fef9e77fb9ecad3099a87b"), looks := true }, kinds := [], alts := [], laidByText := true, laidKinds := [.data, .data, .data, .data, .pinned], laidTests := true, laidLooks := .later }
def PayReadsUptoCardSaid : Prop := Claim7.holds Tryz.pinned (.plain (OpenSpec.upto payReadsSpec)) payReadsUptoCard

/-- THE SECOND FORM's CARD OF 'ephemeristlaw08.PaySpoilt'. -/
def paySpoiltUptoCard : Claim7 := { stood := { row := paySpoiltUptoRow, standIns := [], harness := (true, "5a6ea851d6db5332263f4202e8bb68f7d38141fb34fef9e77fb9ecad3099a87b"), looks := true }, kinds := [], alts := [], laidByText := true, laidKinds := [.data, .data, .data, .data, .pinned], laidTests := true, laidLooks := .later }
def PaySpoiltUptoCardSaid : Prop := Claim7.holds Tryz.pinned (.plain (OpenSpec.upto paySpoiltSpec)) paySpoiltUptoCard
end Rows
end Go.Proofs.YtpnjgmioohofcabGreatDoor
