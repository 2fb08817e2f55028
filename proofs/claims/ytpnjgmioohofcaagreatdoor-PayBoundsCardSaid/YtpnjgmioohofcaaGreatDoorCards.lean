/-
  DERIVED. GIVEN WITH THE SEED: THE CARDS: each row of YtpnjgmioohofcaaGreatDoorRows.lean that lists a variable, with what it lists TIED to the program's text (the seventh form; the later family's looks); each row that meets fmt, with fmt's text TOLD by the authors' own Lean function (tested against real Go, not proved from fmt's source: count such statements apart). THE CARD IS WHAT COUNTS. Prove the row's statement (the work); the ties are given (YtpnjgmioohofcaaGreatDoorTie.lean); close each card by the builder's one call (the guide's Derived/Test/ToyasCard.lean, 'card_holds'). Laid BY PROGRAM, IN A SANDBOX (cutbox-door.mjs). By AI agents, Wed Nov 11 2026. No macro, syntax, notation, axiom, sorry.
-/
import Derived.Test.YtpnjgmioohofcaaGreatDoorRows
import GoSem.ClaimSeven
namespace Go.Proofs.YtpnjgmioohofcaaGreatDoor
namespace Rows

/-- THE TIED CARD OF 'ephemeristlaw08.PayMoneys'. -/
def payMoneysCard : Claim7 := { stood := { row := payMoneysRow, standIns := [], harness := (true, "d3aec2bec26e0e75b2ad0ab24f30d80db9ba8c2d7002ce1c8fe1c56e9e4cda51"), looks := true }, kinds := [], alts := [], laidByText := true, laidKinds := [.data, .data, .data, .data, .pinned], laidTests := true, laidLooks := .later }
def PayMoneysCardSaid : Prop := Claim7.holds Tryz.pinned (.plain (OpenSpec.ofChange payMoneysSpec)) payMoneysCard

/-- THE TIED CARD OF 'ephemeristlaw08.PayCoins'. -/
def payCoinsCard : Claim7 := { stood := { row := payCoinsRow, standIns := [], harness := (true, "d3aec2bec26e0e75b2ad0ab24f30d80db9ba8c2d7002ce1c8fe1c56e9e4cda51"), looks := true }, kinds := [], alts := [], laidByText := true, laidKinds := [.data, .data, .data, .data, .pinned], laidTests := true, laidLooks := .later }
def PayCoinsCardSaid : Prop := Claim7.holds Tryz.pinned (.plain (OpenSpec.ofChange payCoinsSpec)) payCoinsCard

/-- THE TIED CARD OF 'ephemeristlaw08.PayPays'. -/
def payPaysCard : Claim7 := { stood := { row := payPaysRow, standIns := [], harness := (true, "d3aec2bec26e0e75b2ad0ab24f30d80db9ba8c2d7002ce1c8fe1c56e9e4cda51"), looks := true }, kinds := [], alts := [], laidByText := true, laidKinds := [.data, .data, .data, .data, .pinned], laidTests := true, laidLooks := .later }
def PayPaysCardSaid : Prop := Claim7.holds Tryz.pinned (.plain (OpenSpec.ofChange payPaysSpec)) payPaysCard

/-- THE TIED CARD OF 'ephemeristlaw08.PayTrue'. -/
def payTrueCard : Claim7 := { stood := { row := payTrueRow, standIns := [], harness := (true, "d3aec2bec26e0e75b2ad0ab24f30d80db9ba8c2d7002ce1c8fe1c56e9e4cda51"), looks := true }, kinds := [], alts := [], laidByText := true, laidKinds := [.data, .data, .data, .data, .pinned], laidTests := true, laidLooks := .later }
def PayTrueCardSaid : Prop := Claim7.holds Tryz.pinned (.plain (OpenSpec.ofChange payTrueSpec)) payTrueCard

/-- THE TIED CARD OF 'ephemeristlaw08.PayBounds'. -/
def payBoundsCard : Claim7 := { stood := { row := payBoundsRow, standIns := [], harness := (true, "d3aec2bec26e0e75b2ad0ab24f30d80db9ba8c2d7002ce1c8fe1c56e9e4cda51"), looks := true }, kinds := [], alts := [], laidByText := true, laidKinds := [.data, .data, .data, .data, .pinned], laidTests := true, laidLooks := .later }
def PayBoundsCardSaid : Prop := Claim7.holds Tryz.pinned (.plain (OpenSpec.ofChange payBoundsSpec)) payBoundsCard

/-- THE TIED CARD OF 'ephemeristlaw08.PayEnds'. -/
def payEndsCard : Claim7 := { stood := { row := payEndsRow, standIns := [], harness := (true, "d3aec2bec26e0e75b2ad0ab24f30d80db9ba8c2d7002ce1c8fe1c56e9e4cda51"), looks := true }, kinds := [], alts := [], laidByText := true, laidKinds := [.data, .data, .data, .data, .pinned], laidTests := true, laidLooks := .later }
def PayEndsCardSaid : Prop := Claim7.holds Tryz.pinned (.plain (OpenSpec.ofChange payEndsSpec)) payEndsCard

/-- THE TIED CARD OF 'ephemeristlaw08.PayAgrees'. -/
def payAgreesCard : Claim7 := { stood := { row := payAgreesRow, standIns := [], harness := (true, "d3aec2bec26e0e75b2ad0ab24f30d80db9ba8c2d7002ce1c8fe1c56e9e4cda51"), looks := true }, kinds := [], alts := [], laidByText := true, laidKinds := [.data, .data, .data, .data, .pinned], laidTests := true, laidLooks := .later }
def PayAgreesCardSaid : Prop := Claim7.holds Tryz.pinned (.plain (OpenSpec.ofChange payAgreesSpec)) payAgreesCard

/-- THE TIED CARD OF 'ephemeristlaw08.PayRival'. -/
def payRivalCard : Claim7 := { stood := { row := payRivalRow, standIns := [], harness := (true, "d3aec2bec26e0e75b2ad0ab24f30d80db9ba8c2d7002ce1c8fe1c56e9e4cda51"), looks := true }, kinds := [], alts := [], laidByText := true, laidKinds := [.data, .data, .data, .data, .pinned], laidTests := true, laidLooks := .later }
def PayRivalCardSaid : Prop := Claim7.holds Tryz.pinned (.plain (OpenSpec.ofChange payRivalSpec)) payRivalCard

/-- THE TIED CARD OF 'ephemeristlaw08.PayLast'. -/
def payLastCard : Claim7 := { stood := { row := payLastRow, standIns := [], harness := (true, "d3aec2bec26e0e75b2ad0ab24f30d80db9ba8c2d7002ce1c8fe1c56e9e4cda51"), looks := true }, kinds := [], alts := [], laidByText := true, laidKinds := [.data, .data, .data, .data, .pinned], laidTests := true, laidLooks := .later }
def PayLastCardSaid : Prop := Claim7.holds Tryz.pinned (.plain (OpenSpec.ofChange payLastSpec)) payLastCard

/-- THE TIED CARD OF 'ephemeristlaw08.PayFound'. -/
def payFoundCard : Claim7 := { stood := { row := payFoundRow, standIns := [], harness := (true, "d3aec2bec26e0e75b2ad0ab24f30d80db9ba8c2d7002ce1c8fe1c56e9e4cda51"), looks := true }, kinds := [], alts := [], laidByText := true, laidKinds := [.data, .data, .data, .data, .pinned], laidTests := true, laidLooks := .later }
def PayFoundCardSaid : Prop := Claim7.holds Tryz.pinned (.plain (OpenSpec.ofChange payFoundSpec)) payFoundCard

/-- THE TIED CARD OF 'ephemeristlaw08.PayErrors'. -/
def payErrorsCard : Claim7 := { stood := { row := payErrorsRow, standIns := [], harness := (true, "d3aec2bec26e0e75b2ad0ab24f30d80db9ba8c2d7002ce1c8fe1c56e9e4cda51"), looks := true }, kinds := [], alts := [], laidByText := true, laidKinds := [.data, .data, .data, .data, .pinned], laidTests := true, laidLooks := .later }
def PayErrorsCardSaid : Prop := Claim7.holds Tryz.pinned (.plain (OpenSpec.ofChange payErrorsSpec)) payErrorsCard

/-- THE TIED CARD OF 'ephemeristlaw08.PayWritten'. -/
def payWrittenCard : Claim7 := { stood := { row := payWrittenRow, standIns := [], harness := (true, "d3aec2bec26e0e75b2ad0ab24f30d80db9ba8c2d7002ce1c8fe1c56e9e4cda51"), looks := true }, kinds := [], alts := [], laidByText := true, laidKinds := [.data, .data, .data, .data, .pinned], laidTests := true, laidLooks := .later }
def PayWrittenCardSaid : Prop := Claim7.holds Tryz.pinned (.plain (OpenSpec.ofChange payWrittenSpec)) payWrittenCard

/-- THE SECOND FORM's CARD OF 'ephemeristlaw08.PayMoneys'. -/
def payMoneysUptoCard : Claim7 := { stood := { row := payMoneysUptoRow, standIns := [], harness := (true, "d3aec2bec26e0e75b2ad0ab24f30d80db9ba8c2d7002ce1c8fe1c56e9e4cda51"), looks := true }, kinds := [], alts := [], laidByText := true, laidKinds := [.data, .data, .data, .data, .pinned], laidTests := true, laidLooks := .later }
def PayMoneysUptoCardSaid : Prop := Claim7.holds Tryz.pinned (.plain (OpenSpec.upto payMoneysSpec)) payMoneysUptoCard

/-- THE SECOND FORM's CARD OF 'ephemeristlaw08.PayCoins'. -/
def payCoinsUptoCard : Claim7 := { stood := { row := payCoinsUptoRow, standIns := [], harness := (true, "d3aec2bec26e0e75b2ad0ab24f30d80db9ba8c2d7002ce1c8fe1c56e9e4cda51"), looks := true }, kinds := [], alts := [], laidByText := true, laidKinds := [.data, .data, .data, .data, .pinned], laidTests := true, laidLooks := .later }
def PayCoinsUptoCardSaid : Prop := Claim7.holds Tryz.pinned (.plain (OpenSpec.upto payCoinsSpec)) payCoinsUptoCard

/-- THE SECOND FORM's CARD OF 'ephemeristlaw08.PayPays'. -/
def payPaysUptoCard : Claim7 := { stood := { row := payPaysUptoRow, standIns := [], harness := (true, "d3aec2bec26e0e75b2ad0ab24f30d80db9ba8c2d7002ce1c8fe1c56e9e4cda51"), looks := true }, kinds := [], alts := [], laidByText := true, laidKinds := [.data, .data, .data, .data, .pinned], laidTests := true, laidLooks := .later }
def PayPaysUptoCardSaid : Prop := Claim7.holds Tryz.pinned (.plain (OpenSpec.upto payPaysSpec)) payPaysUptoCard

/-- THE SECOND FORM's CARD OF 'ephemeristlaw08.PayTrue'. -/
def payTrueUptoCard : Claim7 := { stood := { row := payTrueUptoRow, standIns := [], harness := (true, "d3aec2bec26e0e75b2ad0ab24f30d80db9ba8c2d7002ce1c8fe1c56e9e4cda51"), looks := true }, kinds := [], alts := [], laidByText := true, laidKinds := [.data, .data, .data, .data, .pinned], laidTests := true, laidLooks := .later }
def PayTrueUptoCardSaid : Prop := Claim7.holds Tryz.pinned (.plain (OpenSpec.upto payTrueSpec)) payTrueUptoCard

/-- THE SECOND FORM's CARD OF 'ephemeristlaw08.PayBounds'. -/
def payBoundsUptoCard : Claim7 := { stood := { row := payBoundsUptoRow, standIns := [], harness := (true, "d3aec2bec26e0e75b2ad0ab24f30d80db9ba8c2d7002ce1c8fe1c56e9e4cda51"), looks := true }, kinds := [], alts := [], laidByText := true, laidKinds := [.data, .data, .data, .data, .pinned], laidTests := true, laidLooks := .later }
def PayBoundsUptoCardSaid : Prop := Claim7.holds Tryz.pinned (.plain (OpenSpec.upto payBoundsSpec)) payBoundsUptoCard

/-- THE SECOND FORM's CARD OF 'ephemeristlaw08.PayEnds'. -/
def payEndsUptoCard : Claim7 := { stood := { row := payEndsUptoRow, standIns := [], harness := (true, "d3aec2bec26e0e75b2ad0ab24f30d80db9ba8c2d7002ce1c8fe1c56e9e4cda51"), looks := true }, kinds := [], alts := [], laidByText := true, laidKinds := [.data, .data, .data, .data, .pinned], laidTests := true, laidLooks := .later }
def PayEndsUptoCardSaid : Prop := Claim7.holds Tryz.pinned (.plain (OpenSpec.upto payEndsSpec)) payEndsUptoCard

/-- THE SECOND FORM's CARD OF 'ephemeristlaw08.PayAgrees'. -/
def payAgreesUptoCard : Claim7 := { stood := { row := payAgreesUptoRow, standIns := [], harness := (true, "d3aec2bec26e0e75b2ad0ab24f30d80db9ba8c2d7002ce1c8fe1c56e9e4cda51"), looks := true }, kinds := [], alts := [], laidByText := true, laidKinds := [.data, .data, .data, .data, .pinned], laidTests := true, laidLooks := .later }
def PayAgreesUptoCardSaid : Prop := Claim7.holds Tryz.pinned (.plain (OpenSpec.upto payAgreesSpec)) payAgreesUptoCard

/-- THE SECOND FORM's CARD OF 'ephemeristlaw08.PayRival'. -/
def payRivalUptoCard : Claim7 := { stood := { row := payRivalUptoRow, standIns := [], harness := (true, "d3aec2bec26e0e75b2ad0ab24f30d80db9ba8c2d7002ce1c8fe1c56e9e4cda51"), looks := true }, kinds := [], alts := [], laidByText := true, laidKinds := [.data, .data, .data, .data, .pinned], laidTests := true, laidLooks := .later }
def PayRivalUptoCardSaid : Prop := Claim7.holds Tryz.pinned (.plain (OpenSpec.upto payRivalSpec)) payRivalUptoCard

/-- THE SECOND FORM's CARD OF 'ephemeristlaw08.PayLast'. -/
def payLastUptoCard : Claim7 := { stood := { row := payLastUptoRow, standIns := [], harness := (true, "d3aec2bec26e0e75b2ad0ab24f30d80db9ba8c2d7002ce1c8fe1c56e9e4cda51"), looks := true }, kinds := [], alts := [], laidByText := true, laidKinds := [.data, .data, .data, .data, .pinned], laidTests := true, laidLooks := .later }
def PayLastUptoCardSaid : Prop := Claim7.holds Tryz.pinned (.plain (OpenSpec.upto payLastSpec)) payLastUptoCard

/-- THE SECOND FORM's CARD OF 'ephemeristlaw08.PayFound'. -/
def payFoundUptoCard : Claim7 := { stood := { row := payFoundUptoRow, standIns := [], harness := (true, "d3aec2bec26e0e75b2ad0ab24f30d80db9ba8c2d7002ce1c8fe1c56e9e4cda51"), looks := true }, kinds := [], alts := [], laidByText := true, laidKinds := [.data, .data, .data, .data, .pinned], laidTests := true, laidLooks := .later }
def PayFoundUptoCardSaid : Prop := Claim7.holds Tryz.pinned (.plain (OpenSpec.upto payFoundSpec)) payFoundUptoCard

/-- THE SECOND FORM's CARD OF 'ephemeristlaw08.PayErrors'. -/
def payErrorsUptoCard : Claim7 := { stood := { row := payErrorsUptoRow, standIns := [], harness := (true, "d3aec2bec26e0e75b2ad0ab24f30d80db9ba8c2d7002ce1c8fe1c56e9e4cda51"), looks := true }, kinds := [], alts := [], laidByText := true, laidKinds := [.data, .data, .data, .data, .pinned], laidTests := true, laidLooks := .later }
def PayErrorsUptoCardSaid : Prop := Claim7.holds Tryz.pinned (.plain (OpenSpec.upto payErrorsSpec)) payErrorsUptoCard

/-- THE SECOND FORM's CARD OF 'ephemeristlaw08.PayWritten'. -/
def payWrittenUptoCard : Claim7 := { stood := { row := payWrittenUptoRow, standIns := [], harness := (true, "d3aec2bec26e0e75b2ad0ab24f30d80db9ba8c2d7002ce1c8fe1c56e9e4cda51"), looks := true }, kinds := [], alts := [], laidByText := true, laidKinds := [.data, .data, .data, .data, .pinned], laidTests := true, laidLooks := .later }
def PayWrittenUptoCardSaid : Prop := Claim7.holds Tryz.pinned (.plain (OpenSpec.upto payWrittenSpec)) payWrittenUptoCard
end Rows
end Go.Proofs.YtpnjgmioohofcaaGreatDoor
