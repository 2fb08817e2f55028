/-
  DERIVED. GIVEN WITH THE SEED: THE CARDS: each row of YtebellbkmioadaaGreatDoorRows.lean that lists a variable, with what it lists TIED to the program's text (the seventh form; the later family's looks); each row that meets fmt, with fmt's text TOLD by the authors' own Lean function (tested against real Go, not proved from fmt's source: count such statements apart). THE CARD IS WHAT COUNTS. Prove the row's statement (the work); the ties are given (YtebellbkmioadaaGreatDoorTie.lean); close each card by the builder's one call (the guide's Derived/Test/ToyasCard.lean, 'card_holds'). Laid BY PROGRAM, IN A SANDBOX (cutbox-door.mjs). By AI agents, Wed Nov 11 2026. No macro, syntax, notation, axiom, sorry.
-/
import Derived.Test.YtebellbkmioadaaGreatDoorRows
import GoSem.ClaimSeven
namespace Go.Proofs.YtebellbkmioadaaGreatDoor
namespace Rows

/-- THE TIED CARD OF 'ephemeristlaw04.RoundTos'. -/
def roundTosCard : Claim7 := { stood := { row := roundTosRow, standIns := [], harness := (true, "96da020e9171284ac76ac3c82595ce7ceccbab9aed8a1f73712d8b3a4229c7e5"), looks := true }, kinds := [], alts := [], laidByText := true, laidKinds := [.data, .data, .data, .data, .pinned], laidTests := true, laidLooks := .later }
def RoundTosCardSaid : Prop := Claim7.holds Tryz.pinned (.plain (OpenSpec.ofChange roundTosSpec)) roundTosCard

/-- THE TIED CARD OF 'ephemeristlaw04.RoundNearest'. -/
def roundNearestCard : Claim7 := { stood := { row := roundNearestRow, standIns := [], harness := (true, "96da020e9171284ac76ac3c82595ce7ceccbab9aed8a1f73712d8b3a4229c7e5"), looks := true }, kinds := [], alts := [], laidByText := true, laidKinds := [.data, .data, .data, .data, .pinned], laidTests := true, laidLooks := .later }
def RoundNearestCardSaid : Prop := Claim7.holds Tryz.pinned (.plain (OpenSpec.ofChange roundNearestSpec)) roundNearestCard

/-- THE TIED CARD OF 'ephemeristlaw04.RoundWords'. -/
def roundWordsCard : Claim7 := { stood := { row := roundWordsRow, standIns := [], harness := (true, "96da020e9171284ac76ac3c82595ce7ceccbab9aed8a1f73712d8b3a4229c7e5"), looks := true }, kinds := [], alts := [], laidByText := true, laidKinds := [.data, .data, .data, .data, .pinned], laidTests := true, laidLooks := .later }
def RoundWordsCardSaid : Prop := Claim7.holds Tryz.pinned (.plain (OpenSpec.ofChange roundWordsSpec)) roundWordsCard

/-- THE TIED CARD OF 'ephemeristlaw04.RoundTrue'. -/
def roundTrueCard : Claim7 := { stood := { row := roundTrueRow, standIns := [], harness := (true, "96da020e9171284ac76ac3c82595ce7ceccbab9aed8a1f73712d8b3a4229c7e5"), looks := true }, kinds := [], alts := [], laidByText := true, laidKinds := [.data, .data, .data, .data, .pinned], laidTests := true, laidLooks := .later }
def RoundTrueCardSaid : Prop := Claim7.holds Tryz.pinned (.plain (OpenSpec.ofChange roundTrueSpec)) roundTrueCard

/-- THE TIED CARD OF 'ephemeristlaw04.RoundNeeds'. -/
def roundNeedsCard : Claim7 := { stood := { row := roundNeedsRow, standIns := [], harness := (true, "96da020e9171284ac76ac3c82595ce7ceccbab9aed8a1f73712d8b3a4229c7e5"), looks := true }, kinds := [], alts := [], laidByText := true, laidKinds := [.data, .data, .data, .data, .pinned], laidTests := true, laidLooks := .later }
def RoundNeedsCardSaid : Prop := Claim7.holds Tryz.pinned (.plain (OpenSpec.ofChange roundNeedsSpec)) roundNeedsCard

/-- THE TIED CARD OF 'ephemeristlaw04.RoundEnough'. -/
def roundEnoughCard : Claim7 := { stood := { row := roundEnoughRow, standIns := [], harness := (true, "96da020e9171284ac76ac3c82595ce7ceccbab9aed8a1f73712d8b3a4229c7e5"), looks := true }, kinds := [], alts := [], laidByText := true, laidKinds := [.data, .data, .data, .data, .pinned], laidTests := true, laidLooks := .later }
def RoundEnoughCardSaid : Prop := Claim7.holds Tryz.pinned (.plain (OpenSpec.ofChange roundEnoughSpec)) roundEnoughCard

/-- THE TIED CARD OF 'ephemeristlaw04.RoundTotals'. -/
def roundTotalsCard : Claim7 := { stood := { row := roundTotalsRow, standIns := [], harness := (true, "96da020e9171284ac76ac3c82595ce7ceccbab9aed8a1f73712d8b3a4229c7e5"), looks := true }, kinds := [], alts := [], laidByText := true, laidKinds := [.data, .data, .data, .data, .pinned], laidTests := true, laidLooks := .later }
def RoundTotalsCardSaid : Prop := Claim7.holds Tryz.pinned (.plain (OpenSpec.ofChange roundTotalsSpec)) roundTotalsCard

/-- THE TIED CARD OF 'ephemeristlaw04.RoundSums'. -/
def roundSumsCard : Claim7 := { stood := { row := roundSumsRow, standIns := [], harness := (true, "96da020e9171284ac76ac3c82595ce7ceccbab9aed8a1f73712d8b3a4229c7e5"), looks := true }, kinds := [], alts := [], laidByText := true, laidKinds := [.data, .data, .data, .data, .pinned], laidTests := true, laidLooks := .later }
def RoundSumsCardSaid : Prop := Claim7.holds Tryz.pinned (.plain (OpenSpec.ofChange roundSumsSpec)) roundSumsCard

/-- THE TIED CARD OF 'ephemeristlaw04.RoundFirsts'. -/
def roundFirstsCard : Claim7 := { stood := { row := roundFirstsRow, standIns := [], harness := (true, "96da020e9171284ac76ac3c82595ce7ceccbab9aed8a1f73712d8b3a4229c7e5"), looks := true }, kinds := [], alts := [], laidByText := true, laidKinds := [.data, .data, .data, .data, .pinned], laidTests := true, laidLooks := .later }
def RoundFirstsCardSaid : Prop := Claim7.holds Tryz.pinned (.plain (OpenSpec.ofChange roundFirstsSpec)) roundFirstsCard

/-- THE TIED CARD OF 'ephemeristlaw04.RoundProved'. -/
def roundProvedCard : Claim7 := { stood := { row := roundProvedRow, standIns := [], harness := (true, "96da020e9171284ac76ac3c82595ce7ceccbab9aed8a1f73712d8b3a4229c7e5"), looks := true }, kinds := [], alts := [], laidByText := true, laidKinds := [.data, .data, .data, .data, .pinned], laidTests := true, laidLooks := .later }
def RoundProvedCardSaid : Prop := Claim7.holds Tryz.pinned (.plain (OpenSpec.ofChange roundProvedSpec)) roundProvedCard

/-- THE TIED CARD OF 'ephemeristlaw04.RoundBehinds'. -/
def roundBehindsCard : Claim7 := { stood := { row := roundBehindsRow, standIns := [], harness := (true, "96da020e9171284ac76ac3c82595ce7ceccbab9aed8a1f73712d8b3a4229c7e5"), looks := true }, kinds := [], alts := [], laidByText := true, laidKinds := [.data, .data, .data, .data, .pinned], laidTests := true, laidLooks := .later }
def RoundBehindsCardSaid : Prop := Claim7.holds Tryz.pinned (.plain (OpenSpec.ofChange roundBehindsSpec)) roundBehindsCard

/-- THE TIED CARD OF 'ephemeristlaw04.RoundHidden'. -/
def roundHiddenCard : Claim7 := { stood := { row := roundHiddenRow, standIns := [], harness := (true, "96da020e9171284ac76ac3c82595ce7ceccbab9aed8a1f73712d8b3a4229c7e5"), looks := true }, kinds := [], alts := [], laidByText := true, laidKinds := [.data, .data, .data, .data, .pinned], laidTests := true, laidLooks := .later }
def RoundHiddenCardSaid : Prop := Claim7.holds Tryz.pinned (.plain (OpenSpec.ofChange roundHiddenSpec)) roundHiddenCard

/-- THE SECOND FORM's CARD OF 'ephemeristlaw04.RoundTos'. -/
def roundTosUptoCard : Claim7 := { stood := { row := roundTosUptoRow, standIns := [], harness := (true, "96da020e9171284ac76ac3c82595ce7ceccbab9aed8a1f73712d8b3a4229c7e5"), looks := true }, kinds := [], alts := [], laidByText := true, laidKinds := [.data, .data, .data, .data, .pinned], laidTests := true, laidLooks := .later }
def RoundTosUptoCardSaid : Prop := Claim7.holds Tryz.pinned (.plain (OpenSpec.upto roundTosSpec)) roundTosUptoCard

/-- THE SECOND FORM's CARD OF 'ephemeristlaw04.RoundNearest'. -/
def roundNearestUptoCard : Claim7 := { stood := { row := roundNearestUptoRow, standIns := [], harness := (true, "96da020e9171284ac76ac3c82595ce7ceccbab9aed8a1f73712d8b3a4229c7e5"), looks := true }, kinds := [], alts := [], laidByText := true, laidKinds := [.data, .data, .data, .data, .pinned], laidTests := true, laidLooks := .later }
def RoundNearestUptoCardSaid : Prop := Claim7.holds Tryz.pinned (.plain (OpenSpec.upto roundNearestSpec)) roundNearestUptoCard

/-- THE SECOND FORM's CARD OF 'ephemeristlaw04.RoundWords'. -/
def roundWordsUptoCard : Claim7 := { stood := { row := roundWordsUptoRow, standIns := [], harness := (true, "96da020e9171284ac76ac3c82595ce7ceccbab9aed8a1f73712d8b3a4229c7e5"), looks := true }, kinds := [], alts := [], laidByText := true, laidKinds := [.data, .data, .data, .data, .pinned], laidTests := true, laidLooks := .later }
def RoundWordsUptoCardSaid : Prop := Claim7.holds Tryz.pinned (.plain (OpenSpec.upto roundWordsSpec)) roundWordsUptoCard

/-- THE SECOND FORM's CARD OF 'ephemeristlaw04.RoundTrue'. -/
def roundTrueUptoCard : Claim7 := { stood := { row := roundTrueUptoRow, standIns := [], harness := (true, "96da020e9171284ac76ac3c82595ce7ceccbab9aed8a1f73712d8b3a4229c7e5"), looks := true }, kinds := [], alts := [], laidByText := true, laidKinds := [.data, .data, .data, .data, .pinned], laidTests := true, laidLooks := .later }
def RoundTrueUptoCardSaid : Prop := Claim7.holds Tryz.pinned (.plain (OpenSpec.upto roundTrueSpec)) roundTrueUptoCard

/-- THE SECOND FORM's CARD OF 'ephemeristlaw04.RoundNeeds'. -/
def roundNeedsUptoCard : Claim7 := { stood := { row := roundNeedsUptoRow, standIns := [], harness := (true, "96da020e9171284ac76ac3c82595ce7ceccbab9aed8a1f73712d8b3a4229c7e5"), looks := true }, kinds := [], alts := [], laidByText := true, laidKinds := [.data, .data, .data, .data, .pinned], laidTests := true, laidLooks := .later }
def RoundNeedsUptoCardSaid : Prop := Claim7.holds Tryz.pinned (.plain (OpenSpec.upto roundNeedsSpec)) roundNeedsUptoCard

/-- THE SECOND FORM's CARD OF 'ephemeristlaw04.RoundEnough'. -/
def roundEnoughUptoCard : Claim7 := { stood := { row := roundEnoughUptoRow, standIns := [], harness := (true, "96da020e9171284ac76ac3c82595ce7ceccbab9aed8a1f73712d8b3a4229c7e5"), looks := true }, kinds := [], alts := [], laidByText := true, laidKinds := [.data, .data, .data, .data, .pinned], laidTests := true, laidLooks := .later }
def RoundEnoughUptoCardSaid : Prop := Claim7.holds Tryz.pinned (.plain (OpenSpec.upto roundEnoughSpec)) roundEnoughUptoCard

/-- THE SECOND FORM's CARD OF 'ephemeristlaw04.RoundTotals'. -/
def roundTotalsUptoCard : Claim7 := { stood := { row := roundTotalsUptoRow, standIns := [], harness := (true, "96da020e9171284ac76ac3c82595ce7ceccbab9aed8a1f73712d8b3a4229c7e5"), looks := true }, kinds := [], alts := [], laidByText := true, laidKinds := [.data, .data, .data, .data, .pinned], laidTests := true, laidLooks := .later }
def RoundTotalsUptoCardSaid : Prop := Claim7.holds Tryz.pinned (.plain (OpenSpec.upto roundTotalsSpec)) roundTotalsUptoCard

/-- THE SECOND FORM's CARD OF 'ephemeristlaw04.RoundSums'. -/
def roundSumsUptoCard : Claim7 := { stood := { row := roundSumsUptoRow, standIns := [], harness := (true, "96da020e9171284ac76ac3c82595ce7ceccbab9aed8a1f73712d8b3a4229c7e5"), looks := true }, kinds := [], alts := [], laidByText := true, laidKinds := [.data, .data, .data, .data, .pinned], laidTests := true, laidLooks := .later }
def RoundSumsUptoCardSaid : Prop := Claim7.holds Tryz.pinned (.plain (OpenSpec.upto roundSumsSpec)) roundSumsUptoCard

/-- THE SECOND FORM's CARD OF 'ephemeristlaw04.RoundFirsts'. -/
def roundFirstsUptoCard : Claim7 := { stood := { row := roundFirstsUptoRow, standIns := [], harness := (true, "96da020e9171284ac76ac3c82595ce7ceccbab9aed8a1f73712d8b3a4229c7e5"), looks := true }, kinds := [], alts := [], laidByText := true, laidKinds := [.data, .data, .data, .data, .pinned], laidTests := true, laidLooks := .later }
def RoundFirstsUptoCardSaid : Prop := Claim7.holds Tryz.pinned (.plain (OpenSpec.upto roundFirstsSpec)) roundFirstsUptoCard

/-- THE SECOND FORM's CARD OF 'ephemeristlaw04.RoundProved'. -/
def roundProvedUptoCard : Claim7 := { stood := { row := roundProvedUptoRow, standIns := [], harness := (true, "96da020e9171284ac76ac3c82595ce7ceccbab9aed8a1f73712d8b3a4229c7e5"), looks := true }, kinds := [], alts := [], laidByText := true, laidKinds := [.data, .data, .data, .data, .pinned], laidTests := true, laidLooks := .later }
def RoundProvedUptoCardSaid : Prop := Claim7.holds Tryz.pinned (.plain (OpenSpec.upto roundProvedSpec)) roundProvedUptoCard

/-- THE SECOND FORM's CARD OF 'ephemeristlaw04.RoundBehinds'. -/
def roundBehindsUptoCard : Claim7 := { stood := { row := roundBehindsUptoRow, standIns := [], harness := (true, "96da020e9171284ac76ac3c82595ce7ceccbab9aed8a1f73712d8b3a4229c7e5"), looks := true }, kinds := [], alts := [], laidByText := true, laidKinds := [.data, .data, .data, .data, .pinned], laidTests := true, laidLooks := .later }
def RoundBehindsUptoCardSaid : Prop := Claim7.holds Tryz.pinned (.plain (OpenSpec.upto roundBehindsSpec)) roundBehindsUptoCard

/-- THE SECOND FORM's CARD OF 'ephemeristlaw04.RoundHidden'. -/
def roundHiddenUptoCard : Claim7 := { stood := { row := roundHiddenUptoRow, standIns := [], harness := (true, "96da020e9171284ac76ac3c82595ce7ceccbab9aed8a1f73712d8b3a4229c7e5"), looks := true }, kinds := [], alts := [], laidByText := true, laidKinds := [.data, .data, .data, .data, .pinned], laidTests := true, laidLooks := .later }
def RoundHiddenUptoCardSaid : Prop := Claim7.holds Tryz.pinned (.plain (OpenSpec.upto roundHiddenSpec)) roundHiddenUptoCard
end Rows
end Go.Proofs.YtebellbkmioadaaGreatDoor
