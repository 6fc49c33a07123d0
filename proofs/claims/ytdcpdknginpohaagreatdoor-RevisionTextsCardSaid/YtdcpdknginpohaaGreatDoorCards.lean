/-
  DERIVED. GIVEN WITH THE SEED: THE CARDS: each row of YtdcpdknginpohaaGreatDoorRows.lean that lists a variable, with what it lists TIED to the program's text (the seventh form; the later family's looks); each row that meets fmt, with fmt's text TOLD by the authors' own Lean function (tested against real Go, not proved from fmt's source: count such statements apart). THE CARD IS WHAT COUNTS. Prove the row's statement (the work); the ties are given (YtdcpdknginpohaaGreatDoorTie.lean); close each card by the builder's one call (the guide's Derived/Test/ToyasCard.lean, 'card_holds'). Laid BY PROGRAM, IN A SANDBOX (cutbox-door.mjs). By AI agents, Wed Nov 11 2026. No macro, syntax, notation, axiom, sorry.
-/
import Derived.Test.YtdcpdknginpohaaGreatDoorRows
import GoSem.ClaimSeven
namespace Go.Proofs.YtdcpdknginpohaaGreatDoor
namespace Rows

/-- THE TIED CARD OF 'airlinetop.TopRevises'. -/
def topRevisesCard : Claim7 := { stood := { row := topRevisesRow, standIns := [], harness := (true, "b87047f6675b9913d9f0592e2ea0dd659961c8b449ebf9dffd428cda67c90b5c"), looks := true }, kinds := [], alts := [], laidByText := true, laidKinds := [.data, .data, .data, .data], laidTests := true, laidLooks := .later }
def TopRevisesCardSaid : Prop := Claim7.holds Tryz.pinned (.plain (OpenSpec.ofChange topRevisesSpec)) topRevisesCard

/-- THE TIED CARD OF 'airlinelaw10.RevisionApplies'. -/
def revisionAppliesCard : Claim7 := { stood := { row := revisionAppliesRow, standIns := [], harness := (true, "b87047f6675b9913d9f0592e2ea0dd659961c8b449ebf9dffd428cda67c90b5c"), looks := true }, kinds := [], alts := [], laidByText := true, laidKinds := [.data, .data, .data, .data], laidTests := true, laidLooks := .later }
def RevisionAppliesCardSaid : Prop := Claim7.holds Tryz.pinned (.plain (OpenSpec.ofChange revisionAppliesSpec)) revisionAppliesCard

/-- THE TIED CARD OF 'airlinelaw10.RevisionOthers'. -/
def revisionOthersCard : Claim7 := { stood := { row := revisionOthersRow, standIns := [], harness := (true, "b87047f6675b9913d9f0592e2ea0dd659961c8b449ebf9dffd428cda67c90b5c"), looks := true }, kinds := [], alts := [], laidByText := true, laidKinds := [.data, .data, .data, .data], laidTests := true, laidLooks := .later }
def RevisionOthersCardSaid : Prop := Claim7.holds Tryz.pinned (.plain (OpenSpec.ofChange revisionOthersSpec)) revisionOthersCard

/-- THE TIED CARD OF 'airlinelaw10.RevisionPacks'. -/
def revisionPacksCard : Claim7 := { stood := { row := revisionPacksRow, standIns := [], harness := (true, "b87047f6675b9913d9f0592e2ea0dd659961c8b449ebf9dffd428cda67c90b5c"), looks := true }, kinds := [], alts := [], laidByText := true, laidKinds := [.data, .data, .data, .data], laidTests := true, laidLooks := .later }
def RevisionPacksCardSaid : Prop := Claim7.holds Tryz.pinned (.plain (OpenSpec.ofChange revisionPacksSpec)) revisionPacksCard

/-- THE TIED CARD OF 'airlinelaw10.RevisionSteps'. -/
def revisionStepsCard : Claim7 := { stood := { row := revisionStepsRow, standIns := [], harness := (true, "b87047f6675b9913d9f0592e2ea0dd659961c8b449ebf9dffd428cda67c90b5c"), looks := true }, kinds := [], alts := [], laidByText := true, laidKinds := [.data, .data, .data, .data], laidTests := true, laidLooks := .later }
def RevisionStepsCardSaid : Prop := Claim7.holds Tryz.pinned (.plain (OpenSpec.ofChange revisionStepsSpec)) revisionStepsCard

/-- THE TIED CARD OF 'airlinelaw10.RevisionTouches'. -/
def revisionTouchesCard : Claim7 := { stood := { row := revisionTouchesRow, standIns := [], harness := (true, "b87047f6675b9913d9f0592e2ea0dd659961c8b449ebf9dffd428cda67c90b5c"), looks := true }, kinds := [], alts := [], laidByText := true, laidKinds := [.data, .data, .data, .data], laidTests := true, laidLooks := .later }
def RevisionTouchesCardSaid : Prop := Claim7.holds Tryz.pinned (.plain (OpenSpec.ofChange revisionTouchesSpec)) revisionTouchesCard

/-- THE TIED CARD OF 'airlinelaw07.FlightTexts'. -/
def flightTextsCard : Claim7 := { stood := { row := flightTextsRow, standIns := [], harness := (true, "b87047f6675b9913d9f0592e2ea0dd659961c8b449ebf9dffd428cda67c90b5c"), looks := true }, kinds := [], alts := [], laidByText := true, laidKinds := [.data, .data, .data, .data, .data, .sentinel, .sentinel, .pinned], laidTests := true, laidLooks := .later }
def FlightTextsCardSaid : Prop := Claim7.holds Tryz.pinned (.plain (OpenSpec.ofChange flightTextsSpec)) flightTextsCard

/-- THE TIED CARD OF 'airlinelaw10.RevisionTexts'. -/
def revisionTextsCard : Claim7 := { stood := { row := revisionTextsRow, standIns := [], harness := (true, "b87047f6675b9913d9f0592e2ea0dd659961c8b449ebf9dffd428cda67c90b5c"), looks := true }, kinds := [], alts := [], laidByText := true, laidKinds := [.data, .data, .data, .data, .data, .sentinel, .sentinel, .pinned], laidTests := true, laidLooks := .later }
def RevisionTextsCardSaid : Prop := Claim7.holds Tryz.pinned (.plain (OpenSpec.ofChange revisionTextsSpec)) revisionTextsCard

/-- THE SECOND FORM's CARD OF 'airlinetop.TopRevises'. -/
def topRevisesUptoCard : Claim7 := { stood := { row := topRevisesUptoRow, standIns := [], harness := (true, "b87047f6675b9913d9f0592e2ea0dd659961c8b449ebf9dffd428cda67c90b5c"), looks := true }, kinds := [], alts := [], laidByText := true, laidKinds := [.data, .data, .data, .data], laidTests := true, laidLooks := .later }
def TopRevisesUptoCardSaid : Prop := Claim7.holds Tryz.pinned (.plain (OpenSpec.upto topRevisesSpec)) topRevisesUptoCard

/-- THE SECOND FORM's CARD OF 'airlinelaw10.RevisionApplies'. -/
def revisionAppliesUptoCard : Claim7 := { stood := { row := revisionAppliesUptoRow, standIns := [], harness := (true, "b87047f6675b9913d9f0592e2ea0dd659961c8b449ebf9dffd428cda67c90b5c"), looks := true }, kinds := [], alts := [], laidByText := true, laidKinds := [.data, .data, .data, .data], laidTests := true, laidLooks := .later }
def RevisionAppliesUptoCardSaid : Prop := Claim7.holds Tryz.pinned (.plain (OpenSpec.upto revisionAppliesSpec)) revisionAppliesUptoCard

/-- THE SECOND FORM's CARD OF 'airlinelaw10.RevisionOthers'. -/
def revisionOthersUptoCard : Claim7 := { stood := { row := revisionOthersUptoRow, standIns := [], harness := (true, "b87047f6675b9913d9f0592e2ea0dd659961c8b449ebf9dffd428cda67c90b5c"), looks := true }, kinds := [], alts := [], laidByText := true, laidKinds := [.data, .data, .data, .data], laidTests := true, laidLooks := .later }
def RevisionOthersUptoCardSaid : Prop := Claim7.holds Tryz.pinned (.plain (OpenSpec.upto revisionOthersSpec)) revisionOthersUptoCard

/-- THE SECOND FORM's CARD OF 'airlinelaw10.RevisionPacks'. -/
def revisionPacksUptoCard : Claim7 := { stood := { row := revisionPacksUptoRow, standIns := [], harness := (true, "b87047f6675b9913d9f0592e2ea0dd659961c8b449ebf9dffd428cda67c90b5c"), looks := true }, kinds := [], alts := [], laidByText := true, laidKinds := [.data, .data, .data, .data], laidTests := true, laidLooks := .later }
def RevisionPacksUptoCardSaid : Prop := Claim7.holds Tryz.pinned (.plain (OpenSpec.upto revisionPacksSpec)) revisionPacksUptoCard

/-- THE SECOND FORM's CARD OF 'airlinelaw10.RevisionSteps'. -/
def revisionStepsUptoCard : Claim7 := { stood := { row := revisionStepsUptoRow, standIns := [], harness := (true, "b87047f6675b9913d9f0592e2ea0dd659961c8b449ebf9dffd428cda67c90b5c"), looks := true }, kinds := [], alts := [], laidByText := true, laidKinds := [.data, .data, .data, .data], laidTests := true, laidLooks := .later }
def RevisionStepsUptoCardSaid : Prop := Claim7.holds Tryz.pinned (.plain (OpenSpec.upto revisionStepsSpec)) revisionStepsUptoCard

/-- THE SECOND FORM's CARD OF 'airlinelaw10.RevisionTouches'. -/
def revisionTouchesUptoCard : Claim7 := { stood := { row := revisionTouchesUptoRow, standIns := [], harness := (true, "b87047f6675b9913d9f0592e2ea0dd659961c8b449ebf9dffd428cda67c90b5c"), looks := true }, kinds := [], alts := [], laidByText := true, laidKinds := [.data, .data, .data, .data], laidTests := true, laidLooks := .later }
def RevisionTouchesUptoCardSaid : Prop := Claim7.holds Tryz.pinned (.plain (OpenSpec.upto revisionTouchesSpec)) revisionTouchesUptoCard

/-- THE SECOND FORM's CARD OF 'airlinelaw07.FlightTexts'. -/
def flightTextsUptoCard : Claim7 := { stood := { row := flightTextsUptoRow, standIns := [], harness := (true, "b87047f6675b9913d9f0592e2ea0dd659961c8b449ebf9dffd428cda67c90b5c"), looks := true }, kinds := [], alts := [], laidByText := true, laidKinds := [.data, .data, .data, .data, .data, .sentinel, .sentinel, .pinned], laidTests := true, laidLooks := .later }
def FlightTextsUptoCardSaid : Prop := Claim7.holds Tryz.pinned (.plain (OpenSpec.upto flightTextsSpec)) flightTextsUptoCard

/-- THE SECOND FORM's CARD OF 'airlinelaw10.RevisionTexts'. -/
def revisionTextsUptoCard : Claim7 := { stood := { row := revisionTextsUptoRow, standIns := [], harness := (true, "b87047f6675b9913d9f0592e2ea0dd659961c8b449ebf9dffd428cda67c90b5c"), looks := true }, kinds := [], alts := [], laidByText := true, laidKinds := [.data, .data, .data, .data, .data, .sentinel, .sentinel, .pinned], laidTests := true, laidLooks := .later }
def RevisionTextsUptoCardSaid : Prop := Claim7.holds Tryz.pinned (.plain (OpenSpec.upto revisionTextsSpec)) revisionTextsUptoCard
end Rows
end Go.Proofs.YtdcpdknginpohaaGreatDoor
