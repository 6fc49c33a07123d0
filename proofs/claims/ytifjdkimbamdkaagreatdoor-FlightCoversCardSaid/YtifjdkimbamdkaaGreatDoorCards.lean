/-
  DERIVED. GIVEN WITH THE SEED: THE CARDS: each row of YtifjdkimbamdkaaGreatDoorRows.lean that lists a variable, with what it lists TIED to the program's text (the seventh form; the later family's looks); each row that meets fmt, with fmt's text TOLD by the authors' own Lean function (tested against real Go, not proved from fmt's source: count such statements apart). THE CARD IS WHAT COUNTS. Prove the row's statement (the work); the ties are given (YtifjdkimbamdkaaGreatDoorTie.lean); close each card by the builder's one call (the guide's Derived/Test/ToyasCard.lean, 'card_holds'). Laid BY PROGRAM, IN A SANDBOX (cutbox-door.mjs). By AI agents, Wed Nov 11 2026. No macro, syntax, notation, axiom, sorry.
-/
import Derived.Test.YtifjdkimbamdkaaGreatDoorRows
import GoSem.ClaimSeven
namespace Go.Proofs.YtifjdkimbamdkaaGreatDoor
namespace Rows

/-- THE TIED CARD OF 'airlinelaw07.FlightChecks'. -/
def flightChecksCard : Claim7 := { stood := { row := flightChecksRow, standIns := [], harness := (true, "1f05cae96923df943ef01dd64bfe3d6b8dfa1149dffc71b83ed2f394932725dc"), looks := true }, kinds := [], alts := [], laidByText := true, laidKinds := [.data, .data, .data, .data], laidTests := true, laidLooks := .later }
def FlightChecksCardSaid : Prop := Claim7.holds Tryz.pinned (.plain (OpenSpec.ofChange flightChecksSpec)) flightChecksCard

/-- THE TIED CARD OF 'airlinelaw07.FlightLegs'. -/
def flightLegsCard : Claim7 := { stood := { row := flightLegsRow, standIns := [], harness := (true, "1f05cae96923df943ef01dd64bfe3d6b8dfa1149dffc71b83ed2f394932725dc"), looks := true }, kinds := [], alts := [], laidByText := true, laidKinds := [.data, .data, .data, .data], laidTests := true, laidLooks := .later }
def FlightLegsCardSaid : Prop := Claim7.holds Tryz.pinned (.plain (OpenSpec.ofChange flightLegsSpec)) flightLegsCard

/-- THE TIED CARD OF 'airlinelaw07.FlightPaths'. -/
def flightPathsCard : Claim7 := { stood := { row := flightPathsRow, standIns := [], harness := (true, "1f05cae96923df943ef01dd64bfe3d6b8dfa1149dffc71b83ed2f394932725dc"), looks := true }, kinds := [], alts := [], laidByText := true, laidKinds := [.data, .data, .data, .data], laidTests := true, laidLooks := .later }
def FlightPathsCardSaid : Prop := Claim7.holds Tryz.pinned (.plain (OpenSpec.ofChange flightPathsSpec)) flightPathsCard

/-- THE TIED CARD OF 'airlinelaw07.FlightCovers'. -/
def flightCoversCard : Claim7 := { stood := { row := flightCoversRow, standIns := [], harness := (true, "1f05cae96923df943ef01dd64bfe3d6b8dfa1149dffc71b83ed2f394932725dc"), looks := true }, kinds := [], alts := [], laidByText := true, laidKinds := [.data, .data, .data, .data], laidTests := true, laidLooks := .later }
def FlightCoversCardSaid : Prop := Claim7.holds Tryz.pinned (.plain (OpenSpec.ofChange flightCoversSpec)) flightCoversCard

/-- THE TIED CARD OF 'airlinelaw07.FlightTexts'. -/
def flightTextsCard : Claim7 := { stood := { row := flightTextsRow, standIns := [], harness := (true, "1f05cae96923df943ef01dd64bfe3d6b8dfa1149dffc71b83ed2f394932725dc"), looks := true }, kinds := [], alts := [], laidByText := true, laidKinds := [.data, .data, .data, .data, .data, .sentinel, .sentinel, .pinned], laidTests := true, laidLooks := .later }
def FlightTextsCardSaid : Prop := Claim7.holds Tryz.pinned (.plain (OpenSpec.ofChange flightTextsSpec)) flightTextsCard

/-- THE SECOND FORM's CARD OF 'airlinelaw07.FlightChecks'. -/
def flightChecksUptoCard : Claim7 := { stood := { row := flightChecksUptoRow, standIns := [], harness := (true, "1f05cae96923df943ef01dd64bfe3d6b8dfa1149dffc71b83ed2f394932725dc"), looks := true }, kinds := [], alts := [], laidByText := true, laidKinds := [.data, .data, .data, .data], laidTests := true, laidLooks := .later }
def FlightChecksUptoCardSaid : Prop := Claim7.holds Tryz.pinned (.plain (OpenSpec.upto flightChecksSpec)) flightChecksUptoCard

/-- THE SECOND FORM's CARD OF 'airlinelaw07.FlightLegs'. -/
def flightLegsUptoCard : Claim7 := { stood := { row := flightLegsUptoRow, standIns := [], harness := (true, "1f05cae96923df943ef01dd64bfe3d6b8dfa1149dffc71b83ed2f394932725dc"), looks := true }, kinds := [], alts := [], laidByText := true, laidKinds := [.data, .data, .data, .data], laidTests := true, laidLooks := .later }
def FlightLegsUptoCardSaid : Prop := Claim7.holds Tryz.pinned (.plain (OpenSpec.upto flightLegsSpec)) flightLegsUptoCard

/-- THE SECOND FORM's CARD OF 'airlinelaw07.FlightPaths'. -/
def flightPathsUptoCard : Claim7 := { stood := { row := flightPathsUptoRow, standIns := [], harness := (true, "1f05cae96923df943ef01dd64bfe3d6b8dfa1149dffc71b83ed2f394932725dc"), looks := true }, kinds := [], alts := [], laidByText := true, laidKinds := [.data, .data, .data, .data], laidTests := true, laidLooks := .later }
def FlightPathsUptoCardSaid : Prop := Claim7.holds Tryz.pinned (.plain (OpenSpec.upto flightPathsSpec)) flightPathsUptoCard

/-- THE SECOND FORM's CARD OF 'airlinelaw07.FlightCovers'. -/
def flightCoversUptoCard : Claim7 := { stood := { row := flightCoversUptoRow, standIns := [], harness := (true, "1f05cae96923df943ef01dd64bfe3d6b8dfa1149dffc71b83ed2f394932725dc"), looks := true }, kinds := [], alts := [], laidByText := true, laidKinds := [.data, .data, .data, .data], laidTests := true, laidLooks := .later }
def FlightCoversUptoCardSaid : Prop := Claim7.holds Tryz.pinned (.plain (OpenSpec.upto flightCoversSpec)) flightCoversUptoCard

/-- THE SECOND FORM's CARD OF 'airlinelaw07.FlightTexts'. -/
def flightTextsUptoCard : Claim7 := { stood := { row := flightTextsUptoRow, standIns := [], harness := (true, "1f05cae96923df943ef01dd64bfe3d6b8dfa1149dffc71b83ed2f394932725dc"), looks := true }, kinds := [], alts := [], laidByText := true, laidKinds := [.data, .data, .data, .data, .data, .sentinel, .sentinel, .pinned], laidTests := true, laidLooks := .later }
def FlightTextsUptoCardSaid : Prop := Claim7.holds Tryz.pinned (.plain (OpenSpec.upto flightTextsSpec)) flightTextsUptoCard
end Rows
end Go.Proofs.YtifjdkimbamdkaaGreatDoor
