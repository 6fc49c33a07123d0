/-
  DERIVED. GIVEN WITH THE SEED: THE CARDS: each row of YtifjdkimbamdkaaDoorRows.lean that lists a variable, with what it lists TIED to the program's text (the seventh form; the later family's looks); each row that meets fmt, with fmt's text TOLD by the authors' own Lean function (tested against real Go, not proved from fmt's source: count such statements apart). THE CARD IS WHAT COUNTS. Prove the row's statement (the work); the ties are given (YtifjdkimbamdkaaDoorTie.lean); close each card by the builder's one call (the guide's Derived/Test/ToyasCard.lean, 'card_holds'). Laid BY PROGRAM, IN A SANDBOX (cutbox-door.mjs). By AI agents, Wed Nov 11 2026. No macro, syntax, notation, axiom, sorry.
-/
import Derived.Test.YtifjdkimbamdkaaDoorRows
import GoSem.ClaimSeven
namespace Go.Proofs.YtifjdkimbamdkaaDoor
namespace Rows

/-- THE TIED CARD OF 'airlinelaw07.FlightOrder'. -/
def flightOrderCard : Claim7 := { stood := { row := flightOrderRow, standIns := [], harness := (true, "94015ee2fadb71e2a82d01fec23e33f528006b603c846508c8681c68d7b3b6f8"), looks := false }, kinds := [], alts := [], laidByText := true, laidKinds := [.data, .data, .data, .data], laidTests := true, laidLooks := .later }
def FlightOrderCardSaid : Prop := Claim7.holds Tryd.pinned (.plain (OpenSpec.ofChange flightOrderSpec)) flightOrderCard

/-- THE TIED CARD OF 'airlinetop.TopTimes'. -/
def topTimesCard : Claim7 := { stood := { row := topTimesRow, standIns := [], harness := (true, "94015ee2fadb71e2a82d01fec23e33f528006b603c846508c8681c68d7b3b6f8"), looks := false }, kinds := [], alts := [], laidByText := true, laidKinds := [.data], laidTests := true, laidLooks := .later }
def TopTimesCardSaid : Prop := Claim7.holds Tryd.pinned (.plain (OpenSpec.ofChange topTimesSpec)) topTimesCard

/-- THE TIED CARD OF 'airlinelaw07.FlightSames'. -/
def flightSamesCard : Claim7 := { stood := { row := flightSamesRow, standIns := [], harness := (true, "94015ee2fadb71e2a82d01fec23e33f528006b603c846508c8681c68d7b3b6f8"), looks := false }, kinds := [], alts := [], laidByText := true, laidKinds := [.data, .data, .data, .data], laidTests := true, laidLooks := .later }
def FlightSamesCardSaid : Prop := Claim7.holds Tryd.pinned (.plain (OpenSpec.ofChange flightSamesSpec)) flightSamesCard

/-- THE SECOND FORM's CARD OF 'airlinelaw07.FlightOrder'. -/
def flightOrderUptoCard : Claim7 := { stood := { row := flightOrderUptoRow, standIns := [], harness := (true, "94015ee2fadb71e2a82d01fec23e33f528006b603c846508c8681c68d7b3b6f8"), looks := false }, kinds := [], alts := [], laidByText := true, laidKinds := [.data, .data, .data, .data], laidTests := true, laidLooks := .later }
def FlightOrderUptoCardSaid : Prop := Claim7.holds Tryd.pinned (.plain (OpenSpec.upto flightOrderSpec)) flightOrderUptoCard

/-- THE SECOND FORM's CARD OF 'airlinetop.TopTimes'. -/
def topTimesUptoCard : Claim7 := { stood := { row := topTimesUptoRow, standIns := [], harness := (true, "94015ee2fadb71e2a82d01fec23e33f528006b603c846508c8681c68d7b3b6f8"), looks := false }, kinds := [], alts := [], laidByText := true, laidKinds := [.data], laidTests := true, laidLooks := .later }
def TopTimesUptoCardSaid : Prop := Claim7.holds Tryd.pinned (.plain (OpenSpec.upto topTimesSpec)) topTimesUptoCard

/-- THE SECOND FORM's CARD OF 'airlinelaw07.FlightSames'. -/
def flightSamesUptoCard : Claim7 := { stood := { row := flightSamesUptoRow, standIns := [], harness := (true, "94015ee2fadb71e2a82d01fec23e33f528006b603c846508c8681c68d7b3b6f8"), looks := false }, kinds := [], alts := [], laidByText := true, laidKinds := [.data, .data, .data, .data], laidTests := true, laidLooks := .later }
def FlightSamesUptoCardSaid : Prop := Claim7.holds Tryd.pinned (.plain (OpenSpec.upto flightSamesSpec)) flightSamesUptoCard
end Rows
end Go.Proofs.YtifjdkimbamdkaaDoor
