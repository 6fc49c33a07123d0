/-
  DERIVED. GIVEN WITH THE SEED: THE CARDS: each row of YtigmcfhmpcajlaaGreatDoorRows.lean that lists a variable, with what it lists TIED to the program's text (the seventh form; the later family's looks); each row that meets fmt, with fmt's text TOLD by the authors' own Lean function (tested against real Go, not proved from fmt's source: count such statements apart). THE CARD IS WHAT COUNTS. Prove the row's statement (the work); the ties are given (YtigmcfhmpcajlaaGreatDoorTie.lean); close each card by the builder's one call (the guide's Derived/Test/ToyasCard.lean, 'card_holds'). Laid BY PROGRAM, IN A SANDBOX (cutbox-door.mjs). By AI agents, Wed Nov 11 2026. No macro, syntax, notation, axiom, sorry.
-/
import Derived.Test.YtigmcfhmpcajlaaGreatDoorRows
import GoSem.ClaimSeven
namespace Go.Proofs.YtigmcfhmpcajlaaGreatDoor
namespace Rows

/-- THE TIED CARD OF 'airlinetop.TopBookings'. -/
def topBookingsCard : Claim7 := { stood := { row := topBookingsRow, standIns := [], harness := (true, "c79a00f04bf7c5b077a218d23585edd8296ddf2471633b0b5a43e815602e44d2"), looks := true }, kinds := [], alts := [], laidByText := true, laidKinds := [.data, .data, .data, .data, .data, .pinned], laidTests := true, laidLooks := .later }
def TopBookingsCardSaid : Prop := Claim7.holds Tryz.pinned (.plain (OpenSpec.ofChange topBookingsSpec)) topBookingsCard

/-- THE TIED CARD OF 'airlinelaw35.BookingChecks'. -/
def bookingChecksCard : Claim7 := { stood := { row := bookingChecksRow, standIns := [], harness := (true, "c79a00f04bf7c5b077a218d23585edd8296ddf2471633b0b5a43e815602e44d2"), looks := true }, kinds := [], alts := [], laidByText := true, laidKinds := [.data, .data, .data, .data, .sentinel, .sentinel, .pinned], laidTests := true, laidLooks := .later }
def BookingChecksCardSaid : Prop := Claim7.holds Tryz.pinned (.plain (OpenSpec.ofChange bookingChecksSpec)) bookingChecksCard

/-- THE TIED CARD OF 'airlinelaw35.BookingChanges'. -/
def bookingChangesCard : Claim7 := { stood := { row := bookingChangesRow, standIns := [], harness := (true, "c79a00f04bf7c5b077a218d23585edd8296ddf2471633b0b5a43e815602e44d2"), looks := true }, kinds := [], alts := [], laidByText := true, laidKinds := [.data, .data, .data, .data, .sentinel, .sentinel, .pinned], laidTests := true, laidLooks := .later }
def BookingChangesCardSaid : Prop := Claim7.holds Tryz.pinned (.plain (OpenSpec.ofChange bookingChangesSpec)) bookingChangesCard

/-- THE TIED CARD OF 'airlinelaw35.BookingMarried'. -/
def bookingMarriedCard : Claim7 := { stood := { row := bookingMarriedRow, standIns := [], harness := (true, "c79a00f04bf7c5b077a218d23585edd8296ddf2471633b0b5a43e815602e44d2"), looks := true }, kinds := [], alts := [], laidByText := true, laidKinds := [.data, .data, .data, .data, .sentinel, .sentinel, .pinned], laidTests := true, laidLooks := .later }
def BookingMarriedCardSaid : Prop := Claim7.holds Tryz.pinned (.plain (OpenSpec.ofChange bookingMarriedSpec)) bookingMarriedCard

/-- THE TIED CARD OF 'airlinelaw35.BookingDivides'. -/
def bookingDividesCard : Claim7 := { stood := { row := bookingDividesRow, standIns := [], harness := (true, "c79a00f04bf7c5b077a218d23585edd8296ddf2471633b0b5a43e815602e44d2"), looks := true }, kinds := [], alts := [], laidByText := true, laidKinds := [.data, .data, .data, .data, .sentinel, .sentinel, .pinned], laidTests := true, laidLooks := .later }
def BookingDividesCardSaid : Prop := Claim7.holds Tryz.pinned (.plain (OpenSpec.ofChange bookingDividesSpec)) bookingDividesCard

/-- THE TIED CARD OF 'airlinelaw35.BookingSame'. -/
def bookingSameCard : Claim7 := { stood := { row := bookingSameRow, standIns := [], harness := (true, "c79a00f04bf7c5b077a218d23585edd8296ddf2471633b0b5a43e815602e44d2"), looks := true }, kinds := [], alts := [], laidByText := true, laidKinds := [.data, .data, .data, .data, .sentinel, .sentinel, .pinned], laidTests := true, laidLooks := .later }
def BookingSameCardSaid : Prop := Claim7.holds Tryz.pinned (.plain (OpenSpec.ofChange bookingSameSpec)) bookingSameCard

/-- THE TIED CARD OF 'airlinelaw35.BookingTexts'. -/
def bookingTextsCard : Claim7 := { stood := { row := bookingTextsRow, standIns := [], harness := (true, "c79a00f04bf7c5b077a218d23585edd8296ddf2471633b0b5a43e815602e44d2"), looks := true }, kinds := [], alts := [], laidByText := true, laidKinds := [.data, .data, .data, .data, .sentinel, .sentinel, .pinned], laidTests := true, laidLooks := .later }
def BookingTextsCardSaid : Prop := Claim7.holds Tryz.pinned (.plain (OpenSpec.ofChange bookingTextsSpec)) bookingTextsCard

/-- THE TIED CARD OF 'airlinelaw35.BookingParses'. -/
def bookingParsesCard : Claim7 := { stood := { row := bookingParsesRow, standIns := [], harness := (true, "c79a00f04bf7c5b077a218d23585edd8296ddf2471633b0b5a43e815602e44d2"), looks := true }, kinds := [], alts := [], laidByText := true, laidKinds := [.data, .data, .data, .data, .sentinel, .sentinel, .pinned], laidTests := true, laidLooks := .later }
def BookingParsesCardSaid : Prop := Claim7.holds Tryz.pinned (.plain (OpenSpec.ofChange bookingParsesSpec)) bookingParsesCard

/-- THE SECOND FORM's CARD OF 'airlinetop.TopBookings'. -/
def topBookingsUptoCard : Claim7 := { stood := { row := topBookingsUptoRow, standIns := [], harness := (true, "c79a00f04bf7c5b077a218d23585edd8296ddf2471633b0b5a43e815602e44d2"), looks := true }, kinds := [], alts := [], laidByText := true, laidKinds := [.data, .data, .data, .data, .data, .pinned], laidTests := true, laidLooks := .later }
def TopBookingsUptoCardSaid : Prop := Claim7.holds Tryz.pinned (.plain (OpenSpec.upto topBookingsSpec)) topBookingsUptoCard

/-- THE SECOND FORM's CARD OF 'airlinelaw35.BookingChecks'. -/
def bookingChecksUptoCard : Claim7 := { stood := { row := bookingChecksUptoRow, standIns := [], harness := (true, "c79a00f04bf7c5b077a218d23585edd8296ddf2471633b0b5a43e815602e44d2"), looks := true }, kinds := [], alts := [], laidByText := true, laidKinds := [.data, .data, .data, .data, .sentinel, .sentinel, .pinned], laidTests := true, laidLooks := .later }
def BookingChecksUptoCardSaid : Prop := Claim7.holds Tryz.pinned (.plain (OpenSpec.upto bookingChecksSpec)) bookingChecksUptoCard

/-- THE SECOND FORM's CARD OF 'airlinelaw35.BookingChanges'. -/
def bookingChangesUptoCard : Claim7 := { stood := { row := bookingChangesUptoRow, standIns := [], harness := (true, "c79a00f04bf7c5b077a218d23585edd8296ddf2471633b0b5a43e815602e44d2"), looks := true }, kinds := [], alts := [], laidByText := true, laidKinds := [.data, .data, .data, .data, .sentinel, .sentinel, .pinned], laidTests := true, laidLooks := .later }
def BookingChangesUptoCardSaid : Prop := Claim7.holds Tryz.pinned (.plain (OpenSpec.upto bookingChangesSpec)) bookingChangesUptoCard

/-- THE SECOND FORM's CARD OF 'airlinelaw35.BookingMarried'. -/
def bookingMarriedUptoCard : Claim7 := { stood := { row := bookingMarriedUptoRow, standIns := [], harness := (true, "c79a00f04bf7c5b077a218d23585edd8296ddf2471633b0b5a43e815602e44d2"), looks := true }, kinds := [], alts := [], laidByText := true, laidKinds := [.data, .data, .data, .data, .sentinel, .sentinel, .pinned], laidTests := true, laidLooks := .later }
def BookingMarriedUptoCardSaid : Prop := Claim7.holds Tryz.pinned (.plain (OpenSpec.upto bookingMarriedSpec)) bookingMarriedUptoCard

/-- THE SECOND FORM's CARD OF 'airlinelaw35.BookingDivides'. -/
def bookingDividesUptoCard : Claim7 := { stood := { row := bookingDividesUptoRow, standIns := [], harness := (true, "c79a00f04bf7c5b077a218d23585edd8296ddf2471633b0b5a43e815602e44d2"), looks := true }, kinds := [], alts := [], laidByText := true, laidKinds := [.data, .data, .data, .data, .sentinel, .sentinel, .pinned], laidTests := true, laidLooks := .later }
def BookingDividesUptoCardSaid : Prop := Claim7.holds Tryz.pinned (.plain (OpenSpec.upto bookingDividesSpec)) bookingDividesUptoCard

/-- THE SECOND FORM's CARD OF 'airlinelaw35.BookingSame'. -/
def bookingSameUptoCard : Claim7 := { stood := { row := bookingSameUptoRow, standIns := [], harness := (true, "c79a00f04bf7c5b077a218d23585edd8296ddf2471633b0b5a43e815602e44d2"), looks := true }, kinds := [], alts := [], laidByText := true, laidKinds := [.data, .data, .data, .data, .sentinel, .sentinel, .pinned], laidTests := true, laidLooks := .later }
def BookingSameUptoCardSaid : Prop := Claim7.holds Tryz.pinned (.plain (OpenSpec.upto bookingSameSpec)) bookingSameUptoCard

/-- THE SECOND FORM's CARD OF 'airlinelaw35.BookingTexts'. -/
def bookingTextsUptoCard : Claim7 := { stood := { row := bookingTextsUptoRow, standIns := [], harness := (true, "c79a00f04bf7c5b077a218d23585edd8296ddf2471633b0b5a43e815602e44d2"), looks := true }, kinds := [], alts := [], laidByText := true, laidKinds := [.data, .data, .data, .data, .sentinel, .sentinel, .pinned], laidTests := true, laidLooks := .later }
def BookingTextsUptoCardSaid : Prop := Claim7.holds Tryz.pinned (.plain (OpenSpec.upto bookingTextsSpec)) bookingTextsUptoCard

/-- THE SECOND FORM's CARD OF 'airlinelaw35.BookingParses'. -/
def bookingParsesUptoCard : Claim7 := { stood := { row := bookingParsesUptoRow, standIns := [], harness := (true, "c79a00f04bf7c5b077a218d23585edd8296ddf2471633b0b5a43e815602e44d2"), looks := true }, kinds := [], alts := [], laidByText := true, laidKinds := [.data, .data, .data, .data, .sentinel, .sentinel, .pinned], laidTests := true, laidLooks := .later }
def BookingParsesUptoCardSaid : Prop := Claim7.holds Tryz.pinned (.plain (OpenSpec.upto bookingParsesSpec)) bookingParsesUptoCard
end Rows
end Go.Proofs.YtigmcfhmpcajlaaGreatDoor
