/-
  DERIVED. GIVEN WITH THE SEED: THE CARDS: each row of YtmpbijffaepkdaaGreatDoorRows.lean that lists a variable, with what it lists TIED to the program's text (the seventh form; the later family's looks); each row that meets fmt, with fmt's text TOLD by the authors' own Lean function (tested against real Go, not proved from fmt's source: count such statements apart). THE CARD IS WHAT COUNTS. Prove the row's statement (the work); the ties are given (YtmpbijffaepkdaaGreatDoorTie.lean); close each card by the builder's one call (the guide's Derived/Test/ToyasCard.lean, 'card_holds'). Laid BY PROGRAM, IN A SANDBOX (cutbox-door.mjs). By AI agents, Wed Nov 11 2026. No macro, syntax, notation, axiom, sorry.
-/
import Derived.Test.YtmpbijffaepkdaaGreatDoorRows
import GoSem.ClaimSeven
namespace Go.Proofs.YtmpbijffaepkdaaGreatDoor
namespace Rows

/-- THE TIED CARD OF 'airlinelaw24.TariffFinds'. -/
def tariffFindsCard : Claim7 := { stood := { row := tariffFindsRow, standIns := [], harness := (true, "e1c966f8f8480a1b87a2223572a0ccae1c8646e05a03f39d5edbc9d99738ed78"), looks := true }, kinds := [], alts := [], laidByText := true, laidKinds := [.data, .data, .data, .data, .data, .sentinel, .sentinel, .data, .pinned], laidTests := true, laidLooks := .later }
def TariffFindsCardSaid : Prop := Claim7.holds Tryz.pinned (.plain (OpenSpec.ofChange tariffFindsSpec)) tariffFindsCard

/-- THE TIED CARD OF 'airlinelaw24.TariffLooks'. -/
def tariffLooksCard : Claim7 := { stood := { row := tariffLooksRow, standIns := [], harness := (true, "e1c966f8f8480a1b87a2223572a0ccae1c8646e05a03f39d5edbc9d99738ed78"), looks := true }, kinds := [], alts := [], laidByText := true, laidKinds := [.data, .data, .data, .data, .data, .sentinel, .sentinel, .data, .pinned], laidTests := true, laidLooks := .later }
def TariffLooksCardSaid : Prop := Claim7.holds Tryz.pinned (.plain (OpenSpec.ofChange tariffLooksSpec)) tariffLooksCard

/-- THE TIED CARD OF 'airlinelaw24.TariffTexts'. -/
def tariffTextsCard : Claim7 := { stood := { row := tariffTextsRow, standIns := [], harness := (true, "e1c966f8f8480a1b87a2223572a0ccae1c8646e05a03f39d5edbc9d99738ed78"), looks := true }, kinds := [], alts := [], laidByText := true, laidKinds := [.data, .data, .data, .data, .data, .sentinel, .sentinel, .data, .pinned], laidTests := true, laidLooks := .later }
def TariffTextsCardSaid : Prop := Claim7.holds Tryz.pinned (.plain (OpenSpec.ofChange tariffTextsSpec)) tariffTextsCard

/-- THE TIED CARD OF 'airlinelaw24.TariffParses'. -/
def tariffParsesCard : Claim7 := { stood := { row := tariffParsesRow, standIns := [], harness := (true, "e1c966f8f8480a1b87a2223572a0ccae1c8646e05a03f39d5edbc9d99738ed78"), looks := true }, kinds := [], alts := [], laidByText := true, laidKinds := [.data, .data, .data, .data, .data, .sentinel, .sentinel, .data, .pinned], laidTests := true, laidLooks := .later }
def TariffParsesCardSaid : Prop := Claim7.holds Tryz.pinned (.plain (OpenSpec.ofChange tariffParsesSpec)) tariffParsesCard

/-- THE SECOND FORM's CARD OF 'airlinelaw24.TariffFinds'. -/
def tariffFindsUptoCard : Claim7 := { stood := { row := tariffFindsUptoRow, standIns := [], harness := (true, "e1c966f8f8480a1b87a2223572a0ccae1c8646e05a03f39d5edbc9d99738ed78"), looks := true }, kinds := [], alts := [], laidByText := true, laidKinds := [.data, .data, .data, .data, .data, .sentinel, .sentinel, .data, .pinned], laidTests := true, laidLooks := .later }
def TariffFindsUptoCardSaid : Prop := Claim7.holds Tryz.pinned (.plain (OpenSpec.upto tariffFindsSpec)) tariffFindsUptoCard

/-- THE SECOND FORM's CARD OF 'airlinelaw24.TariffLooks'. -/
def tariffLooksUptoCard : Claim7 := { stood := { row := tariffLooksUptoRow, standIns := [], harness := (true, "e1c966f8f8480a1b87a2223572a0ccae1c8646e05a03f39d5edbc9d99738ed78"), looks := true }, kinds := [], alts := [], laidByText := true, laidKinds := [.data, .data, .data, .data, .data, .sentinel, .sentinel, .data, .pinned], laidTests := true, laidLooks := .later }
def TariffLooksUptoCardSaid : Prop := Claim7.holds Tryz.pinned (.plain (OpenSpec.upto tariffLooksSpec)) tariffLooksUptoCard

/-- THE SECOND FORM's CARD OF 'airlinelaw24.TariffTexts'. -/
def tariffTextsUptoCard : Claim7 := { stood := { row := tariffTextsUptoRow, standIns := [], harness := (true, "e1c966f8f8480a1b87a2223572a0ccae1c8646e05a03f39d5edbc9d99738ed78"), looks := true }, kinds := [], alts := [], laidByText := true, laidKinds := [.data, .data, .data, .data, .data, .sentinel, .sentinel, .data, .pinned], laidTests := true, laidLooks := .later }
def TariffTextsUptoCardSaid : Prop := Claim7.holds Tryz.pinned (.plain (OpenSpec.upto tariffTextsSpec)) tariffTextsUptoCard

/-- THE SECOND FORM's CARD OF 'airlinelaw24.TariffParses'. -/
def tariffParsesUptoCard : Claim7 := { stood := { row := tariffParsesUptoRow, standIns := [], harness := (true, "e1c966f8f8480a1b87a2223572a0ccae1c8646e05a03f39d5edbc9d99738ed78"), looks := true }, kinds := [], alts := [], laidByText := true, laidKinds := [.data, .data, .data, .data, .data, .sentinel, .sentinel, .data, .pinned], laidTests := true, laidLooks := .later }
def TariffParsesUptoCardSaid : Prop := Claim7.holds Tryz.pinned (.plain (OpenSpec.upto tariffParsesSpec)) tariffParsesUptoCard
end Rows
end Go.Proofs.YtmpbijffaepkdaaGreatDoor
