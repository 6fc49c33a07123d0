/-
  DERIVED. GIVEN WITH THE SEED: THE CARDS: each row of YtmandbflbfkagaaGreatDoorRows.lean that lists a variable, with what it lists TIED to the program's text (the seventh form; the later family's looks); each row that meets fmt, with fmt's text TOLD by the authors' own Lean function (tested against real Go, not proved from fmt's source: count such statements apart). THE CARD IS WHAT COUNTS. Prove the row's statement (the work); the ties are given (YtmandbflbfkagaaGreatDoorTie.lean); close each card by the builder's one call (the guide's Derived/Test/ToyasCard.lean, 'card_holds'). Laid BY PROGRAM, IN A SANDBOX (cutbox-door.mjs). By AI agents, Wed Nov 11 2026. No macro, syntax, notation, axiom, sorry.
-/
import Derived.Test.YtmandbflbfkagaaGreatDoorRows
import GoSem.ClaimSeven
namespace Go.Proofs.YtmandbflbfkagaaGreatDoor
namespace Rows

/-- THE TIED CARD OF 'airlinelaw20.CondHolds'. -/
def condHoldsCard : Claim7 := { stood := { row := condHoldsRow, standIns := [], harness := (true, "967a09c48d3583c2cc33cbba8483a8dae641531f5a562c96d3b3ac1946ed4be0"), looks := true }, kinds := [], alts := [], laidByText := true, laidKinds := [.data, .data, .data, .data, .data, .sentinel, .sentinel, .pinned], laidTests := true, laidLooks := .later }
def CondHoldsCardSaid : Prop := Claim7.holds Tryz.pinned (.plain (OpenSpec.ofChange condHoldsSpec)) condHoldsCard

/-- THE TIED CARD OF 'airlinelaw20.CondTexts'. -/
def condTextsCard : Claim7 := { stood := { row := condTextsRow, standIns := [], harness := (true, "967a09c48d3583c2cc33cbba8483a8dae641531f5a562c96d3b3ac1946ed4be0"), looks := true }, kinds := [], alts := [], laidByText := true, laidKinds := [.data, .data, .data, .data, .data, .sentinel, .sentinel, .pinned], laidTests := true, laidLooks := .later }
def CondTextsCardSaid : Prop := Claim7.holds Tryz.pinned (.plain (OpenSpec.ofChange condTextsSpec)) condTextsCard

/-- THE TIED CARD OF 'airlinelaw20.CondReasons'. -/
def condReasonsCard : Claim7 := { stood := { row := condReasonsRow, standIns := [], harness := (true, "967a09c48d3583c2cc33cbba8483a8dae641531f5a562c96d3b3ac1946ed4be0"), looks := true }, kinds := [], alts := [], laidByText := true, laidKinds := [.data, .data, .data, .data, .data, .sentinel, .sentinel, .pinned], laidTests := true, laidLooks := .later }
def CondReasonsCardSaid : Prop := Claim7.holds Tryz.pinned (.plain (OpenSpec.ofChange condReasonsSpec)) condReasonsCard

/-- THE TIED CARD OF 'airlinelaw20.CondLogic'. -/
def condLogicCard : Claim7 := { stood := { row := condLogicRow, standIns := [], harness := (true, "967a09c48d3583c2cc33cbba8483a8dae641531f5a562c96d3b3ac1946ed4be0"), looks := true }, kinds := [], alts := [], laidByText := true, laidKinds := [.data, .data, .data, .data, .data, .sentinel, .sentinel, .pinned], laidTests := true, laidLooks := .later }
def CondLogicCardSaid : Prop := Claim7.holds Tryz.pinned (.plain (OpenSpec.ofChange condLogicSpec)) condLogicCard

/-- THE TIED CARD OF 'airlinelaw20.CondChecks'. -/
def condChecksCard : Claim7 := { stood := { row := condChecksRow, standIns := [], harness := (true, "967a09c48d3583c2cc33cbba8483a8dae641531f5a562c96d3b3ac1946ed4be0"), looks := true }, kinds := [], alts := [], laidByText := true, laidKinds := [.data, .data, .data, .data, .data, .sentinel, .sentinel, .pinned], laidTests := true, laidLooks := .later }
def CondChecksCardSaid : Prop := Claim7.holds Tryz.pinned (.plain (OpenSpec.ofChange condChecksSpec)) condChecksCard

/-- THE TIED CARD OF 'airlinelaw20.CondBack'. -/
def condBackCard : Claim7 := { stood := { row := condBackRow, standIns := [], harness := (true, "967a09c48d3583c2cc33cbba8483a8dae641531f5a562c96d3b3ac1946ed4be0"), looks := true }, kinds := [], alts := [], laidByText := true, laidKinds := [.data, .data, .data, .data, .data, .sentinel, .sentinel, .pinned], laidTests := true, laidLooks := .later }
def CondBackCardSaid : Prop := Claim7.holds Tryz.pinned (.plain (OpenSpec.ofChange condBackSpec)) condBackCard

/-- THE SECOND FORM's CARD OF 'airlinelaw20.CondHolds'. -/
def condHoldsUptoCard : Claim7 := { stood := { row := condHoldsUptoRow, standIns := [], harness := (true, "967a09c48d3583c2cc33cbba8483a8dae641531f5a562c96d3b3ac1946ed4be0"), looks := true }, kinds := [], alts := [], laidByText := true, laidKinds := [.data, .data, .data, .data, .data, .sentinel, .sentinel, .pinned], laidTests := true, laidLooks := .later }
def CondHoldsUptoCardSaid : Prop := Claim7.holds Tryz.pinned (.plain (OpenSpec.upto condHoldsSpec)) condHoldsUptoCard

/-- THE SECOND FORM's CARD OF 'airlinelaw20.CondTexts'. -/
def condTextsUptoCard : Claim7 := { stood := { row := condTextsUptoRow, standIns := [], harness := (true, "967a09c48d3583c2cc33cbba8483a8dae641531f5a562c96d3b3ac1946ed4be0"), looks := true }, kinds := [], alts := [], laidByText := true, laidKinds := [.data, .data, .data, .data, .data, .sentinel, .sentinel, .pinned], laidTests := true, laidLooks := .later }
def CondTextsUptoCardSaid : Prop := Claim7.holds Tryz.pinned (.plain (OpenSpec.upto condTextsSpec)) condTextsUptoCard

/-- THE SECOND FORM's CARD OF 'airlinelaw20.CondReasons'. -/
def condReasonsUptoCard : Claim7 := { stood := { row := condReasonsUptoRow, standIns := [], harness := (true, "967a09c48d3583c2cc33cbba8483a8dae641531f5a562c96d3b3ac1946ed4be0"), looks := true }, kinds := [], alts := [], laidByText := true, laidKinds := [.data, .data, .data, .data, .data, .sentinel, .sentinel, .pinned], laidTests := true, laidLooks := .later }
def CondReasonsUptoCardSaid : Prop := Claim7.holds Tryz.pinned (.plain (OpenSpec.upto condReasonsSpec)) condReasonsUptoCard

/-- THE SECOND FORM's CARD OF 'airlinelaw20.CondLogic'. -/
def condLogicUptoCard : Claim7 := { stood := { row := condLogicUptoRow, standIns := [], harness := (true, "967a09c48d3583c2cc33cbba8483a8dae641531f5a562c96d3b3ac1946ed4be0"), looks := true }, kinds := [], alts := [], laidByText := true, laidKinds := [.data, .data, .data, .data, .data, .sentinel, .sentinel, .pinned], laidTests := true, laidLooks := .later }
def CondLogicUptoCardSaid : Prop := Claim7.holds Tryz.pinned (.plain (OpenSpec.upto condLogicSpec)) condLogicUptoCard

/-- THE SECOND FORM's CARD OF 'airlinelaw20.CondChecks'. -/
def condChecksUptoCard : Claim7 := { stood := { row := condChecksUptoRow, standIns := [], harness := (true, "967a09c48d3583c2cc33cbba8483a8dae641531f5a562c96d3b3ac1946ed4be0"), looks := true }, kinds := [], alts := [], laidByText := true, laidKinds := [.data, .data, .data, .data, .data, .sentinel, .sentinel, .pinned], laidTests := true, laidLooks := .later }
def CondChecksUptoCardSaid : Prop := Claim7.holds Tryz.pinned (.plain (OpenSpec.upto condChecksSpec)) condChecksUptoCard

/-- THE SECOND FORM's CARD OF 'airlinelaw20.CondBack'. -/
def condBackUptoCard : Claim7 := { stood := { row := condBackUptoRow, standIns := [], harness := (true, "967a09c48d3583c2cc33cbba8483a8dae641531f5a562c96d3b3ac1946ed4be0"), looks := true }, kinds := [], alts := [], laidByText := true, laidKinds := [.data, .data, .data, .data, .data, .sentinel, .sentinel, .pinned], laidTests := true, laidLooks := .later }
def CondBackUptoCardSaid : Prop := Claim7.holds Tryz.pinned (.plain (OpenSpec.upto condBackSpec)) condBackUptoCard
end Rows
end Go.Proofs.YtmandbflbfkagaaGreatDoor
