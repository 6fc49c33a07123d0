/-
  DERIVED. GIVEN WITH THE SEED: THE CARDS: each row of YtbdclhadjcfadaaGreatDoorRows.lean that lists a variable, with what it lists TIED to the program's text (the seventh form; the later family's looks); each row that meets fmt, with fmt's text TOLD by the authors' own Lean function (tested against real Go, not proved from fmt's source: count such statements apart). THE CARD IS WHAT COUNTS. Prove the row's statement (the work); the ties are given (YtbdclhadjcfadaaGreatDoorTie.lean); close each card by the builder's one call (the guide's Derived/Test/ToyasCard.lean, 'card_holds'). Laid BY PROGRAM, IN A SANDBOX (cutbox-door.mjs). By AI agents, Wed Nov 11 2026. No macro, syntax, notation, axiom, sorry.
-/
import Derived.Test.YtbdclhadjcfadaaGreatDoorRows
import GoSem.ClaimSeven
namespace Go.Proofs.YtbdclhadjcfadaaGreatDoor
namespace Rows

/-- THE TIED CARD OF 'airlinelaw20.CondTexts'. -/
def condTextsCard : Claim7 := { stood := { row := condTextsRow, standIns := [], harness := (true, "08fda4b0ffaff57e1bed5d3537db53937d281378657dcfa0a1c2d346d5a6954e"), looks := true }, kinds := [], alts := [], laidByText := true, laidKinds := [.data, .data, .data, .data, .data, .sentinel, .sentinel, .pinned], laidTests := true, laidLooks := .later }
def CondTextsCardSaid : Prop := Claim7.holds Tryz.pinned (.plain (OpenSpec.ofChange condTextsSpec)) condTextsCard

/-- THE TIED CARD OF 'airlinelaw20.CondBack'. -/
def condBackCard : Claim7 := { stood := { row := condBackRow, standIns := [], harness := (true, "08fda4b0ffaff57e1bed5d3537db53937d281378657dcfa0a1c2d346d5a6954e"), looks := true }, kinds := [], alts := [], laidByText := true, laidKinds := [.data, .data, .data, .data, .data, .sentinel, .sentinel, .pinned], laidTests := true, laidLooks := .later }
def CondBackCardSaid : Prop := Claim7.holds Tryz.pinned (.plain (OpenSpec.ofChange condBackSpec)) condBackCard

/-- THE SECOND FORM's CARD OF 'airlinelaw20.CondTexts'. -/
def condTextsUptoCard : Claim7 := { stood := { row := condTextsUptoRow, standIns := [], harness := (true, "08fda4b0ffaff57e1bed5d3537db53937d281378657dcfa0a1c2d346d5a6954e"), looks := true }, kinds := [], alts := [], laidByText := true, laidKinds := [.data, .data, .data, .data, .data, .sentinel, .sentinel, .pinned], laidTests := true, laidLooks := .later }
def CondTextsUptoCardSaid : Prop := Claim7.holds Tryz.pinned (.plain (OpenSpec.upto condTextsSpec)) condTextsUptoCard

/-- THE SECOND FORM's CARD OF 'airlinelaw20.CondBack'. -/
def condBackUptoCard : Claim7 := { stood := { row := condBackUptoRow, standIns := [], harness := (true, "08fda4b0ffaff57e1bed5d3537db53937d281378657dcfa0a1c2d346d5a6954e"), looks := true }, kinds := [], alts := [], laidByText := true, laidKinds := [.data, .data, .data, .data, .data, .sentinel, .sentinel, .pinned], laidTests := true, laidLooks := .later }
def CondBackUptoCardSaid : Prop := Claim7.holds Tryz.pinned (.plain (OpenSpec.upto condBackSpec)) condBackUptoCard
end Rows
end Go.Proofs.YtbdclhadjcfadaaGreatDoor
