/-
  DERIVED. GIVEN WITH THE SEED: THE CARDS: each row of YtmefepdgnkhagaaGreatDoorRows.lean that lists a variable, with what it lists TIED to the program's text (the seventh form; the later family's looks); each row that meets fmt, with fmt's text TOLD by the authors' own Lean function (tested against real Go, not proved from fmt's source: count such statements apart). THE CARD IS WHAT COUNTS. Prove the row's statement (the work); the ties are given (YtmefepdgnkhagaaGreatDoorTie.lean); close each card by the builder's one call (the guide's Derived/Test/ToyasCard.lean, 'card_holds'). Laid BY PROGRAM, IN A SANDBOX (cutbox-door.mjs). By AI agents, Wed Nov 11 2026. No macro, syntax, notation, axiom, sorry.
-/
import Derived.Test.YtmefepdgnkhagaaGreatDoorRows
import GoSem.ClaimSeven
namespace Go.Proofs.YtmefepdgnkhagaaGreatDoor
namespace Rows

/-- THE TIED CARD OF 'airlinelaw21.RuleChecks'. -/
def ruleChecksCard : Claim7 := { stood := { row := ruleChecksRow, standIns := [], harness := (true, "6e6382b7bca30ce046227d79d6514d34abf61014a1b910034225d085734a6eeb"), looks := true }, kinds := [], alts := [], laidByText := true, laidKinds := [.data, .data, .data, .data, .data, .sentinel, .sentinel, .data, .pinned], laidTests := true, laidLooks := .later }
def RuleChecksCardSaid : Prop := Claim7.holds Tryz.pinned (.plain (OpenSpec.ofChange ruleChecksSpec)) ruleChecksCard

/-- THE TIED CARD OF 'airlinelaw21.RuleAllows'. -/
def ruleAllowsCard : Claim7 := { stood := { row := ruleAllowsRow, standIns := [], harness := (true, "6e6382b7bca30ce046227d79d6514d34abf61014a1b910034225d085734a6eeb"), looks := true }, kinds := [], alts := [], laidByText := true, laidKinds := [.data, .data, .data, .data, .data, .sentinel, .sentinel, .data, .pinned], laidTests := true, laidLooks := .later }
def RuleAllowsCardSaid : Prop := Claim7.holds Tryz.pinned (.plain (OpenSpec.ofChange ruleAllowsSpec)) ruleAllowsCard

/-- THE TIED CARD OF 'airlinelaw21.RulePays'. -/
def rulePaysCard : Claim7 := { stood := { row := rulePaysRow, standIns := [], harness := (true, "6e6382b7bca30ce046227d79d6514d34abf61014a1b910034225d085734a6eeb"), looks := true }, kinds := [], alts := [], laidByText := true, laidKinds := [.data, .data, .data, .data, .data, .sentinel, .sentinel, .data, .pinned], laidTests := true, laidLooks := .later }
def RulePaysCardSaid : Prop := Claim7.holds Tryz.pinned (.plain (OpenSpec.ofChange rulePaysSpec)) rulePaysCard

/-- THE TIED CARD OF 'airlinelaw21.RuleStays'. -/
def ruleStaysCard : Claim7 := { stood := { row := ruleStaysRow, standIns := [], harness := (true, "6e6382b7bca30ce046227d79d6514d34abf61014a1b910034225d085734a6eeb"), looks := true }, kinds := [], alts := [], laidByText := true, laidKinds := [.data, .data, .data, .data, .data, .sentinel, .sentinel, .data, .pinned], laidTests := true, laidLooks := .later }
def RuleStaysCardSaid : Prop := Claim7.holds Tryz.pinned (.plain (OpenSpec.ofChange ruleStaysSpec)) ruleStaysCard

/-- THE TIED CARD OF 'airlinelaw21.RuleMixes'. -/
def ruleMixesCard : Claim7 := { stood := { row := ruleMixesRow, standIns := [], harness := (true, "6e6382b7bca30ce046227d79d6514d34abf61014a1b910034225d085734a6eeb"), looks := true }, kinds := [], alts := [], laidByText := true, laidKinds := [.data, .data, .data, .data, .data, .sentinel, .sentinel, .data, .pinned], laidTests := true, laidLooks := .later }
def RuleMixesCardSaid : Prop := Claim7.holds Tryz.pinned (.plain (OpenSpec.ofChange ruleMixesSpec)) ruleMixesCard

/-- THE TIED CARD OF 'airlinelaw21.RuleTexts'. -/
def ruleTextsCard : Claim7 := { stood := { row := ruleTextsRow, standIns := [], harness := (true, "6e6382b7bca30ce046227d79d6514d34abf61014a1b910034225d085734a6eeb"), looks := true }, kinds := [], alts := [], laidByText := true, laidKinds := [.data, .data, .data, .data, .data, .sentinel, .sentinel, .data, .pinned], laidTests := true, laidLooks := .later }
def RuleTextsCardSaid : Prop := Claim7.holds Tryz.pinned (.plain (OpenSpec.ofChange ruleTextsSpec)) ruleTextsCard

/-- THE TIED CARD OF 'airlinelaw21.RuleParses'. -/
def ruleParsesCard : Claim7 := { stood := { row := ruleParsesRow, standIns := [], harness := (true, "6e6382b7bca30ce046227d79d6514d34abf61014a1b910034225d085734a6eeb"), looks := true }, kinds := [], alts := [], laidByText := true, laidKinds := [.data, .data, .data, .data, .data, .sentinel, .sentinel, .data, .pinned], laidTests := true, laidLooks := .later }
def RuleParsesCardSaid : Prop := Claim7.holds Tryz.pinned (.plain (OpenSpec.ofChange ruleParsesSpec)) ruleParsesCard

/-- THE SECOND FORM's CARD OF 'airlinelaw21.RuleChecks'. -/
def ruleChecksUptoCard : Claim7 := { stood := { row := ruleChecksUptoRow, standIns := [], harness := (true, "6e6382b7bca30ce046227d79d6514d34abf61014a1b910034225d085734a6eeb"), looks := true }, kinds := [], alts := [], laidByText := true, laidKinds := [.data, .data, .data, .data, .data, .sentinel, .sentinel, .data, .pinned], laidTests := true, laidLooks := .later }
def RuleChecksUptoCardSaid : Prop := Claim7.holds Tryz.pinned (.plain (OpenSpec.upto ruleChecksSpec)) ruleChecksUptoCard

/-- THE SECOND FORM's CARD OF 'airlinelaw21.RuleAllows'. -/
def ruleAllowsUptoCard : Claim7 := { stood := { row := ruleAllowsUptoRow, standIns := [], harness := (true, "6e6382b7bca30ce046227d79d6514d34abf61014a1b910034225d085734a6eeb"), looks := true }, kinds := [], alts := [], laidByText := true, laidKinds := [.data, .data, .data, .data, .data, .sentinel, .sentinel, .data, .pinned], laidTests := true, laidLooks := .later }
def RuleAllowsUptoCardSaid : Prop := Claim7.holds Tryz.pinned (.plain (OpenSpec.upto ruleAllowsSpec)) ruleAllowsUptoCard

/-- THE SECOND FORM's CARD OF 'airlinelaw21.RulePays'. -/
def rulePaysUptoCard : Claim7 := { stood := { row := rulePaysUptoRow, standIns := [], harness := (true, "6e6382b7bca30ce046227d79d6514d34abf61014a1b910034225d085734a6eeb"), looks := true }, kinds := [], alts := [], laidByText := true, laidKinds := [.data, .data, .data, .data, .data, .sentinel, .sentinel, .data, .pinned], laidTests := true, laidLooks := .later }
def RulePaysUptoCardSaid : Prop := Claim7.holds Tryz.pinned (.plain (OpenSpec.upto rulePaysSpec)) rulePaysUptoCard

/-- THE SECOND FORM's CARD OF 'airlinelaw21.RuleStays'. -/
def ruleStaysUptoCard : Claim7 := { stood := { row := ruleStaysUptoRow, standIns := [], harness := (true, "6e6382b7bca30ce046227d79d6514d34abf61014a1b910034225d085734a6eeb"), looks := true }, kinds := [], alts := [], laidByText := true, laidKinds := [.data, .data, .data, .data, .data, .sentinel, .sentinel, .data, .pinned], laidTests := true, laidLooks := .later }
def RuleStaysUptoCardSaid : Prop := Claim7.holds Tryz.pinned (.plain (OpenSpec.upto ruleStaysSpec)) ruleStaysUptoCard

/-- THE SECOND FORM's CARD OF 'airlinelaw21.RuleMixes'. -/
def ruleMixesUptoCard : Claim7 := { stood := { row := ruleMixesUptoRow, standIns := [], harness := (true, "6e6382b7bca30ce046227d79d6514d34abf61014a1b910034225d085734a6eeb"), looks := true }, kinds := [], alts := [], laidByText := true, laidKinds := [.data, .data, .data, .data, .data, .sentinel, .sentinel, .data, .pinned], laidTests := true, laidLooks := .later }
def RuleMixesUptoCardSaid : Prop := Claim7.holds Tryz.pinned (.plain (OpenSpec.upto ruleMixesSpec)) ruleMixesUptoCard

/-- THE SECOND FORM's CARD OF 'airlinelaw21.RuleTexts'. -/
def ruleTextsUptoCard : Claim7 := { stood := { row := ruleTextsUptoRow, standIns := [], harness := (true, "6e6382b7bca30ce046227d79d6514d34abf61014a1b910034225d085734a6eeb"), looks := true }, kinds := [], alts := [], laidByText := true, laidKinds := [.data, .data, .data, .data, .data, .sentinel, .sentinel, .data, .pinned], laidTests := true, laidLooks := .later }
def RuleTextsUptoCardSaid : Prop := Claim7.holds Tryz.pinned (.plain (OpenSpec.upto ruleTextsSpec)) ruleTextsUptoCard

/-- THE SECOND FORM's CARD OF 'airlinelaw21.RuleParses'. -/
def ruleParsesUptoCard : Claim7 := { stood := { row := ruleParsesUptoRow, standIns := [], harness := (true, "6e6382b7bca30ce046227d79d6514d34abf61014a1b910034225d085734a6eeb"), looks := true }, kinds := [], alts := [], laidByText := true, laidKinds := [.data, .data, .data, .data, .data, .sentinel, .sentinel, .data, .pinned], laidTests := true, laidLooks := .later }
def RuleParsesUptoCardSaid : Prop := Claim7.holds Tryz.pinned (.plain (OpenSpec.upto ruleParsesSpec)) ruleParsesUptoCard
end Rows
end Go.Proofs.YtmefepdgnkhagaaGreatDoor
