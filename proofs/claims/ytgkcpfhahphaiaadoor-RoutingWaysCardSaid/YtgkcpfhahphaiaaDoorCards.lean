/-
  DERIVED. GIVEN WITH THE SEED: THE CARDS: each row of YtgkcpfhahphaiaaDoorRows.lean that lists a variable, with what it lists TIED to the program's text (the seventh form; the later family's looks); each row that meets fmt, with fmt's text TOLD by the authors' own Lean function (tested against real Go, not proved from fmt's source: count such statements apart). THE CARD IS WHAT COUNTS. Prove the row's statement (the work); the ties are given (YtgkcpfhahphaiaaDoorTie.lean); close each card by the builder's one call (the guide's Derived/Test/ToyasCard.lean, 'card_holds'). Laid BY PROGRAM, IN A SANDBOX (cutbox-door.mjs). By AI agents, Wed Nov 11 2026. No macro, syntax, notation, axiom, sorry.
-/
import Derived.Test.YtgkcpfhahphaiaaDoorRows
import GoSem.ClaimSeven
namespace Go.Proofs.YtgkcpfhahphaiaaDoor
namespace Rows

/-- THE TIED CARD OF 'airlinelaw22.RoutingWays'. -/
def routingWaysCard : Claim7 := { stood := { row := routingWaysRow, standIns := [], harness := (true, "a1e032f6ba2ebdfd539ff1127e69bd776be125fcad6672e736718ec30831f576"), looks := false }, kinds := [], alts := [], laidByText := true, laidKinds := [.data, .data, .data], laidTests := true, laidLooks := .later }
def RoutingWaysCardSaid : Prop := Claim7.holds Tryd.pinned (.plain (OpenSpec.ofChange routingWaysSpec)) routingWaysCard

/-- THE TIED CARD OF 'airlinelaw22.RoutingFollows'. -/
def routingFollowsCard : Claim7 := { stood := { row := routingFollowsRow, standIns := [], harness := (true, "a1e032f6ba2ebdfd539ff1127e69bd776be125fcad6672e736718ec30831f576"), looks := false }, kinds := [], alts := [], laidByText := true, laidKinds := [.data, .data, .data], laidTests := true, laidLooks := .later }
def RoutingFollowsCardSaid : Prop := Claim7.holds Tryd.pinned (.plain (OpenSpec.ofChange routingFollowsSpec)) routingFollowsCard

/-- THE SECOND FORM's CARD OF 'airlinelaw22.RoutingWays'. -/
def routingWaysUptoCard : Claim7 := { stood := { row := routingWaysUptoRow, standIns := [], harness := (true, "a1e032f6ba2ebdfd539ff1127e69bd776be125fcad6672e736718ec30831f576"), looks := false }, kinds := [], alts := [], laidByText := true, laidKinds := [.data, .data, .data], laidTests := true, laidLooks := .later }
def RoutingWaysUptoCardSaid : Prop := Claim7.holds Tryd.pinned (.plain (OpenSpec.upto routingWaysSpec)) routingWaysUptoCard

/-- THE SECOND FORM's CARD OF 'airlinelaw22.RoutingFollows'. -/
def routingFollowsUptoCard : Claim7 := { stood := { row := routingFollowsUptoRow, standIns := [], harness := (true, "a1e032f6ba2ebdfd539ff1127e69bd776be125fcad6672e736718ec30831f576"), looks := false }, kinds := [], alts := [], laidByText := true, laidKinds := [.data, .data, .data], laidTests := true, laidLooks := .later }
def RoutingFollowsUptoCardSaid : Prop := Claim7.holds Tryd.pinned (.plain (OpenSpec.upto routingFollowsSpec)) routingFollowsUptoCard
end Rows
end Go.Proofs.YtgkcpfhahphaiaaDoor
