/-
  NARROWER THAN 'FOR EVERY INPUT', by the rows' own cells (each row's printed sentence says how): TopRevises: laid · RevisionApplies: laid · RevisionOthers: laid · RevisionPacks: laid · RevisionSteps: laid · RevisionTouches: laid · FlightTexts: laid · RevisionTexts: laid.
  DERIVED. THE GIVEN ROWS OF THIS SEAT. 8 by the template 'for every input the law returns true; each argument reads behind the call as it read before'; 0 by the template 'total and deterministic' (their statements: YtdcpdknginpohaaGreatDoorTotals.lean).
  GIVEN WITH THE SEED: the statements are not yours to turn. If you find one false, say at which input.
  Laid BY PROGRAM, IN A SANDBOX (cutbox-rows.mjs): the forced cells as the released guide's own fill.sh prints them over the translation 8ff8efe35d4c544c… (all of the seat's roots in one cut). By AI agents, Wed Nov 11 2026. No macro, syntax, notation, axiom, sorry.
-/
import Derived.Test.YtdcpdknginpohaaGreatDoorChecked
import GoSem.PinnedTables
import GoSem.Claim
import GoSem.ClaimJoined
import GoSem.ClaimMapViews
import Derived.JoinedTies
import Derived.KernelRfl
namespace Go.Proofs.YtdcpdknginpohaaGreatDoor
/- THE CELL 'sum', in the pinned program and in every row, IS THE sha256 OF THE DUMP (.gsa) THAT YtdcpdknginpohaaGreatDoorProg.lean LOADS. Nothing in Lean hashes anything: it is a label: what it is worth is what the hold of that sum in a sandbox is worth. -/
noncomputable def Tryz.pinned : Pinned := { name := "ytdcpdknginpohaagreatdoor", sum := "8ff8efe35d4c544c8313fb8a635290c4cb41f7b1f6cc38127ad565ff620c6e23", checked := Tryz.checked }
namespace Rows
def none {H : Type} : Left H := { results := [], args := [] }

/- WHAT THE LISTED PACKAGE-LEVEL VARIABLES READ AS WHEN THE CALL BEGINS. Each datum BY PROGRAM (the guide's laid-datum.mjs) off the statement by which the dump's own 'gosem.cut.vars' lays the variable. In a bare row this is a premise. The card (YtdcpdknginpohaaGreatDoorCards.lean) ties it to the program's text. -/
def laid_airline_calendar_lengths {H : Type} : DataW H := .agg [.lit (.int .i64 31), .lit (.int .i64 28), .lit (.int .i64 31), .lit (.int .i64 30), .lit (.int .i64 31), .lit (.int .i64 30), .lit (.int .i64 31), .lit (.int .i64 31), .lit (.int .i64 30), .lit (.int .i64 31), .lit (.int .i64 30), .lit (.int .i64 31)]
def laid_math_bits_deBruijn32tab {H : Type} : DataW H := .agg [.lit (.int .u8 0), .lit (.int .u8 1), .lit (.int .u8 28), .lit (.int .u8 2), .lit (.int .u8 29), .lit (.int .u8 14), .lit (.int .u8 24), .lit (.int .u8 3), .lit (.int .u8 30), .lit (.int .u8 22), .lit (.int .u8 20), .lit (.int .u8 15), .lit (.int .u8 25), .lit (.int .u8 17), .lit (.int .u8 4), .lit (.int .u8 8), .lit (.int .u8 31), .lit (.int .u8 27), .lit (.int .u8 13), .lit (.int .u8 23), .lit (.int .u8 21), .lit (.int .u8 19), .lit (.int .u8 16), .lit (.int .u8 7), .lit (.int .u8 26), .lit (.int .u8 12), .lit (.int .u8 18), .lit (.int .u8 6), .lit (.int .u8 11), .lit (.int .u8 5), .lit (.int .u8 10), .lit (.int .u8 9)]
def laid_math_bits_deBruijn64tab {H : Type} : DataW H := .agg [.lit (.int .u8 0), .lit (.int .u8 1), .lit (.int .u8 56), .lit (.int .u8 2), .lit (.int .u8 57), .lit (.int .u8 49), .lit (.int .u8 28), .lit (.int .u8 3), .lit (.int .u8 61), .lit (.int .u8 58), .lit (.int .u8 42), .lit (.int .u8 50), .lit (.int .u8 38), .lit (.int .u8 29), .lit (.int .u8 17), .lit (.int .u8 4), .lit (.int .u8 62), .lit (.int .u8 47), .lit (.int .u8 59), .lit (.int .u8 36), .lit (.int .u8 45), .lit (.int .u8 43), .lit (.int .u8 51), .lit (.int .u8 22), .lit (.int .u8 53), .lit (.int .u8 39), .lit (.int .u8 33), .lit (.int .u8 30), .lit (.int .u8 24), .lit (.int .u8 18), .lit (.int .u8 12), .lit (.int .u8 5), .lit (.int .u8 63), .lit (.int .u8 55), .lit (.int .u8 48), .lit (.int .u8 27), .lit (.int .u8 60), .lit (.int .u8 41), .lit (.int .u8 37), .lit (.int .u8 16), .lit (.int .u8 46), .lit (.int .u8 35), .lit (.int .u8 44), .lit (.int .u8 21), .lit (.int .u8 52), .lit (.int .u8 32), .lit (.int .u8 23), .lit (.int .u8 11), .lit (.int .u8 54), .lit (.int .u8 26), .lit (.int .u8 40), .lit (.int .u8 15), .lit (.int .u8 34), .lit (.int .u8 20), .lit (.int .u8 31), .lit (.int .u8 10), .lit (.int .u8 25), .lit (.int .u8 14), .lit (.int .u8 19), .lit (.int .u8 9), .lit (.int .u8 13), .lit (.int .u8 8), .lit (.int .u8 7), .lit (.int .u8 6)]
def laid_internal_strconv_uint64pow10 {H : Type} : DataW H := .agg [.lit (.int .u64 1), .lit (.int .u64 10), .lit (.int .u64 100), .lit (.int .u64 1000), .lit (.int .u64 10000), .lit (.int .u64 100000), .lit (.int .u64 1000000), .lit (.int .u64 10000000), .lit (.int .u64 100000000), .lit (.int .u64 1000000000), .lit (.int .u64 10000000000), .lit (.int .u64 100000000000), .lit (.int .u64 1000000000000), .lit (.int .u64 10000000000000), .lit (.int .u64 100000000000000), .lit (.int .u64 1000000000000000), .lit (.int .u64 10000000000000000), .lit (.int .u64 100000000000000000), .lit (.int .u64 1000000000000000000), .lit (.int .u64 10000000000000000000)]
def laid_unicode_utf8_acceptRanges {H : Type} : DataW H := .agg [.agg [.lit (.int .u8 128), .lit (.int .u8 191)], .agg [.lit (.int .u8 160), .lit (.int .u8 191)], .agg [.lit (.int .u8 128), .lit (.int .u8 159)], .agg [.lit (.int .u8 144), .lit (.int .u8 191)], .agg [.lit (.int .u8 128), .lit (.int .u8 143)], .agg [.lit (.int .u8 0), .lit (.int .u8 0)], .agg [.lit (.int .u8 0), .lit (.int .u8 0)], .agg [.lit (.int .u8 0), .lit (.int .u8 0)], .agg [.lit (.int .u8 0), .lit (.int .u8 0)], .agg [.lit (.int .u8 0), .lit (.int .u8 0)], .agg [.lit (.int .u8 0), .lit (.int .u8 0)], .agg [.lit (.int .u8 0), .lit (.int .u8 0)], .agg [.lit (.int .u8 0), .lit (.int .u8 0)], .agg [.lit (.int .u8 0), .lit (.int .u8 0)], .agg [.lit (.int .u8 0), .lit (.int .u8 0)], .agg [.lit (.int .u8 0), .lit (.int .u8 0)]]
def laid_strconv_ErrRange {H : Type} : DataW H := .iface "*errors.errorString" (.ptr (.agg [.lit (.string [118, 97, 108, 117, 101, 32, 111, 117, 116, 32, 111, 102, 32, 114, 97, 110, 103, 101])]))
def laid_strconv_ErrSyntax {H : Type} : DataW H := .iface "*errors.errorString" (.ptr (.agg [.lit (.string [105, 110, 118, 97, 108, 105, 100, 32, 115, 121, 110, 116, 97, 120])]))
/-- One of Go's own tables, pinned by name: the form's constant. -/
def laid_unicode_utf8_first : DataW Unit := Go.Pinned.utf8First

/-- 'airlinetop.TopRevises': WHATEVER THE INPUT: true; the input reads as it did. -/
def topRevisesSpec : ChangeSpec := { name := "topRevises", fn := fun _ => fun
  | [d1, d2, d3] => { results := [.lit (.bool true)], args := [d1, d2, d3] }
  | _ => none }
def topRevisesRow : OpenClaim := { program := "ytdcpdknginpohaagreatdoor", sum := "8ff8efe35d4c544c8313fb8a635290c4cb41f7b1f6cc38127ad565ff620c6e23", func := "airline/airlinetop.TopRevises", spec := "topRevises", unfollowed := true, recurses := true, named := ["airline/calendar.lengths", "internal/strconv.uint64pow10", "math/bits.deBruijn32tab", "math/bits.deBruijn64tab"], apart := false, laid := [("airline/calendar.lengths", laid_airline_calendar_lengths), ("math/bits.deBruijn32tab", laid_math_bits_deBruijn32tab), ("math/bits.deBruijn64tab", laid_math_bits_deBruijn64tab), ("internal/strconv.uint64pow10", laid_internal_strconv_uint64pow10)] }
def TopRevisesSaid : Prop := topRevisesRow.holds Tryz.pinned (OpenSpec.ofChange topRevisesSpec)

/-- ITS FALSE NEIGHBOUR: 'it returns false'. Refute it at one input. -/
def topRevisesWrong : ChangeSpec := { name := "topRevises", fn := fun _ => fun
  | [d1, d2, d3] => { results := [.lit (.bool false)], args := [d1, d2, d3] }
  | _ => none }
def TopRevisesWrongFalsely : Prop := topRevisesRow.holds Tryz.pinned (OpenSpec.ofChange topRevisesWrong)

/-- 'airlinelaw10.RevisionApplies': WHATEVER THE INPUT: true; the input reads as it did. -/
def revisionAppliesSpec : ChangeSpec := { name := "revisionApplies", fn := fun _ => fun
  | [d1, d2, d3] => { results := [.lit (.bool true)], args := [d1, d2, d3] }
  | _ => none }
def revisionAppliesRow : OpenClaim := { program := "ytdcpdknginpohaagreatdoor", sum := "8ff8efe35d4c544c8313fb8a635290c4cb41f7b1f6cc38127ad565ff620c6e23", func := "airline/airlinelaw10.RevisionApplies", spec := "revisionApplies", inPlace := ["internal/abi.NoEscape", "internal/bytealg.MakeNoZero"], unfollowed := true, recurses := true, named := ["internal/strconv.uint64pow10", "math/bits.deBruijn32tab", "math/bits.deBruijn64tab", "airline/calendar.lengths"], apart := false, laid := [("airline/calendar.lengths", laid_airline_calendar_lengths), ("math/bits.deBruijn32tab", laid_math_bits_deBruijn32tab), ("math/bits.deBruijn64tab", laid_math_bits_deBruijn64tab), ("internal/strconv.uint64pow10", laid_internal_strconv_uint64pow10)] }
def RevisionAppliesSaid : Prop := revisionAppliesRow.holds Tryz.pinned (OpenSpec.ofChange revisionAppliesSpec)

/-- ITS FALSE NEIGHBOUR: 'it returns false'. Refute it at one input. -/
def revisionAppliesWrong : ChangeSpec := { name := "revisionApplies", fn := fun _ => fun
  | [d1, d2, d3] => { results := [.lit (.bool false)], args := [d1, d2, d3] }
  | _ => none }
def RevisionAppliesWrongFalsely : Prop := revisionAppliesRow.holds Tryz.pinned (OpenSpec.ofChange revisionAppliesWrong)

/-- 'airlinelaw10.RevisionOthers': WHATEVER THE INPUT: true; the input reads as it did. -/
def revisionOthersSpec : ChangeSpec := { name := "revisionOthers", fn := fun _ => fun
  | [d1, d2, d3, d4] => { results := [.lit (.bool true)], args := [d1, d2, d3, d4] }
  | _ => none }
def revisionOthersRow : OpenClaim := { program := "ytdcpdknginpohaagreatdoor", sum := "8ff8efe35d4c544c8313fb8a635290c4cb41f7b1f6cc38127ad565ff620c6e23", func := "airline/airlinelaw10.RevisionOthers", spec := "revisionOthers", inPlace := ["internal/abi.NoEscape", "internal/bytealg.MakeNoZero"], unfollowed := true, recurses := true, named := ["internal/strconv.uint64pow10", "math/bits.deBruijn32tab", "math/bits.deBruijn64tab", "airline/calendar.lengths"], apart := false, laid := [("airline/calendar.lengths", laid_airline_calendar_lengths), ("math/bits.deBruijn32tab", laid_math_bits_deBruijn32tab), ("math/bits.deBruijn64tab", laid_math_bits_deBruijn64tab), ("internal/strconv.uint64pow10", laid_internal_strconv_uint64pow10)] }
def RevisionOthersSaid : Prop := revisionOthersRow.holds Tryz.pinned (OpenSpec.ofChange revisionOthersSpec)

/-- ITS FALSE NEIGHBOUR: 'it returns false'. Refute it at one input. -/
def revisionOthersWrong : ChangeSpec := { name := "revisionOthers", fn := fun _ => fun
  | [d1, d2, d3, d4] => { results := [.lit (.bool false)], args := [d1, d2, d3, d4] }
  | _ => none }
def RevisionOthersWrongFalsely : Prop := revisionOthersRow.holds Tryz.pinned (OpenSpec.ofChange revisionOthersWrong)

/-- 'airlinelaw10.RevisionPacks': WHATEVER THE INPUT: true; the input reads as it did. -/
def revisionPacksSpec : ChangeSpec := { name := "revisionPacks", fn := fun _ => fun
  | [d1, d2, d3] => { results := [.lit (.bool true)], args := [d1, d2, d3] }
  | _ => none }
def revisionPacksRow : OpenClaim := { program := "ytdcpdknginpohaagreatdoor", sum := "8ff8efe35d4c544c8313fb8a635290c4cb41f7b1f6cc38127ad565ff620c6e23", func := "airline/airlinelaw10.RevisionPacks", spec := "revisionPacks", inPlace := ["internal/abi.NoEscape", "internal/bytealg.MakeNoZero"], unfollowed := true, recurses := true, named := ["internal/strconv.uint64pow10", "math/bits.deBruijn32tab", "math/bits.deBruijn64tab", "airline/calendar.lengths"], apart := false, laid := [("airline/calendar.lengths", laid_airline_calendar_lengths), ("math/bits.deBruijn32tab", laid_math_bits_deBruijn32tab), ("math/bits.deBruijn64tab", laid_math_bits_deBruijn64tab), ("internal/strconv.uint64pow10", laid_internal_strconv_uint64pow10)] }
def RevisionPacksSaid : Prop := revisionPacksRow.holds Tryz.pinned (OpenSpec.ofChange revisionPacksSpec)

/-- ITS FALSE NEIGHBOUR: 'it returns false'. Refute it at one input. -/
def revisionPacksWrong : ChangeSpec := { name := "revisionPacks", fn := fun _ => fun
  | [d1, d2, d3] => { results := [.lit (.bool false)], args := [d1, d2, d3] }
  | _ => none }
def RevisionPacksWrongFalsely : Prop := revisionPacksRow.holds Tryz.pinned (OpenSpec.ofChange revisionPacksWrong)

/-- 'airlinelaw10.RevisionSteps': WHATEVER THE INPUT: true; the input reads as it did. -/
def revisionStepsSpec : ChangeSpec := { name := "revisionSteps", fn := fun _ => fun
  | [d1, d2, d3] => { results := [.lit (.bool true)], args := [d1, d2, d3] }
  | _ => none }
def revisionStepsRow : OpenClaim := { program := "ytdcpdknginpohaagreatdoor", sum := "8ff8efe35d4c544c8313fb8a635290c4cb41f7b1f6cc38127ad565ff620c6e23", func := "airline/airlinelaw10.RevisionSteps", spec := "revisionSteps", inPlace := ["internal/abi.NoEscape", "internal/bytealg.MakeNoZero"], unfollowed := true, recurses := true, named := ["internal/strconv.uint64pow10", "math/bits.deBruijn32tab", "math/bits.deBruijn64tab", "airline/calendar.lengths"], apart := false, laid := [("airline/calendar.lengths", laid_airline_calendar_lengths), ("math/bits.deBruijn32tab", laid_math_bits_deBruijn32tab), ("math/bits.deBruijn64tab", laid_math_bits_deBruijn64tab), ("internal/strconv.uint64pow10", laid_internal_strconv_uint64pow10)] }
def RevisionStepsSaid : Prop := revisionStepsRow.holds Tryz.pinned (OpenSpec.ofChange revisionStepsSpec)

/-- ITS FALSE NEIGHBOUR: 'it returns false'. Refute it at one input. -/
def revisionStepsWrong : ChangeSpec := { name := "revisionSteps", fn := fun _ => fun
  | [d1, d2, d3] => { results := [.lit (.bool false)], args := [d1, d2, d3] }
  | _ => none }
def RevisionStepsWrongFalsely : Prop := revisionStepsRow.holds Tryz.pinned (OpenSpec.ofChange revisionStepsWrong)

/-- 'airlinelaw10.RevisionTouches': WHATEVER THE INPUT: true; the input reads as it did. -/
def revisionTouchesSpec : ChangeSpec := { name := "revisionTouches", fn := fun _ => fun
  | [d1, d2, d3] => { results := [.lit (.bool true)], args := [d1, d2, d3] }
  | _ => none }
def revisionTouchesRow : OpenClaim := { program := "ytdcpdknginpohaagreatdoor", sum := "8ff8efe35d4c544c8313fb8a635290c4cb41f7b1f6cc38127ad565ff620c6e23", func := "airline/airlinelaw10.RevisionTouches", spec := "revisionTouches", inPlace := ["internal/abi.NoEscape", "internal/bytealg.MakeNoZero"], unfollowed := true, recurses := true, named := ["internal/strconv.uint64pow10", "math/bits.deBruijn32tab", "math/bits.deBruijn64tab", "airline/calendar.lengths"], apart := false, laid := [("airline/calendar.lengths", laid_airline_calendar_lengths), ("math/bits.deBruijn32tab", laid_math_bits_deBruijn32tab), ("math/bits.deBruijn64tab", laid_math_bits_deBruijn64tab), ("internal/strconv.uint64pow10", laid_internal_strconv_uint64pow10)] }
def RevisionTouchesSaid : Prop := revisionTouchesRow.holds Tryz.pinned (OpenSpec.ofChange revisionTouchesSpec)

/-- ITS FALSE NEIGHBOUR: 'it returns false'. Refute it at one input. -/
def revisionTouchesWrong : ChangeSpec := { name := "revisionTouches", fn := fun _ => fun
  | [d1, d2, d3] => { results := [.lit (.bool false)], args := [d1, d2, d3] }
  | _ => none }
def RevisionTouchesWrongFalsely : Prop := revisionTouchesRow.holds Tryz.pinned (OpenSpec.ofChange revisionTouchesWrong)

/-- 'airlinelaw07.FlightTexts': WHATEVER THE INPUT: true; the input reads as it did. -/
def flightTextsSpec : ChangeSpec := { name := "flightTexts", fn := fun _ => fun
  | [d1, d2] => { results := [.lit (.bool true)], args := [d1, d2] }
  | _ => none }
def flightTextsRow : OpenClaim := { program := "ytdcpdknginpohaagreatdoor", sum := "8ff8efe35d4c544c8313fb8a635290c4cb41f7b1f6cc38127ad565ff620c6e23", func := "airline/airlinelaw07.FlightTexts", spec := "flightTexts", inPlace := ["internal/abi.NoEscape", "internal/bytealg.MakeNoZero", "internal/bytealg.IndexByteString", "internal/bytealg.CountString", "internal/bytealg.IndexString"], unfollowed := true, recurses := true, named := ["internal/strconv.uint64pow10", "math/bits.deBruijn32tab", "math/bits.deBruijn64tab", "airline/calendar.lengths", "strconv.ErrSyntax", "strconv.ErrRange", "unicode/utf8.first", "unicode/utf8.acceptRanges", "internal/bytealg.MaxLen"], apart := false, laid := [("airline/calendar.lengths", laid_airline_calendar_lengths), ("math/bits.deBruijn32tab", laid_math_bits_deBruijn32tab), ("math/bits.deBruijn64tab", laid_math_bits_deBruijn64tab), ("internal/strconv.uint64pow10", laid_internal_strconv_uint64pow10), ("unicode/utf8.acceptRanges", laid_unicode_utf8_acceptRanges), ("strconv.ErrRange", laid_strconv_ErrRange), ("strconv.ErrSyntax", laid_strconv_ErrSyntax), ("unicode/utf8.first", laid_unicode_utf8_first)] }
def FlightTextsSaid : Prop := flightTextsRow.holds Tryz.pinned (OpenSpec.ofChange flightTextsSpec)

/-- ITS FALSE NEIGHBOUR: 'it returns false'. Refute it at one input. -/
def flightTextsWrong : ChangeSpec := { name := "flightTexts", fn := fun _ => fun
  | [d1, d2] => { results := [.lit (.bool false)], args := [d1, d2] }
  | _ => none }
def FlightTextsWrongFalsely : Prop := flightTextsRow.holds Tryz.pinned (OpenSpec.ofChange flightTextsWrong)

/-- 'airlinelaw10.RevisionTexts': WHATEVER THE INPUT: true; the input reads as it did. -/
def revisionTextsSpec : ChangeSpec := { name := "revisionTexts", fn := fun _ => fun
  | [d1, d2] => { results := [.lit (.bool true)], args := [d1, d2] }
  | _ => none }
def revisionTextsRow : OpenClaim := { program := "ytdcpdknginpohaagreatdoor", sum := "8ff8efe35d4c544c8313fb8a635290c4cb41f7b1f6cc38127ad565ff620c6e23", func := "airline/airlinelaw10.RevisionTexts", spec := "revisionTexts", inPlace := ["internal/abi.NoEscape", "internal/bytealg.MakeNoZero", "internal/bytealg.IndexByteString", "internal/bytealg.CountString", "internal/bytealg.IndexString"], unfollowed := true, recurses := true, named := ["internal/strconv.uint64pow10", "math/bits.deBruijn32tab", "math/bits.deBruijn64tab", "airline/calendar.lengths", "strconv.ErrSyntax", "strconv.ErrRange", "unicode/utf8.first", "unicode/utf8.acceptRanges", "internal/bytealg.MaxLen"], apart := false, laid := [("airline/calendar.lengths", laid_airline_calendar_lengths), ("math/bits.deBruijn32tab", laid_math_bits_deBruijn32tab), ("math/bits.deBruijn64tab", laid_math_bits_deBruijn64tab), ("internal/strconv.uint64pow10", laid_internal_strconv_uint64pow10), ("unicode/utf8.acceptRanges", laid_unicode_utf8_acceptRanges), ("strconv.ErrRange", laid_strconv_ErrRange), ("strconv.ErrSyntax", laid_strconv_ErrSyntax), ("unicode/utf8.first", laid_unicode_utf8_first)] }
def RevisionTextsSaid : Prop := revisionTextsRow.holds Tryz.pinned (OpenSpec.ofChange revisionTextsSpec)

/-- ITS FALSE NEIGHBOUR: 'it returns false'. Refute it at one input. -/
def revisionTextsWrong : ChangeSpec := { name := "revisionTexts", fn := fun _ => fun
  | [d1, d2] => { results := [.lit (.bool false)], args := [d1, d2] }
  | _ => none }
def RevisionTextsWrongFalsely : Prop := revisionTextsRow.holds Tryz.pinned (OpenSpec.ofChange revisionTextsWrong)

/- THE SECOND FORM. 'bulk': how many values and letters a reading holds, each counted each time it is reached (what is shared counts as often as it is met; a slice's spare places count too). A statement '..UptoSaid' is the law's where the arguments, and the package variables that the reading takes, are together of bulk at most 1048576: NARROWER than '..Said'. Prove '..Said' where nothing that the law and all that it calls make is longer than what came in: it says more and counts as full. Else prove '..UptoSaid'. A law counts once. -/
mutual
def uptoBulk {H : Type} : DataW H → Nat
  | .lit (.string bytes) => bytes.length + 1
  | .lit _ => 1
  | .nil => 1
  | .ptr d => uptoBulk d + 1
  | .slice elems spare => uptoBulkAll elems + uptoBulkAll spare + 1
  | .agg parts => uptoBulkAll parts + 1
  | .iface _ d => uptoBulk d + 1
  | .map entries => uptoBulkEntries entries + 1
  | .held _ => 1
def uptoBulkAll {H : Type} : List (DataW H) → Nat
  | [] => 0
  | d :: r => uptoBulk d + uptoBulkAll r
def uptoBulkEntries {H : Type} : List (Lit × DataW H) → Nat
  | [] => 0
  | x :: r => uptoBulkEntry x + uptoBulkEntries r
def uptoBulkEntry {H : Type} : Lit × DataW H → Nat
  | (.string bytes, d) => bytes.length + uptoBulk d + 1
  | (_, d) => uptoBulk d + 1
 end
def uptoSmall : (H : Type) → List (DataW H) → Bool := fun _ ds => decide (uptoBulkAll ds ≤ 1048576)
def OpenSpec.upto (s : _root_.Go.ChangeSpec) : _root_.Go.OpenSpec := { _root_.Go.OpenSpec.ofChange s with cond := some uptoSmall }

/-- 'airlinetop.TopRevises', WHERE WHAT IT READS IS OF BULK AT MOST 1048576: true; the input reads as it did. -/
def topRevisesUptoRow : OpenClaim := { program := "ytdcpdknginpohaagreatdoor", sum := "8ff8efe35d4c544c8313fb8a635290c4cb41f7b1f6cc38127ad565ff620c6e23", func := "airline/airlinetop.TopRevises", spec := "topRevises", unfollowed := true, recurses := true, named := ["airline/calendar.lengths", "internal/strconv.uint64pow10", "math/bits.deBruijn32tab", "math/bits.deBruijn64tab"], apart := false, laid := [("airline/calendar.lengths", laid_airline_calendar_lengths), ("math/bits.deBruijn32tab", laid_math_bits_deBruijn32tab), ("math/bits.deBruijn64tab", laid_math_bits_deBruijn64tab), ("internal/strconv.uint64pow10", laid_internal_strconv_uint64pow10)], narrowed := true }
def TopRevisesUptoSaid : Prop := topRevisesUptoRow.holds Tryz.pinned (OpenSpec.upto topRevisesSpec)

/-- 'airlinelaw10.RevisionApplies', WHERE WHAT IT READS IS OF BULK AT MOST 1048576: true; the input reads as it did. -/
def revisionAppliesUptoRow : OpenClaim := { program := "ytdcpdknginpohaagreatdoor", sum := "8ff8efe35d4c544c8313fb8a635290c4cb41f7b1f6cc38127ad565ff620c6e23", func := "airline/airlinelaw10.RevisionApplies", spec := "revisionApplies", inPlace := ["internal/abi.NoEscape", "internal/bytealg.MakeNoZero"], unfollowed := true, recurses := true, named := ["internal/strconv.uint64pow10", "math/bits.deBruijn32tab", "math/bits.deBruijn64tab", "airline/calendar.lengths"], apart := false, laid := [("airline/calendar.lengths", laid_airline_calendar_lengths), ("math/bits.deBruijn32tab", laid_math_bits_deBruijn32tab), ("math/bits.deBruijn64tab", laid_math_bits_deBruijn64tab), ("internal/strconv.uint64pow10", laid_internal_strconv_uint64pow10)], narrowed := true }
def RevisionAppliesUptoSaid : Prop := revisionAppliesUptoRow.holds Tryz.pinned (OpenSpec.upto revisionAppliesSpec)

/-- 'airlinelaw10.RevisionOthers', WHERE WHAT IT READS IS OF BULK AT MOST 1048576: true; the input reads as it did. -/
def revisionOthersUptoRow : OpenClaim := { program := "ytdcpdknginpohaagreatdoor", sum := "8ff8efe35d4c544c8313fb8a635290c4cb41f7b1f6cc38127ad565ff620c6e23", func := "airline/airlinelaw10.RevisionOthers", spec := "revisionOthers", inPlace := ["internal/abi.NoEscape", "internal/bytealg.MakeNoZero"], unfollowed := true, recurses := true, named := ["internal/strconv.uint64pow10", "math/bits.deBruijn32tab", "math/bits.deBruijn64tab", "airline/calendar.lengths"], apart := false, laid := [("airline/calendar.lengths", laid_airline_calendar_lengths), ("math/bits.deBruijn32tab", laid_math_bits_deBruijn32tab), ("math/bits.deBruijn64tab", laid_math_bits_deBruijn64tab), ("internal/strconv.uint64pow10", laid_internal_strconv_uint64pow10)], narrowed := true }
def RevisionOthersUptoSaid : Prop := revisionOthersUptoRow.holds Tryz.pinned (OpenSpec.upto revisionOthersSpec)

/-- 'airlinelaw10.RevisionPacks', WHERE WHAT IT READS IS OF BULK AT MOST 1048576: true; the input reads as it did. -/
def revisionPacksUptoRow : OpenClaim := { program := "ytdcpdknginpohaagreatdoor", sum := "8ff8efe35d4c544c8313fb8a635290c4cb41f7b1f6cc38127ad565ff620c6e23", func := "airline/airlinelaw10.RevisionPacks", spec := "revisionPacks", inPlace := ["internal/abi.NoEscape", "internal/bytealg.MakeNoZero"], unfollowed := true, recurses := true, named := ["internal/strconv.uint64pow10", "math/bits.deBruijn32tab", "math/bits.deBruijn64tab", "airline/calendar.lengths"], apart := false, laid := [("airline/calendar.lengths", laid_airline_calendar_lengths), ("math/bits.deBruijn32tab", laid_math_bits_deBruijn32tab), ("math/bits.deBruijn64tab", laid_math_bits_deBruijn64tab), ("internal/strconv.uint64pow10", laid_internal_strconv_uint64pow10)], narrowed := true }
def RevisionPacksUptoSaid : Prop := revisionPacksUptoRow.holds Tryz.pinned (OpenSpec.upto revisionPacksSpec)

/-- 'airlinelaw10.RevisionSteps', WHERE WHAT IT READS IS OF BULK AT MOST 1048576: true; the input reads as it did. -/
def revisionStepsUptoRow : OpenClaim := { program := "ytdcpdknginpohaagreatdoor", sum := "8ff8efe35d4c544c8313fb8a635290c4cb41f7b1f6cc38127ad565ff620c6e23", func := "airline/airlinelaw10.RevisionSteps", spec := "revisionSteps", inPlace := ["internal/abi.NoEscape", "internal/bytealg.MakeNoZero"], unfollowed := true, recurses := true, named := ["internal/strconv.uint64pow10", "math/bits.deBruijn32tab", "math/bits.deBruijn64tab", "airline/calendar.lengths"], apart := false, laid := [("airline/calendar.lengths", laid_airline_calendar_lengths), ("math/bits.deBruijn32tab", laid_math_bits_deBruijn32tab), ("math/bits.deBruijn64tab", laid_math_bits_deBruijn64tab), ("internal/strconv.uint64pow10", laid_internal_strconv_uint64pow10)], narrowed := true }
def RevisionStepsUptoSaid : Prop := revisionStepsUptoRow.holds Tryz.pinned (OpenSpec.upto revisionStepsSpec)

/-- 'airlinelaw10.RevisionTouches', WHERE WHAT IT READS IS OF BULK AT MOST 1048576: true; the input reads as it did. -/
def revisionTouchesUptoRow : OpenClaim := { program := "ytdcpdknginpohaagreatdoor", sum := "8ff8efe35d4c544c8313fb8a635290c4cb41f7b1f6cc38127ad565ff620c6e23", func := "airline/airlinelaw10.RevisionTouches", spec := "revisionTouches", inPlace := ["internal/abi.NoEscape", "internal/bytealg.MakeNoZero"], unfollowed := true, recurses := true, named := ["internal/strconv.uint64pow10", "math/bits.deBruijn32tab", "math/bits.deBruijn64tab", "airline/calendar.lengths"], apart := false, laid := [("airline/calendar.lengths", laid_airline_calendar_lengths), ("math/bits.deBruijn32tab", laid_math_bits_deBruijn32tab), ("math/bits.deBruijn64tab", laid_math_bits_deBruijn64tab), ("internal/strconv.uint64pow10", laid_internal_strconv_uint64pow10)], narrowed := true }
def RevisionTouchesUptoSaid : Prop := revisionTouchesUptoRow.holds Tryz.pinned (OpenSpec.upto revisionTouchesSpec)

/-- 'airlinelaw07.FlightTexts', WHERE WHAT IT READS IS OF BULK AT MOST 1048576: true; the input reads as it did. -/
def flightTextsUptoRow : OpenClaim := { program := "ytdcpdknginpohaagreatdoor", sum := "8ff8efe35d4c544c8313fb8a635290c4cb41f7b1f6cc38127ad565ff620c6e23", func := "airline/airlinelaw07.FlightTexts", spec := "flightTexts", inPlace := ["internal/abi.NoEscape", "internal/bytealg.MakeNoZero", "internal/bytealg.IndexByteString", "internal/bytealg.CountString", "internal/bytealg.IndexString"], unfollowed := true, recurses := true, named := ["internal/strconv.uint64pow10", "math/bits.deBruijn32tab", "math/bits.deBruijn64tab", "airline/calendar.lengths", "strconv.ErrSyntax", "strconv.ErrRange", "unicode/utf8.first", "unicode/utf8.acceptRanges", "internal/bytealg.MaxLen"], apart := false, laid := [("airline/calendar.lengths", laid_airline_calendar_lengths), ("math/bits.deBruijn32tab", laid_math_bits_deBruijn32tab), ("math/bits.deBruijn64tab", laid_math_bits_deBruijn64tab), ("internal/strconv.uint64pow10", laid_internal_strconv_uint64pow10), ("unicode/utf8.acceptRanges", laid_unicode_utf8_acceptRanges), ("strconv.ErrRange", laid_strconv_ErrRange), ("strconv.ErrSyntax", laid_strconv_ErrSyntax), ("unicode/utf8.first", laid_unicode_utf8_first)], narrowed := true }
def FlightTextsUptoSaid : Prop := flightTextsUptoRow.holds Tryz.pinned (OpenSpec.upto flightTextsSpec)

/-- 'airlinelaw10.RevisionTexts', WHERE WHAT IT READS IS OF BULK AT MOST 1048576: true; the input reads as it did. -/
def revisionTextsUptoRow : OpenClaim := { program := "ytdcpdknginpohaagreatdoor", sum := "8ff8efe35d4c544c8313fb8a635290c4cb41f7b1f6cc38127ad565ff620c6e23", func := "airline/airlinelaw10.RevisionTexts", spec := "revisionTexts", inPlace := ["internal/abi.NoEscape", "internal/bytealg.MakeNoZero", "internal/bytealg.IndexByteString", "internal/bytealg.CountString", "internal/bytealg.IndexString"], unfollowed := true, recurses := true, named := ["internal/strconv.uint64pow10", "math/bits.deBruijn32tab", "math/bits.deBruijn64tab", "airline/calendar.lengths", "strconv.ErrSyntax", "strconv.ErrRange", "unicode/utf8.first", "unicode/utf8.acceptRanges", "internal/bytealg.MaxLen"], apart := false, laid := [("airline/calendar.lengths", laid_airline_calendar_lengths), ("math/bits.deBruijn32tab", laid_math_bits_deBruijn32tab), ("math/bits.deBruijn64tab", laid_math_bits_deBruijn64tab), ("internal/strconv.uint64pow10", laid_internal_strconv_uint64pow10), ("unicode/utf8.acceptRanges", laid_unicode_utf8_acceptRanges), ("strconv.ErrRange", laid_strconv_ErrRange), ("strconv.ErrSyntax", laid_strconv_ErrSyntax), ("unicode/utf8.first", laid_unicode_utf8_first)], narrowed := true }
def RevisionTextsUptoSaid : Prop := revisionTextsUptoRow.holds Tryz.pinned (OpenSpec.upto revisionTextsSpec)

end Rows
end Go.Proofs.YtdcpdknginpohaaGreatDoor
