/- What library functions give, on plain data. Conditions: none; definitions, and laws of numerals. -/
import Derived.Test.YtdcpdknginpohaaGreatDoorAm
import Derived.Test.YtdcpdknginpohaaGreatDoorIds
import Derived.Lib.ItoaNum
import Derived.Lib.AtoiAll
import Derived.Lib.Split
import Derived.Lib.Join
import Derived.Test.YtdcpdknginpohaaGreatDoorDf
set_option linter.unusedVariables false
namespace Go.Proofs
open Go.Am

/-- the digits of a number, with so many and one more at most -/
def digF : Nat → Nat → List UInt8
  | 0, u => [UInt8.ofNat (48 + u)]
  | k + 1, u => if u < 10 then [UInt8.ofNat (48 + u)] else digF k (u / 10) ++ [UInt8.ofNat (48 + u % 10)]
theorem digF_eq : ∀ (k u : Nat), u < 10 ^ (k + 1) → digF k u = Lib.decDigits u
  | 0, u, h => by
    rw [Lib.decDigits, dif_pos (by simpa using h)]; rfl
  | k + 1, u, h => by
    unfold digF
    rw [Lib.decDigits]
    by_cases hu : u < 10
    · rw [if_pos hu, dif_pos hu]
    · rw [if_neg hu, dif_neg hu, digF_eq k (u / 10) (by rw [Nat.pow_succ] at h; omega)]
def itoaF (n : Int) : List UInt8 := if n < 0 then 45 :: digF 19 n.natAbs else digF 19 n.toNat
theorem itoaF_eq {n : Int} (h0 : -9223372036854775808 ≤ n) (h1 : n ≤ 9223372036854775807) : itoaF n = Lib.itoa n := by
  unfold itoaF Lib.itoa
  split
  · rw [digF_eq 19 _ (by omega)]
  · rw [digF_eq 19 _ (by omega)]

def lib_IndexByte : List CV → Option CV
  | [.str s, .int .u8 c] => some (.int .i64 (Lib.indexByte s c.toNat.toUInt8))
  | _ => none
def lib_TrimPrefix : List CV → Option CV
  | [.str s, .str p] => some (.str (Lib.trimPrefix s p))
  | _ => none
def lib_Itoa : List CV → Option CV
  | [.int .i64 n] => if -9223372036854775808 ≤ n ∧ n ≤ 9223372036854775807 then some (.str (itoaF n)) else none
  | _ => none
def lib_Atoi : List CV → Option CV
  | [.str s] => if s.length ≤ 281474976710656 then (match Lib.atoiAll s with
    | .ok v => some (.tup [.int .i64 v, .nilif])
    | .range => some (.tup [.int .i64 (Lib.atoiSat s), .err])
    | _ => some (.tup [.int .i64 0, .err])) else none
  | _ => none
def lib_Cut : List CV → Option CV
  | [.str s, .str sep] => if s.length < 4294967281 then some (.tup [.str (Lib.cut s sep).1, .str (Lib.cut s sep).2.1, .bool (Lib.cut s sep).2.2]) else none
  | _ => none
def strsOf : List (List CV) → Option (List (List UInt8))
  | [] => some []
  | [.str s] :: r => (strsOf r).map (s :: ·)
  | _ => none
def lib_Join : List CV → Option CV
  | [.list _ l, .str sep] => match strsOf l with
    | some xs => if xs.length ≤ 140737488355328 ∧ (Lib.join xs sep).length ≤ 140737488355328 then some (.str (Lib.join xs sep)) else none
    | none => none
  | _ => none
def lib_Split : List CV → Option CV
  | [.str s, .str sep] => if s.length < 4294967281 ∧ 1 ≤ sep.length then some (.list false ((Lib.split s sep).map fun x => [.str x])) else none
  | _ => none
def lib_length : List CV → Option CV
  | [.int .i64 y, .int .i64 m] => (lengthF y m).map (.int .i64 ·)
  | _ => none
def shiftsOf : List (List CV) → Option (List (Int × Int))
  | [] => some []
  | [.int .i64 a, .int .i64 o] :: r => (shiftsOf r).map ((a, o) :: ·)
  | _ => none
def span3c (x : Int × Int × Int) : List CV := [.int .i64 x.1, .int .i64 x.2.1, .int .i64 x.2.2]
def lib_spans : List CV → Option CV
  | [.agg [.int .i64 o, .list _ l]] => match shiftsOf l with
    | some s => if s.length ≤ 1000000000000 then some (.list false ((spansF (-9223372036854775808) o s).map span3c)) else none
    | none => none
  | _ => none
def lib_Days : List CV → Option CV
  | [.agg [.int .i64 f, .int .i64 t, .int .i64 d]] => some (.list (daysF f t d).isEmpty ((daysF f t d).map fun x => [CV.int .i64 x]))
  | _ => none
def lib_Count : List CV → Option CV
  | [.agg [.int .i64 f, .int .i64 t, .int .i64 d]] => some (.int .i64 (daysF f t d).length)
  | _ => none
/-- 1 ≤ lb: with functions that look at the library's errors -/
def L1 (lb : Nat) : FuncId → Option (List CV → Option CV) := fun f =>
  if f = F_strings_IndexByte then some lib_IndexByte else
  if f = F_strings_TrimPrefix then some lib_TrimPrefix else
  if f = F_strconv_Itoa then some lib_Itoa else
  if f = F_strconv_Atoi then (match lb with | 0 => none | _ + 1 => some lib_Atoi) else
  if f = F_strings_Join then some lib_Join else
  if f = F_strings_Split then some lib_Split else
  if f = F_calendar_length then some lib_length else
  if f = F_zone_spans then some lib_spans else
  if f = F_period_Days then some lib_Days else
  if f = F_period_Count then some lib_Count else
  none
end Go.Proofs
