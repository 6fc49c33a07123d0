/- What library functions give, on plain data. Conditions: none; definitions, and laws of numerals. -/
import Derived.Test.YtdcpdknginpohaaGreatDoorAm
import Derived.Test.YtdcpdknginpohaaGreatDoorIds
import Derived.Lib.ItoaNum
import Derived.Lib.AtoiAll
import Derived.Lib.Split
import Derived.Lib.Join
import Derived.Test.YtdcpdknginpohaaGreatDoorDf
set_option linter.unusedVariables false
namespace Go.Proofs
open Go.Am
def digF : Nat → Nat → List UInt8
 | 0, u => [UInt8.ofNat (48 + u)]
 | k + 1, u => if u < 10 then [UInt8.ofNat (48 + u)] else digF k (u / 10) ++ [UInt8.ofNat (48 + u % 10)]
theorem Qqc : ∀ (k u : Nat), u < 10 ^ (k + 1) → digF k u = Lib.decDigits u
 | 0, u, h => by
  rw [Lib.decDigits, dif_pos (by simpa using h)]; rfl
 | k + 1, u, h => by
  unfold digF
  rw [Lib.decDigits]
  by_cases hu : u < 10
  ·rw [if_pos hu, dif_pos hu]
  ·rw [if_neg hu, dif_neg hu, Qqc k (u / 10) (by rw [Nat.pow_succ] at h; omega)]
def Qu6 (n : Int) : List UInt8 := if n < 0 then 45 :: digF 19 n.natAbs else digF 19 n.toNat
theorem Qs5 {n : Int} (h0 : -9223372036854775808 ≤ n) (h1 : n ≤ 9223372036854775807) : Qu6 n = Lib.itoa n := by
 unfold Qu6 Lib.itoa
 split
 ·rw [Qqc 19 _ (by omega)]
 ·rw [Qqc 19 _ (by omega)]
def QfN : List CV → Option CV
 | [.str s, .int .u8 c] => some (.int .i64 (Lib.indexByte s c.toNat.toUInt8))
 | _ => none
def Qfq : List CV → Option CV
 | [.str s, .str p] => some (.str (Lib.trimPrefix s p))
 | _ => none
def QkS : List CV → Option CV
 | [.int .i64 n] => if -9223372036854775808 ≤ n ∧ n ≤ 9223372036854775807 then some (.str (Qu6 n)) else none
 | _ => none
def Qlo : List CV → Option CV
 | [.str s] => if s.length ≤ 281474976710656 then (match Lib.atoiAll s with
  | .ok v => some (.tup [.int .i64 v, .nilif])
  | .range => some (.tup [.int .i64 (Lib.atoiSat s), .err])
  | _ => some (.tup [.int .i64 0, .err])) else none
 | _ => none
def QhU : List (List CV) → Option (List (List UInt8))
 | [] => some []
 | [.str s] :: r => (QhU r).map (s :: ·)
 | _ => none
def Qlk : List CV → Option CV
 | [.list _ l, .str sep] => match QhU l with
  | some xs => if xs.length ≤ 140737488355328 ∧ (Lib.join xs sep).length ≤ 140737488355328 then some (.str (Lib.join xs sep)) else none
  | none => none
 | _ => none
def QjH : List CV → Option CV
 | [.str s, .str sep] => if s.length < 4294967281 ∧ 1 ≤ sep.length then some (.list false ((Lib.split s sep).map fun x => [.str x])) else none
 | _ => none
def Qip : List CV → Option CV
 | [.int .i64 y, .int .i64 m] => (QiD y m).map (.int .i64 ·)
 | _ => none
def Qg6 : List (List CV) → Option (List (Int × Int))
 | [] => some []
 | [.int .i64 a, .int .i64 o] :: r => (Qg6 r).map ((a, o) :: ·)
 | _ => none
def Qpe (x : Int × Int × Int) : List CV := [.int .i64 x.1, .int .i64 x.2.1, .int .i64 x.2.2]
def Qmn : List CV → Option CV
 | [.agg [.int .i64 o, .list _ l]] => match Qg6 l with
  | some s => if s.length ≤ 1000000000000 then some (.list false ((Qdt (-9223372036854775808) o s).map Qpe)) else none
  | none => none
 | _ => none
def QoC : List CV → Option CV
 | [.agg [.int .i64 f, .int .i64 t, .int .i64 d]] => some (.list (Qbv f t d).isEmpty ((Qbv f t d).map fun x => [CV.int .i64 x]))
 | _ => none
def QmS : List CV → Option CV
 | [.agg [.int .i64 f, .int .i64 t, .int .i64 d]] => some (.int .i64 (Qbv f t d).length)
 | _ => none
def L1 (lb : Nat) : FuncId → Option (List CV → Option CV) := fun f =>
 if f = QcQ then some QfN else
 if f = Qdf then some Qfq else
 if f = QgS then some QkS else
 if f = Qdm then (match lb with | 0 => none | _ + 1 => some Qlo) else
 if f = Qfg then some Qlk else
 if f = QeK then some QjH else
 if f = QbM then some Qip else
 if f = QmL then some Qmn else
 if f = QlW then some QoC else
 if f = QkO then some QmS else
 none
end Go.Proofs
