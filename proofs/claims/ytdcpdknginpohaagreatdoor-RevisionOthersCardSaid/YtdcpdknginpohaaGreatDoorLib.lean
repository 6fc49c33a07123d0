/- What library functions give, on plain data. Conditions: none; definitions, and laws of numerals. -/
import Derived.Test.YtdcpdknginpohaaGreatDoorAm
import Derived.Test.YtdcpdknginpohaaGreatDoorIds
import Derived.Lib.ItoaNum
import Derived.Lib.AtoiAll
import Derived.Lib.Split
import Derived.Lib.Join
import Derived.Test.YtdcpdknginpohaaGreatDoorDf
set_option linter.unusedVariables false
namespace Go.Proofs
open Go.Am
def digF : Nat → Nat → List UInt8
 | 0, u => [UInt8.ofNat (48 + u)]
 | k + 1, u => if u < 10 then [UInt8.ofNat (48 + u)] else digF k (u / 10) ++ [UInt8.ofNat (48 + u % 10)]
theorem Qq9 : ∀ (k u : Nat), u < 10 ^ (k + 1) → digF k u = Lib.decDigits u
 | 0, u, h => by
  rw [Lib.decDigits, dif_pos (by simpa using h)]; rfl
 | k + 1, u, h => by
  unfold digF
  rw [Lib.decDigits]
  by_cases hu : u < 10
  ·rw [if_pos hu, dif_pos hu]
  ·rw [if_neg hu, dif_neg hu, Qq9 k (u / 10) (by rw [Nat.pow_succ] at h; omega)]
def Qwc (n : Int) : List UInt8 := if n < 0 then 45 :: digF 19 n.natAbs else digF 19 n.toNat
theorem Qts {n : Int} (h0 : -9223372036854775808 ≤ n) (h1 : n ≤ 9223372036854775807) : Qwc n = Lib.itoa n := by
 unfold Qwc Lib.itoa
 split
 ·rw [Qq9 19 _ (by omega)]
 ·rw [Qq9 19 _ (by omega)]
def Qh5 : List CV → Option CV
 | [.str s, .int .u8 c] => some (.int .i64 (Lib.indexByte s c.toNat.toUInt8))
 | _ => none
def Qha : List CV → Option CV
 | [.str s, .str p] => some (.str (Lib.trimPrefix s p))
 | _ => none
def Qld : List CV → Option CV
 | [.int .i64 n] => if -9223372036854775808 ≤ n ∧ n ≤ 9223372036854775807 then some (.str (Qwc n)) else none
 | _ => none
def QoJ : List CV → Option CV
 | [.str s] => if s.length ≤ 281474976710656 then (match Lib.atoiAll s with
  | .ok v => some (.tup [.int .i64 v, .nilif])
  | .range => some (.tup [.int .i64 (Lib.atoiSat s), .err])
  | _ => some (.tup [.int .i64 0, .err])) else none
 | _ => none
def Qks : List (List CV) → Option (List (List UInt8))
 | [] => some []
 | [.str s] :: r => (Qks r).map (s :: ·)
 | _ => none
def QoM : List CV → Option CV
 | [.list _ l, .str sep] => match Qks l with
  | some xs => if xs.length ≤ 140737488355328 ∧ (Lib.join xs sep).length ≤ 140737488355328 then some (.str (Lib.join xs sep)) else none
  | none => none
 | _ => none
def Qmw : List CV → Option CV
 | [.str s, .str sep] => if s.length < 4294967281 ∧ 1 ≤ sep.length then some (.list false ((Lib.split s sep).map fun x => [.str x])) else none
 | _ => none
def QiA : List CV → Option CV
 | [.int .i64 y, .int .i64 m] => (QiD y m).map (.int .i64 ·)
 | _ => none
def QeI : List (List CV) → Option (List (Int × Int))
 | [] => some []
 | [.int .i64 a, .int .i64 o] :: r => (QeI r).map ((a, o) :: ·)
 | _ => none
def Qf1 (x : Int × Int × Int) : List CV := [.int .i64 x.1, .int .i64 x.2.1, .int .i64 x.2.2]
def QjT : List CV → Option CV
 | [.agg [.int .i64 o, .list _ l]] => match QeI l with
  | some s => if s.length ≤ 1000000000000 then some (.list false ((Qb0 (-9223372036854775808) o s).map Qf1)) else none
  | none => none
 | _ => none
def QlA : List CV → Option CV
 | [.agg [.int .i64 f, .int .i64 t, .int .i64 d]] => some (.list (Qar f t d).isEmpty ((Qar f t d).map fun x => [CV.int .i64 x]))
 | _ => none
def Qnb : List CV → Option CV
 | [.agg [.int .i64 f, .int .i64 t, .int .i64 d]] => some (.int .i64 (Qar f t d).length)
 | _ => none
def L1 (lb : Nat) : FuncId → Option (List CV → Option CV) := fun f =>
 if f = Qg3 then some Qh5 else
 if f = QgT then some Qha else
 if f = Qht then some Qld else
 if f = QkG then (match lb with | 0 => none | _ + 1 => some QoJ) else
 if f = QkE then some QoM else
 if f = QjF then some Qmw else
 if f = Qeg then some QiA else
 if f = QgP then some QjT else
 if f = Qf7 then some QlA else
 if f = QkD then some Qnb else
 none
end Go.Proofs
