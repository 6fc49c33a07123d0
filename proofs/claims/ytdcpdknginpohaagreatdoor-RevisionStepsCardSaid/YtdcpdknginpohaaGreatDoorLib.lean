/- What library functions give, on plain data. Conditions: none; definitions, and laws of numerals. -/
import Derived.Test.YtdcpdknginpohaaGreatDoorAm
import Derived.Test.YtdcpdknginpohaaGreatDoorIds
import Derived.Lib.ItoaNum
import Derived.Lib.AtoiAll
import Derived.Lib.Split
import Derived.Lib.Join
import Derived.Test.YtdcpdknginpohaaGreatDoorDf
set_option linter.unusedVariables false
namespace Go.Proofs
open Go.Am
def digF : Nat → Nat → List UInt8
 | 0, u => [UInt8.ofNat (48 + u)]
 | k + 1, u => if u < 10 then [UInt8.ofNat (48 + u)] else digF k (u / 10) ++ [UInt8.ofNat (48 + u % 10)]
theorem Qrw : ∀ (k u : Nat), u < 10 ^ (k + 1) → digF k u = Lib.decDigits u
 | 0, u, h => by
  rw [Lib.decDigits, dif_pos (by simpa using h)]; rfl
 | k + 1, u, h => by
  unfold digF
  rw [Lib.decDigits]
  by_cases hu : u < 10
  ·rw [if_pos hu, dif_pos hu]
  ·rw [if_neg hu, dif_neg hu, Qrw k (u / 10) (by rw [Nat.pow_succ] at h; omega)]
def Qw0 (n : Int) : List UInt8 := if n < 0 then 45 :: digF 19 n.natAbs else digF 19 n.toNat
theorem Quf {n : Int} (h0 : -9223372036854775808 ≤ n) (h1 : n ≤ 9223372036854775807) : Qw0 n = Lib.itoa n := by
 unfold Qw0 Lib.itoa
 split
 ·rw [Qrw 19 _ (by omega)]
 ·rw [Qrw 19 _ (by omega)]
def Qiq : List CV → Option CV
 | [.str s, .int .u8 c] => some (.int .i64 (Lib.indexByte s c.toNat.toUInt8))
 | _ => none
def QhF : List CV → Option CV
 | [.str s, .str p] => some (.str (Lib.trimPrefix s p))
 | _ => none
def Qlr : List CV → Option CV
 | [.int .i64 n] => if -9223372036854775808 ≤ n ∧ n ≤ 9223372036854775807 then some (.str (Qw0 n)) else none
 | _ => none
def QpE : List CV → Option CV
 | [.str s] => if s.length ≤ 281474976710656 then (match Lib.atoiAll s with
  | .ok v => some (.tup [.int .i64 v, .nilif])
  | .range => some (.tup [.int .i64 (Lib.atoiSat s), .err])
  | _ => some (.tup [.int .i64 0, .err])) else none
 | _ => none
def QkT : List (List CV) → Option (List (List UInt8))
 | [] => some []
 | [.str s] :: r => (QkT r).map (s :: ·)
 | _ => none
def Qpg : List CV → Option CV
 | [.list _ l, .str sep] => match QkT l with
  | some xs => if xs.length ≤ 140737488355328 ∧ (Lib.join xs sep).length ≤ 140737488355328 then some (.str (Lib.join xs sep)) else none
  | none => none
 | _ => none
def Qm0 : List CV → Option CV
 | [.str s, .str sep] => if s.length < 4294967281 ∧ 1 ≤ sep.length then some (.list false ((Lib.split s sep).map fun x => [.str x])) else none
 | _ => none
def QiO : List CV → Option CV
 | [.int .i64 y, .int .i64 m] => (Qi5 y m).map (.int .i64 ·)
 | _ => none
def QeU : List (List CV) → Option (List (Int × Int))
 | [] => some []
 | [.int .i64 a, .int .i64 o] :: r => (QeU r).map ((a, o) :: ·)
 | _ => none
def Qgc (x : Int × Int × Int) : List CV := [.int .i64 x.1, .int .i64 x.2.1, .int .i64 x.2.2]
def QjW : List CV → Option CV
 | [.agg [.int .i64 o, .list _ l]] => match QeU l with
  | some s => if s.length ≤ 1000000000000 then some (.list false ((Qcl (-9223372036854775808) o s).map Qgc)) else none
  | none => none
 | _ => none
def Qlp : List CV → Option CV
 | [.agg [.int .i64 f, .int .i64 t, .int .i64 d]] => some (.list (Qat f t d).isEmpty ((Qat f t d).map fun x => [CV.int .i64 x]))
 | _ => none
def Qm6 : List CV → Option CV
 | [.agg [.int .i64 f, .int .i64 t, .int .i64 d]] => some (.int .i64 (Qat f t d).length)
 | _ => none
def L1 (lb : Nat) : FuncId → Option (List CV → Option CV) := fun f =>
 if f = Qhj then some Qiq else
 if f = Qg3 then some QhF else
 if f = QhJ then some Qlr else
 if f = QkL then (match lb with | 0 => none | _ + 1 => some QpE) else
 if f = Qld then some Qpg else
 if f = QjN then some Qm0 else
 if f = Qem then some QiO else
 if f = QgW then some QjW else
 if f = Qgm then some Qlp else
 if f = Qlo then some Qm6 else
 none
end Go.Proofs
