/- What library functions give, on plain data. Conditions: none; definitions, and laws of numerals. -/
import Derived.Test.YtbdclhadjcfadaaGreatDoorAm
import Derived.Test.YtbdclhadjcfadaaGreatDoorIds
import Derived.Lib.ItoaNum
import Derived.Lib.AtoiAll
import Derived.Lib.Split
import Derived.Lib.Join
import Derived.Lib.IndexAny
import Derived.Test.YtbdclhadjcfadaaGreatDoorDf
set_option linter.unusedVariables false
namespace Go.Proofs
open Go.Am
def digF : Nat → Nat → List UInt8
 | 0, u => [UInt8.ofNat (48 + u)]
 | k + 1, u => if u < 10 then [UInt8.ofNat (48 + u)] else digF k (u / 10) ++ [UInt8.ofNat (48 + u % 10)]
theorem Qow : ∀ (k u : Nat), u < 10 ^ (k + 1) → digF k u = Lib.decDigits u
 | 0, u, h => by
  rw [Lib.decDigits, dif_pos (by simpa using h)]; rfl
 | k + 1, u, h => by
  unfold digF
  rw [Lib.decDigits]
  by_cases hu : u < 10
  ·rw [if_pos hu, dif_pos hu]
  ·rw [if_neg hu, dif_neg hu, Qow k (u / 10) (by rw [Nat.pow_succ] at h; omega)]
def Qsw (n : Int) : List UInt8 := if n < 0 then 45 :: digF 19 n.natAbs else digF 19 n.toNat
theorem Qqy {n : Int} (h0 : -9223372036854775808 ≤ n) (h1 : n ≤ 9223372036854775807) : Qsw n = Lib.itoa n := by
 unfold Qsw Lib.itoa
 split
 ·rw [Qow 19 _ (by omega)]
 ·rw [Qow 19 _ (by omega)]
def Qhb : List CV → Option CV
 | [.str s, .int .u8 c] => some (.int .i64 (Lib.indexByte s c.toNat.toUInt8))
 | _ => none
def QeA : List CV → Option CV
 | [.str s, .str p] => some (.str (Lib.trimPrefix s p))
 | _ => none
def QjA : List CV → Option CV
 | [.int .i64 n] => if -9223372036854775808 ≤ n ∧ n ≤ 9223372036854775807 then some (.str (Qsw n)) else none
 | _ => none
def QjE : List CV → Option CV
 | [.str s] => if s.length ≤ 281474976710656 then (match Lib.atoiAll s with
  | .ok v => some (.tup [.int .i64 v, .nilif])
  | .range => some (.tup [.int .i64 (Lib.atoiSat s), .err])
  | _ => some (.tup [.int .i64 0, .err])) else none
 | _ => none
def QgX : List (List CV) → Option (List (List UInt8))
 | [] => some []
 | [.str s] :: r => (QgX r).map (s :: ·)
 | _ => none
def QjG : List CV → Option CV
 | [.list _ l, .str sep] => match QgX l with
  | some xs => if xs.length ≤ 140737488355328 ∧ (Lib.join xs sep).length ≤ 140737488355328 then some (.str (Lib.join xs sep)) else none
  | none => none
 | _ => none
def Qiw : List CV → Option CV
 | [.str s, .str sep] => if s.length < 4294967281 ∧ 1 ≤ sep.length then some (.list false ((Lib.split s sep).map fun x => [.str x])) else none
 | _ => none
def Qjw : List CV → Option CV
 | [.str s, .str [c]] => some (.int .i64 (s.count c))
 | _ => none
def Qde : List CV → Option CV
 | [.str s, .str c] => if (s.length < 4294967281 ∧ c.length < 4294967281) ∧ (s.all (fun b => decide (b.toNat < 128)) = true ∨ 8 < s.length ∧ 2 ≤ c.length) ∧ c.all (fun b => decide (b.toNat < 128)) = true then some (.int .i64 (Lib.indexAny s c)) else none
 | _ => none
def Qhw : List CV → Option CV
 | [.int .i64 y, .int .i64 m] => (Qhy y m).map (.int .i64 ·)
 | _ => none
def L1 (lb : Nat) : FuncId → Option (List CV → Option CV) := fun f =>
 if f = Qcp then some Qhb else
 if f = QcW then some QeA else
 if f = Qge then some QjA else
 if f = Qc1 then (match lb with | 0 => none | _ + 1 => some QjE) else
 if f = Qbf then some QjG else
 if f = Qcb then some Qiw else
 if f = Qao then some Qde else
 if f = Qid then some Qjw else
 if f = Qbu then some Qhw else
 none
end Go.Proofs
