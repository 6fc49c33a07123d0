/- What library functions give, on plain data. Conditions: none; definitions, and laws of numerals. -/
import Derived.Test.YtbdclhadjcfadaaGreatDoorAm
import Derived.Test.YtbdclhadjcfadaaGreatDoorIds
import Derived.Lib.ItoaNum
import Derived.Lib.AtoiAll
import Derived.Lib.Split
import Derived.Lib.Join
import Derived.Lib.IndexAny
import Derived.Test.YtbdclhadjcfadaaGreatDoorDf
set_option linter.unusedVariables false
namespace Go.Proofs
open Go.Am
def digF:Nat → Nat → List UInt8
 | 0,u => [UInt8.ofNat (48 + u)]
 | k + 1,u => if u < 10 then [UInt8.ofNat (48 + u)] else digF k (u / 10) ++ [UInt8.ofNat (48 + u % 10)]
theorem QrX:∀ (k u:Nat),u < 10 ^ (k + 1) → digF k u = Lib.decDigits u
 | 0,u,h => by
  rw [Lib.decDigits,dif_pos (by simpa using h)]; rfl
 | k + 1,u,h => by
  unfold digF
  rw [Lib.decDigits]
  by_cases hu:u < 10
  ·rw [if_pos hu,dif_pos hu]
  ·rw [if_neg hu,dif_neg hu,QrX k (u / 10) (by rw [Nat.pow_succ] at h; omega)]
def QyR (n:Int):List UInt8 := if n < 0 then 45 :: digF 19 n.natAbs else digF 19 n.toNat
theorem Qwb {n:Int} (h0 : -9223372036854775808 ≤ n) (h1:n ≤ 9223372036854775807):QyR n = Lib.itoa n := by
 unfold QyR Lib.itoa
 split
 ·rw [QrX 19 _ (by omega)]
 ·rw [QrX 19 _ (by omega)]
def QiP:List CV → Option CV
 | [.str s, .int .u8 c] => some (.int .i64 (Lib.indexByte s c.toNat.toUInt8))
 | _ => none
def QfJ:List CV → Option CV
 | [.str s, .str p] => some (.str (Lib.trimPrefix s p))
 | _ => none
def QmA:List CV → Option CV
 | [.int .i64 n] => if -9223372036854775808 ≤ n ∧ n ≤ 9223372036854775807 then some (.str (QyR n)) else none
 | _ => none
def Qmu:List CV → Option CV
 | [.str s] => if s.length ≤ 281474976710656 then (match Lib.atoiAll s with
  | .ok v => some (.tup [.int .i64 v, .nilif])
  | .range => some (.tup [.int .i64 (Lib.atoiSat s), .err])
  | _ => some (.tup [.int .i64 0, .err])) else none
 | _ => none
def QiF:List (List CV) → Option (List (List UInt8))
 | [] => some []
 | [.str s] :: r => (QiF r).map (s :: ·)
 | _ => none
def Qma:List CV → Option CV
 | [.list _ l, .str sep] => match QiF l with
  | some xs => if xs.length ≤ 140737488355328 ∧ (Lib.join xs sep).length ≤ 140737488355328 then some (.str (Lib.join xs sep)) else none
  | none => none
 | _ => none
def Qk6:List CV → Option CV
 | [.str s, .str sep] => if s.length < 4294967281 ∧ 1 ≤ sep.length then some (.list false ((Lib.split s sep).map fun x => [.str x])) else none
 | _ => none
def Qmo:List CV → Option CV
 | [.str s, .str [c]] => some (.int .i64 (s.count c))
 | _ => none
def QdC:List CV → Option CV
 | [.str s, .str c] => if (s.length < 4294967281 ∧ c.length < 4294967281) ∧ (s.all (fun b => decide (b.toNat < 128)) = true ∨ 8 < s.length ∧ 2 ≤ c.length) ∧ c.all (fun b => decide (b.toNat < 128)) = true then some (.int .i64 (Lib.indexAny s c)) else none
 | _ => none
def Qjc:List CV → Option CV
 | [.int .i64 y, .int .i64 m] => (Qjt y m).map (.int .i64 ·)
 | _ => none
def L1 (lb:Nat):FuncId → Option (List CV → Option CV) := fun f =>
 if f = QcS then some QiP else
 if f = Qdv then some QfJ else
 if f = QhB then some QmA else
 if f = QdB then (match lb with | 0 => none | _ + 1 => some Qmu) else
 if f = Qbm then some Qma else
 if f = QcE then some Qk6 else
 if f = Qat then some QdC else
 if f = QkH then some Qmo else
 if f = QbK then some Qjc else
 none
end Go.Proofs
