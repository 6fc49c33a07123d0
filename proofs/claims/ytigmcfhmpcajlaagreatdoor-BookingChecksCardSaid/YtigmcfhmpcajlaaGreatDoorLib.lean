/- What library functions give, on plain data. Conditions: none; definitions, and laws of numerals. -/
import Derived.Test.YtigmcfhmpcajlaaGreatDoorAm
import Derived.Test.YtigmcfhmpcajlaaGreatDoorIds
import Derived.Lib.ItoaNum
import Derived.Lib.AtoiAll
import Derived.Lib.Split
import Derived.Lib.Join
import Derived.Test.YtigmcfhmpcajlaaGreatDoorDf
set_option linter.unusedVariables false
namespace Go.Proofs
open Go.Am
def digF : Nat → Nat → List UInt8
 | 0, u => [UInt8.ofNat (48 + u)]
 | k + 1, u => if u < 10 then [UInt8.ofNat (48 + u)] else digF k (u / 10) ++ [UInt8.ofNat (48 + u % 10)]
theorem Qn2 : ∀ (k u : Nat), u < 10 ^ (k + 1) → digF k u = Lib.decDigits u
 | 0, u, h => by
  rw [Lib.decDigits, dif_pos (by simpa using h)]; rfl
 | k + 1, u, h => by
  unfold digF
  rw [Lib.decDigits]
  by_cases hu : u < 10
  ·rw [if_pos hu, dif_pos hu]
  ·rw [if_neg hu, dif_neg hu, Qn2 k (u / 10) (by rw [Nat.pow_succ] at h; omega)]
def Qrq (n : Int) : List UInt8 := if n < 0 then 45 :: digF 19 n.natAbs else digF 19 n.toNat
theorem Qpx {n : Int} (h0 : -9223372036854775808 ≤ n) (h1 : n ≤ 9223372036854775807) : Qrq n = Lib.itoa n := by
 unfold Qrq Lib.itoa
 split
 ·rw [Qn2 19 _ (by omega)]
 ·rw [Qn2 19 _ (by omega)]
def QeS : List CV → Option CV
 | [.str s, .int .u8 c] => some (.int .i64 (Lib.indexByte s c.toNat.toUInt8))
 | _ => none
def Qf2 : List CV → Option CV
 | [.str s, .str p] => some (.str (Lib.trimPrefix s p))
 | _ => none
def Qjo : List CV → Option CV
 | [.int .i64 n] => if -9223372036854775808 ≤ n ∧ n ≤ 9223372036854775807 then some (.str (Qrq n)) else none
 | _ => none
def Qmi : List CV → Option CV
 | [.str s] => if s.length ≤ 281474976710656 then (match Lib.atoiAll s with
  | .ok v => some (.tup [.int .i64 v, .nilif])
  | .range => some (.tup [.int .i64 (Lib.atoiSat s), .err])
  | _ => some (.tup [.int .i64 0, .err])) else none
 | _ => none
def QnK : List CV → Option CV
 | [.str s, .str sep] => if s.length < 4294967281 then some (.tup [.str (Lib.cut s sep).1, .str (Lib.cut s sep).2.1, .bool (Lib.cut s sep).2.2]) else none
 | _ => none
def QiB : List (List CV) → Option (List (List UInt8))
 | [] => some []
 | [.str s] :: r => (QiB r).map (s :: ·)
 | _ => none
def Ql5 : List CV → Option CV
 | [.list _ l, .str sep] => match QiB l with
  | some xs => if xs.length ≤ 140737488355328 ∧ (Lib.join xs sep).length ≤ 140737488355328 then some (.str (Lib.join xs sep)) else none
  | none => none
 | _ => none
def QhY : List CV → Option CV
 | [.str s, .str sep] => if s.length < 4294967281 ∧ 1 ≤ sep.length then some (.list false ((Lib.split s sep).map fun x => [.str x])) else none
 | _ => none
def Qi6 : List CV → Option CV
 | [.str s, .str [c]] => some (.int .i64 (s.count c))
 | _ => none
def Qk8 (s : List UInt8) (c : Int) : Nat → Int
 | 0 => -1
 | k + 1 => if ((s[k]?.getD 0).toNat : Int) = c then (k : Int) else Qk8 s c k
def Qez : List CV → Option CV
 | [.str s, .int .u8 c] => if s.length < 4611686018427387904 then some (.int .i64 (Qk8 s c s.length)) else none
 | _ => none
def Qc9 : List (List CV) → Option (List Int)
 | [] => some []
 | [.int .i64 a] :: r => (Qc9 r).map (a :: ·)
 | _ => none
def QeN (g : List Int) : List CV := [.list false (g.map fun x => [CV.int .i64 x])]
def QfH : List CV → Option CV
 | [.list _ l] => match Qc9 l with
  | some s => if s.length ≤ 1000000000000 then some (.list s.isEmpty ((QaM s).map QeN)) else none
  | none => none
 | _ => none
def L1 (lb : Nat) : FuncId → Option (List CV → Option CV) := fun f =>
 if f = Qcc then some QeS else
 if f = Qfk then some Qf2 else
 if f = QfW then some Qjo else
 if f = Qir then (match lb with | 0 => none | _ + 1 => some Qmi) else
 if f = QbH then some QnK else
 if f = QiD then some Ql5 else
 if f = QdQ then some QhY else
 if f = QhS then some Qi6 else
 if f = Qew then some Qez else
 if f = Qeg then some QfH else
 none
end Go.Proofs
