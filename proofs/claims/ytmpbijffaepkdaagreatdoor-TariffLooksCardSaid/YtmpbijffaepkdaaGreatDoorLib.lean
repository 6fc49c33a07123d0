/- What library functions give, on plain data. Conditions: none; definitions, and laws of numerals. -/
import Derived.Test.YtmpbijffaepkdaaGreatDoorAm
import Derived.Test.YtmpbijffaepkdaaGreatDoorIds
import Derived.Lib.ItoaNum
import Derived.Lib.AtoiAll
import Derived.Lib.Split
import Derived.Lib.Join
import Derived.Test.YtmpbijffaepkdaaGreatDoorDf
set_option linter.unusedVariables false
namespace Go.Proofs
open Go.Am
def digF : Nat → Nat → List UInt8
 | 0, u => [UInt8.ofNat (48 + u)]
 | k + 1, u => if u < 10 then [UInt8.ofNat (48 + u)] else digF k (u / 10) ++ [UInt8.ofNat (48 + u % 10)]
theorem Qix : ∀ (k u : Nat), u < 10 ^ (k + 1) → digF k u = Lib.decDigits u
 | 0, u, h => by
  rw [Lib.decDigits, dif_pos (by simpa using h)]; rfl
 | k + 1, u, h => by
  unfold digF
  rw [Lib.decDigits]
  by_cases hu : u < 10
  ·rw [if_pos hu, dif_pos hu]
  ·rw [if_neg hu, dif_neg hu, Qix k (u / 10) (by rw [Nat.pow_succ] at h; omega)]
def Qlu (n : Int) : List UInt8 := if n < 0 then 45 :: digF 19 n.natAbs else digF 19 n.toNat
theorem Qmm {n : Int} (h0 : -9223372036854775808 ≤ n) (h1 : n ≤ 9223372036854775807) : Qlu n = Lib.itoa n := by
 unfold Qlu Lib.itoa
 split
 ·rw [Qix 19 _ (by omega)]
 ·rw [Qix 19 _ (by omega)]
def QdV : List CV → Option CV
 | [.str s, .int .u8 c] => some (.int .i64 (Lib.indexByte s c.toNat.toUInt8))
 | _ => none
def Qdw : List CV → Option CV
 | [.str s, .str p] => some (.str (Lib.trimPrefix s p))
 | _ => none
def QhE : List CV → Option CV
 | [.int .i64 n] => if -9223372036854775808 ≤ n ∧ n ≤ 9223372036854775807 then some (.str (Qlu n)) else none
 | _ => none
def Qhr : List CV → Option CV
 | [.str s] => if s.length ≤ 281474976710656 then (match Lib.atoiAll s with
  | .ok v => some (.tup [.int .i64 v, .nilif])
  | .range => some (.tup [.int .i64 (Lib.atoiSat s), .err])
  | _ => some (.tup [.int .i64 0, .err])) else none
 | _ => none
def Qiy : List CV → Option CV
 | [.str s, .str sep] => if s.length < 4294967281 then some (.tup [.str (Lib.cut s sep).1, .str (Lib.cut s sep).2.1, .bool (Lib.cut s sep).2.2]) else none
 | _ => none
def Qfo : List (List CV) → Option (List (List UInt8))
 | [] => some []
 | [.str s] :: r => (Qfo r).map (s :: ·)
 | _ => none
def QhF : List CV → Option CV
 | [.list _ l, .str sep] => match Qfo l with
  | some xs => if xs.length ≤ 140737488355328 ∧ (Lib.join xs sep).length ≤ 140737488355328 then some (.str (Lib.join xs sep)) else none
  | none => none
 | _ => none
def L1 (lb : Nat) : FuncId → Option (List CV → Option CV) := fun f =>
 if f = Qdg then some QdV else
 if f = Qc8 then some Qdw else
 if f = Qfc then some QhE else
 if f = Qe1 then (match lb with | 0 => none | _ + 1 => some Qhr) else
 if f = Qf1 then some Qiy else
 if f = Qe2 then some QhF else
 none
end Go.Proofs
