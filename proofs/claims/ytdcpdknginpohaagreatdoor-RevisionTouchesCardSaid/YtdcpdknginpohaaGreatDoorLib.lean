/- What library functions give, on plain data. Conditions: none; definitions, and laws of numerals. -/
import Derived.Test.YtdcpdknginpohaaGreatDoorAm
import Derived.Test.YtdcpdknginpohaaGreatDoorIds
import Derived.Lib.ItoaNum
import Derived.Lib.AtoiAll
import Derived.Lib.Split
import Derived.Lib.Join
import Derived.Test.YtdcpdknginpohaaGreatDoorDf
set_option linter.unusedVariables false
namespace Go.Proofs
open Go.Am
def digF : Nat → Nat → List UInt8
 | 0, u => [UInt8.ofNat (48 + u)]
 | k + 1, u => if u < 10 then [UInt8.ofNat (48 + u)] else digF k (u / 10) ++ [UInt8.ofNat (48 + u % 10)]
theorem Qnu : ∀ (k u : Nat), u < 10 ^ (k + 1) → digF k u = Lib.decDigits u
 | 0, u, h => by
  rw [Lib.decDigits, dif_pos (by simpa using h)]; rfl
 | k + 1, u, h => by
  unfold digF
  rw [Lib.decDigits]
  by_cases hu : u < 10
  ·rw [if_pos hu, dif_pos hu]
  ·rw [if_neg hu, dif_neg hu, Qnu k (u / 10) (by rw [Nat.pow_succ] at h; omega)]
def QqN (n : Int) : List UInt8 := if n < 0 then 45 :: digF 19 n.natAbs else digF 19 n.toNat
theorem QsF {n : Int} (h0 : -9223372036854775808 ≤ n) (h1 : n ≤ 9223372036854775807) : QqN n = Lib.itoa n := by
 unfold QqN Lib.itoa
 split
 ·rw [Qnu 19 _ (by omega)]
 ·rw [Qnu 19 _ (by omega)]
def QfS : List CV → Option CV
 | [.str s, .int .u8 c] => some (.int .i64 (Lib.indexByte s c.toNat.toUInt8))
 | _ => none
def Qe8 : List CV → Option CV
 | [.str s, .str p] => some (.str (Lib.trimPrefix s p))
 | _ => none
def Qln : List CV → Option CV
 | [.int .i64 n] => if -9223372036854775808 ≤ n ∧ n ≤ 9223372036854775807 then some (.str (QqN n)) else none
 | _ => none
def Qls : List CV → Option CV
 | [.str s] => if s.length ≤ 281474976710656 then (match Lib.atoiAll s with
  | .ok v => some (.tup [.int .i64 v, .nilif])
  | .range => some (.tup [.int .i64 (Lib.atoiSat s), .err])
  | _ => some (.tup [.int .i64 0, .err])) else none
 | _ => none
def Qin : List (List CV) → Option (List (List UInt8))
 | [] => some []
 | [.str s] :: r => (Qin r).map (s :: ·)
 | _ => none
def Qlt : List CV → Option CV
 | [.list _ l, .str sep] => match Qin l with
  | some xs => if xs.length ≤ 140737488355328 ∧ (Lib.join xs sep).length ≤ 140737488355328 then some (.str (Lib.join xs sep)) else none
  | none => none
 | _ => none
def Qju : List CV → Option CV
 | [.str s, .str sep] => if s.length < 4294967281 ∧ 1 ≤ sep.length then some (.list false ((Lib.split s sep).map fun x => [.str x])) else none
 | _ => none
def QiH : List CV → Option CV
 | [.int .i64 y, .int .i64 m] => (Qni y m).map (.int .i64 ·)
 | _ => none
def Qc8 : List (List CV) → Option (List (Int × Int))
 | [] => some []
 | [.int .i64 a, .int .i64 o] :: r => (Qc8 r).map ((a, o) :: ·)
 | _ => none
def Qd4 (x : Int × Int × Int) : List CV := [.int .i64 x.1, .int .i64 x.2.1, .int .i64 x.2.2]
def Qhq : List CV → Option CV
 | [.agg [.int .i64 o, .list _ l]] => match Qc8 l with
  | some s => if s.length ≤ 1000000000000 then some (.list false ((Qbu (-9223372036854775808) o s).map Qd4)) else none
  | none => none
 | _ => none
def Qly : List CV → Option CV
 | [.agg [.int .i64 f, .int .i64 t, .int .i64 d]] => some (.list (QaA f t d).isEmpty ((QaA f t d).map fun x => [CV.int .i64 x]))
 | _ => none
def Qjh : List CV → Option CV
 | [.agg [.int .i64 f, .int .i64 t, .int .i64 d]] => some (.int .i64 (QaA f t d).length)
 | _ => none
def L1 (lb : Nat) : FuncId → Option (List CV → Option CV) := fun f =>
 if f = Qe1 then some QfS else
 if f = QeB then some Qe8 else
 if f = Qib then some Qln else
 if f = QhU then (match lb with | 0 => none | _ + 1 => some Qls) else
 if f = QhO then some Qlt else
 if f = QgW then some Qju else
 if f = Qf5 then some QiH else
 if f = QeU then some Qhq else
 if f = QiT then some Qly else
 if f = QhK then some Qjh else
 none
end Go.Proofs
