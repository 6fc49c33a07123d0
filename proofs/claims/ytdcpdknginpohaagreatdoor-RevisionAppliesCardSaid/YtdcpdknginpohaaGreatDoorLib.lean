/- What library functions give, on plain data. Conditions: none; definitions, and laws of numerals. -/
import Derived.Test.YtdcpdknginpohaaGreatDoorAm
import Derived.Test.YtdcpdknginpohaaGreatDoorIds
import Derived.Lib.ItoaNum
import Derived.Lib.AtoiAll
import Derived.Lib.Split
import Derived.Lib.Join
import Derived.Test.YtdcpdknginpohaaGreatDoorDf
set_option linter.unusedVariables false
namespace Go.Proofs
open Go.Am
def digF : Nat → Nat → List UInt8
 | 0, u => [UInt8.ofNat (48 + u)]
 | k + 1, u => if u < 10 then [UInt8.ofNat (48 + u)] else digF k (u / 10) ++ [UInt8.ofNat (48 + u % 10)]
theorem Qry : ∀ (k u : Nat), u < 10 ^ (k + 1) → digF k u = Lib.decDigits u
 | 0, u, h => by
  rw [Lib.decDigits, dif_pos (by simpa using h)]; rfl
 | k + 1, u, h => by
  unfold digF
  rw [Lib.decDigits]
  by_cases hu : u < 10
  ·rw [if_pos hu, dif_pos hu]
  ·rw [if_neg hu, dif_neg hu, Qry k (u / 10) (by rw [Nat.pow_succ] at h; omega)]
def Qwn (n : Int) : List UInt8 := if n < 0 then 45 :: digF 19 n.natAbs else digF 19 n.toNat
theorem Qtt {n : Int} (h0 : -9223372036854775808 ≤ n) (h1 : n ≤ 9223372036854775807) : Qwn n = Lib.itoa n := by
 unfold Qwn Lib.itoa
 split
 ·rw [Qry 19 _ (by omega)]
 ·rw [Qry 19 _ (by omega)]
def Qio : List CV → Option CV
 | [.str s, .int .u8 c] => some (.int .i64 (Lib.indexByte s c.toNat.toUInt8))
 | _ => none
def Qhk : List CV → Option CV
 | [.str s, .str p] => some (.str (Lib.trimPrefix s p))
 | _ => none
def Qlu : List CV → Option CV
 | [.int .i64 n] => if -9223372036854775808 ≤ n ∧ n ≤ 9223372036854775807 then some (.str (Qwn n)) else none
 | _ => none
def Qo5 : List CV → Option CV
 | [.str s] => if s.length ≤ 281474976710656 then (match Lib.atoiAll s with
  | .ok v => some (.tup [.int .i64 v, .nilif])
  | .range => some (.tup [.int .i64 (Lib.atoiSat s), .err])
  | _ => some (.tup [.int .i64 0, .err])) else none
 | _ => none
def Qk8 : List (List CV) → Option (List (List UInt8))
 | [] => some []
 | [.str s] :: r => (Qk8 r).map (s :: ·)
 | _ => none
def Qpc : List CV → Option CV
 | [.list _ l, .str sep] => match Qk8 l with
  | some xs => if xs.length ≤ 140737488355328 ∧ (Lib.join xs sep).length ≤ 140737488355328 then some (.str (Lib.join xs sep)) else none
  | none => none
 | _ => none
def Qnu : List CV → Option CV
 | [.str s, .str sep] => if s.length < 4294967281 ∧ 1 ≤ sep.length then some (.list false ((Lib.split s sep).map fun x => [.str x])) else none
 | _ => none
def QiT : List CV → Option CV
 | [.int .i64 y, .int .i64 m] => (QiX y m).map (.int .i64 ·)
 | _ => none
def QeK : List (List CV) → Option (List (Int × Int))
 | [] => some []
 | [.int .i64 a, .int .i64 o] :: r => (QeK r).map ((a, o) :: ·)
 | _ => none
def Qga (x : Int × Int × Int) : List CV := [.int .i64 x.1, .int .i64 x.2.1, .int .i64 x.2.2]
def Qj6 : List CV → Option CV
 | [.agg [.int .i64 o, .list _ l]] => match QeK l with
  | some s => if s.length ≤ 1000000000000 then some (.list false ((Qcb (-9223372036854775808) o s).map Qga)) else none
  | none => none
 | _ => none
def Qlr : List CV → Option CV
 | [.agg [.int .i64 f, .int .i64 t, .int .i64 d]] => some (.list (Qat f t d).isEmpty ((Qat f t d).map fun x => [CV.int .i64 x]))
 | _ => none
def Qnl : List CV → Option CV
 | [.agg [.int .i64 f, .int .i64 t, .int .i64 d]] => some (.int .i64 (Qat f t d).length)
 | _ => none
def L1 (lb : Nat) : FuncId → Option (List CV → Option CV) := fun f =>
 if f = Qha then some Qio else
 if f = Qg4 then some Qhk else
 if f = Qhv then some Qlu else
 if f = QkT then (match lb with | 0 => none | _ + 1 => some Qo5) else
 if f = QkP then some Qpc else
 if f = QjT then some Qnu else
 if f = Qei then some QiT else
 if f = QgH then some Qj6 else
 if f = Qgh then some Qlr else
 if f = QkB then some Qnl else
 none
end Go.Proofs
