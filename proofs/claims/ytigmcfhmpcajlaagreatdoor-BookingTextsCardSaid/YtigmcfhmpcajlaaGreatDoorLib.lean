/- What library functions give, on plain data. Conditions: none; definitions, and laws of numerals. -/
import Derived.Test.YtigmcfhmpcajlaaGreatDoorAm
import Derived.Test.YtigmcfhmpcajlaaGreatDoorIds
import Derived.Lib.ItoaNum
import Derived.Lib.AtoiAll
import Derived.Lib.Split
import Derived.Lib.Join
import Derived.Test.YtigmcfhmpcajlaaGreatDoorDf
set_option linter.unusedVariables false
namespace Go.Proofs
open Go.Am
def digF : Nat → Nat → List UInt8
 | 0, u => [UInt8.ofNat (48 + u)]
 | k + 1, u => if u < 10 then [UInt8.ofNat (48 + u)] else digF k (u / 10) ++ [UInt8.ofNat (48 + u % 10)]
theorem Qrp : ∀ (k u : Nat), u < 10 ^ (k + 1) → digF k u = Lib.decDigits u
 | 0, u, h => by
  rw [Lib.decDigits, dif_pos (by simpa using h)]; rfl
 | k + 1, u, h => by
  unfold digF
  rw [Lib.decDigits]
  by_cases hu : u < 10
  ·rw [if_pos hu, dif_pos hu]
  ·rw [if_neg hu, dif_neg hu, Qrp k (u / 10) (by rw [Nat.pow_succ] at h; omega)]
def Qwj (n : Int) : List UInt8 := if n < 0 then 45 :: digF 19 n.natAbs else digF 19 n.toNat
theorem Qtm {n : Int} (h0 : -9223372036854775808 ≤ n) (h1 : n ≤ 9223372036854775807) : Qwj n = Lib.itoa n := by
 unfold Qwj Lib.itoa
 split
 ·rw [Qrp 19 _ (by omega)]
 ·rw [Qrp 19 _ (by omega)]
def Qgg : List CV → Option CV
 | [.str s, .int .u8 c] => some (.int .i64 (Lib.indexByte s c.toNat.toUInt8))
 | _ => none
def QfQ : List CV → Option CV
 | [.str s, .str p] => some (.str (Lib.trimPrefix s p))
 | _ => none
def Qlt : List CV → Option CV
 | [.int .i64 n] => if -9223372036854775808 ≤ n ∧ n ≤ 9223372036854775807 then some (.str (Qwj n)) else none
 | _ => none
def QlF : List CV → Option CV
 | [.str s] => if s.length ≤ 281474976710656 then (match Lib.atoiAll s with
  | .ok v => some (.tup [.int .i64 v, .nilif])
  | .range => some (.tup [.int .i64 (Lib.atoiSat s), .err])
  | _ => some (.tup [.int .i64 0, .err])) else none
 | _ => none
def Qrd : List CV → Option CV
 | [.str s, .str sep] => if s.length < 4294967281 then some (.tup [.str (Lib.cut s sep).1, .str (Lib.cut s sep).2.1, .bool (Lib.cut s sep).2.2]) else none
 | _ => none
def Qis : List (List CV) → Option (List (List UInt8))
 | [] => some []
 | [.str s] :: r => (Qis r).map (s :: ·)
 | _ => none
def Qlr : List CV → Option CV
 | [.list _ l, .str sep] => match Qis l with
  | some xs => if xs.length ≤ 140737488355328 ∧ (Lib.join xs sep).length ≤ 140737488355328 then some (.str (Lib.join xs sep)) else none
  | none => none
 | _ => none
def Qkh : List CV → Option CV
 | [.str s, .str sep] => if s.length < 4294967281 ∧ 1 ≤ sep.length then some (.list false ((Lib.split s sep).map fun x => [.str x])) else none
 | _ => none
def Qlx : List CV → Option CV
 | [.str s, .str [c]] => some (.int .i64 (s.count c))
 | _ => none
def QaW (s : List UInt8) (c : Int) : Nat → Int
 | 0 => -1
 | k + 1 => if ((s[k]?.getD 0).toNat : Int) = c then (k : Int) else QaW s c k
def QfW : List CV → Option CV
 | [.str s, .int .u8 c] => if s.length < 4611686018427387904 then some (.int .i64 (QaW s c s.length)) else none
 | _ => none
def Qeb : List (List CV) → Option (List Int)
 | [] => some []
 | [.int .i64 a] :: r => (Qeb r).map (a :: ·)
 | _ => none
def Qf8 (g : List Int) : List CV := [.list false (g.map fun x => [CV.int .i64 x])]
def Qg5 : List CV → Option CV
 | [.list _ l] => match Qeb l with
  | some s => if s.length ≤ 1000000000000 then some (.list s.isEmpty ((Qa3 s).map Qf8)) else none
  | none => none
 | _ => none
def L1 (lb : Nat) : FuncId → Option (List CV → Option CV) := fun f =>
 if f = QbO then some Qgg else
 if f = Qdx then some QfQ else
 if f = QhF then some Qlt else
 if f = QdF then (match lb with | 0 => none | _ + 1 => some QlF) else
 if f = QbM then some Qrd else
 if f = QfG then some Qlr else
 if f = Qe4 then some Qkh else
 if f = Qe3 then some Qlx else
 if f = QcW then some QfW else
 if f = QfP then some Qg5 else
 none
end Go.Proofs
