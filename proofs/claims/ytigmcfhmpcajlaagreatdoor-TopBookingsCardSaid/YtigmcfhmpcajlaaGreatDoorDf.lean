/- What functions of the program give, on plain data: times with one offset, lengths of months, days of periods. Conditions: none; definitions. -/
import Init
namespace Go.Proofs
def Qlf : List Int := [31, 28, 31, 30, 31, 30, 31, 31, 30, 31, 30, 31]
def QlW (y m : Int) : Option Int := if m = 2 ∧ Int.tmod y 4 = 0 then some 29 else if 1 ≤ m ∧ m ≤ 12 then Qlf[(m - 1).toNat]? else none
def perE (fr to days : Int) : Int := if fr < 0 ∨ to < fr ∨ to ≥ 36525 then 12 else if to - fr ≥ 800 then 4 else if days < 1 ∨ days > 127 then 2 else 0
def Qd9 (day : Int) : Int := Int.tmod (Int.tmod day 7 + 12) 7
def onF (days day : Int) : Bool := days / 2 ^ (Qd9 day).toNat % 2 == 1
def upto (fr days : Int) : Nat → List Int
 | 0 => []
 | k + 1 => upto fr days k ++ (if onF days (fr + k) then [fr + k] else [])
def Qc2 (fr to days : Int) : List Int := if perE fr to days = 0 then upto fr days (to + 1 - fr).toNat else []
abbrev GS := Int × Int × List (List Int)
def Qhn (out : List (List Int)) (i : Int) : List (List Int) := out.dropLast ++ [(out.getLast?.getD []) ++ [i]]
def stepG (s : GS) (n : Int) : GS := (s.1 + 1, n, if n > 0 ∧ s.2.1 = n then Qhn s.2.2 s.1 else s.2.2 ++ [[s.1]])
def Qa2 (l : List Int) : GS := l.foldl stepG (0, 0, [])
def QaF (l : List Int) : List (List Int) := (Qa2 l).2.2
end Go.Proofs
