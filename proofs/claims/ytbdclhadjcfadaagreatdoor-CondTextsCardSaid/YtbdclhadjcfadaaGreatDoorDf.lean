/- What functions of the program give, on plain data: times with one offset, lengths of months, days of periods. Conditions: none; definitions. -/
import Init
namespace Go.Proofs
def QrJ:List Int := [31,28,31,30,31,30,31,31,30,31,30,31]
def Qjt (y m:Int):Option Int := if m = 2 ∧ Int.tmod y 4 = 0 then some 29 else if 1 ≤ m ∧ m ≤ 12 then QrJ[(m - 1).toNat]? else none
def perE (fr to days:Int):Int := if fr < 0 ∨ to < fr ∨ to ≥ 36525 then 12 else if to - fr ≥ 800 then 4 else if days < 1 ∨ days > 127 then 2 else 0
def QCX (day:Int):Int := Int.tmod (Int.tmod day 7 + 12) 7
def onF (days day:Int):Bool := days / 2 ^ (QCX day).toNat % 2 == 1
def upto (fr days:Int):Nat → List Int
 | 0 => []
 | k + 1 => upto fr days k ++ (if onF days (fr + k) then [fr + k] else [])
end Go.Proofs
