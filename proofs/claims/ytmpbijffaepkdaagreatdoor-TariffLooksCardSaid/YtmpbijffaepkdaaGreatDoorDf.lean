/- What functions of the program give, on plain data: times with one offset, lengths of months, days of periods. Conditions: none; definitions. -/
import Init
namespace Go.Proofs
def QnY (day : Int) : Int := Int.tmod (Int.tmod day 7 + 12) 7
def onF (days day : Int) : Bool := days / 2 ^ (QnY day).toNat % 2 == 1
def upto (fr days : Int) : Nat → List Int
 | 0 => []
 | k + 1 => upto fr days k ++ (if onF days (fr + k) then [fr + k] else [])
end Go.Proofs
