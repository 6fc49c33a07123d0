/- What functions of the program give, on plain data: times with one offset, lengths of months, days of periods. Conditions: none; definitions. -/
import Init
namespace Go.Proofs
def QAA (day:Int):Int:=Int.tmod (Int.tmod day 7+12) 7
def onF (days day:Int):Bool:=days/2^(QAA day).toNat%2==1
def upto (fr days:Int):Nat→List Int
 |0=> []
 |k+1=>upto fr days k++(if onF days (fr+k) then [fr+k] else [])
abbrev GS:=Int×Int×List (List Int)
def Qjl (out:List (List Int)) (i:Int):List (List Int):=out.dropLast++ [(out.getLast?.getD [])++ [i]]
def stepG (s:GS) (n:Int):GS:=(s.1+1,n,if n>0∧s.2.1=n then Qjl s.2.2 s.1 else s.2.2++ [[s.1]])
def Qa6 (l:List Int):GS:=l.foldl stepG (0,0, [])
def QaO (l:List Int):List (List Int):=(Qa6 l).2.2
end Go.Proofs
