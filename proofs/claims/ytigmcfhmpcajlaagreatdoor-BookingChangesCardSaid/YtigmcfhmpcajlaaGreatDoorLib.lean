/- What library functions give, on plain data. Conditions: none; definitions, and laws of numerals. -/
import Derived.Test.YtigmcfhmpcajlaaGreatDoorAm
import Derived.Test.YtigmcfhmpcajlaaGreatDoorIds
import Derived.Lib.ItoaNum
import Derived.Lib.AtoiAll
import Derived.Lib.Split
import Derived.Lib.Join
import Derived.Test.YtigmcfhmpcajlaaGreatDoorDf
set_option linter.unusedVariables false
namespace Go.Proofs
open Go.Am
def digF:Nat→Nat→List UInt8
 |0,u=> [UInt8.ofNat (48+u)]
 |k+1,u=>if u<10 then [UInt8.ofNat (48+u)] else digF k (u/10)++ [UInt8.ofNat (48+u%10)]
theorem Qrd:∀(k u:Nat),u<10^(k+1)→digF k u=Lib.decDigits u
 |0,u,h=>by
  rw [Lib.decDigits,dif_pos (by simpa using h)];rfl
 |k+1,u,h=>by
  unfold digF
  rw [Lib.decDigits]
  by_cases hu:u<10
  ·rw [if_pos hu,dif_pos hu]
  ·rw [if_neg hu,dif_neg hu,Qrd k (u/10) (by rw [Nat.pow_succ] at h;omega)]
def QvL (n:Int):List UInt8:=if n<0 then 45::digF 19 n.natAbs else digF 19 n.toNat
theorem Qtd {n:Int} (h0:-9223372036854775808≤n) (h1:n≤9223372036854775807):QvL n=Lib.itoa n:=by
 unfold QvL Lib.itoa
 split
 ·rw [Qrd 19 _ (by omega)]
 ·rw [Qrd 19 _ (by omega)]
def Qgn:List CV→Option CV
 | [.str s, .int .u8 c]=>some (.int .i64 (Lib.indexByte s c.toNat.toUInt8))
 |_=>none
def Qh3:List CV→Option CV
 | [.str s, .str p]=>some (.str (Lib.trimPrefix s p))
 |_=>none
def Ql7:List CV→Option CV
 | [.int .i64 n]=>if-9223372036854775808≤n∧n≤9223372036854775807 then some (.str (QvL n)) else none
 |_=>none
def Qpi:List CV→Option CV
 | [.str s]=>if s.length≤281474976710656 then (match Lib.atoiAll s with
  | .ok v=>some (.tup [.int .i64 v, .nilif])
  | .range=>some (.tup [.int .i64 (Lib.atoiSat s), .err])
  |_=>some (.tup [.int .i64 0, .err])) else none
 |_=>none
def Qru:List CV→Option CV
 | [.str s, .str sep]=>if s.length<4294967281 then some (.tup [.str (Lib.cut s sep).1, .str (Lib.cut s sep).2.1, .bool (Lib.cut s sep).2.2]) else none
 |_=>none
def Qlc:List (List CV)→Option (List (List UInt8))
 | []=>some []
 | [.str s]::r=>(Qlc r).map (s:: ·)
 |_=>none
def Qpe:List CV→Option CV
 | [.list _ l, .str sep]=>match Qlc l with
  |some xs=>if xs.length≤140737488355328∧(Lib.join xs sep).length≤140737488355328 then some (.str (Lib.join xs sep)) else none
  |none=>none
 |_=>none
def QkC:List CV→Option CV
 | [.str s, .str sep]=>if s.length<4294967281∧1≤sep.length then some (.list false ((Lib.split s sep).map fun x=> [.str x])) else none
 |_=>none
def QlI:List CV→Option CV
 | [.str s, .str [c]]=>some (.int .i64 (s.count c))
 |_=>none
def QnU (s:List UInt8) (c:Int):Nat→Int
 |0=>-1
 |k+1=>if ((s[k]?.getD 0).toNat:Int)=c then (k:Int) else QnU s c k
def QfV:List CV→Option CV
 | [.str s, .int .u8 c]=>if s.length<4611686018427387904 then some (.int .i64 (QnU s c s.length)) else none
 |_=>none
def Qdr:List (List CV)→Option (List Int)
 | []=>some []
 | [.int .i64 a]::r=>(Qdr r).map (a:: ·)
 |_=>none
def Qdt (g:List Int):List CV:= [.list false (g.map fun x=> [CV.int .i64 x])]
def QgV:List CV→Option CV
 | [.list _ l]=>match Qdr l with
  |some s=>if s.length≤1000000000000 then some (.list s.isEmpty ((QaO s).map Qdt)) else none
  |none=>none
 |_=>none
def L1 (lb:Nat):FuncId→Option (List CV→Option CV):=fun f=>
 if f=QcR then some Qgn else
 if f=QgY then some Qh3 else
 if f=QhM then some Ql7 else
 if f=Qlz then (match lb with|0=>none|_+1=>some Qpi) else
 if f=Qcj then some Qru else
 if f=Qlt then some Qpe else
 if f=Qff then some QkC else
 if f=QkA then some QlI else
 if f=QfU then some QfV else
 if f=Qel then some QgV else
 none
end Go.Proofs
