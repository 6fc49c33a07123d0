/- Equations of functions, printed by program. Conditions: none. -/
import Derived.Test.YtdcpdknginpohaaGreatDoorEv
namespace Go.Proofs
open Go.Am
set_option maxRecDepth 100000
set_option linter.unusedVariables false
theorem Qvi (lb n) (js : LB) (jr jh jj ji : Int) (jq) (aleg7 : LL) (oF : LB) (od vw ko vR : Int) (oa) (oz : LL) :
 top lb n QlL [.agg [.str js, .int .i64 jr, .int .i64 jh, .int .i64 jj, .int .i64 ji, .list jq aleg7], .agg [.str oF, .int .i64 od, .int .i64 vw, .int .i64 ko, .int .i64 vR, .list oa oz]] =
 bif (js == oF) then
 (bif (jr == od) then
 (bif ((jh == vw) && ((jj == ko) && ((ji == vR) && true))) then
 (optO (C lb n QbC [.list jq aleg7, .list oa oz]) fun mH =>
 some (mH))
 else
 (some (.bool false)))
 else
 (some (.bool false)))
 else
 (some (.bool false)) := by kernel_rfl
noncomputable def r07_SameLegs_L1 :=
 fun lb n (qb : Nat) (wb : Bool) (a2 : LL) (vD : Bool) (b4 : LL) oi =>
 hold (Qar (E0 lb n 0 994) 0 (Qad (sub (B QbC) [1, 1, 0, 1, 0, 0]) ++ []) [] (sub (B QbC) [1, 1, 0, 1, 0, 0]) (Qaj 0 (seqK (E0 lb n 0 997) (sub (B QbC) [1, 1, 0]) (sub (B QbC) [1, 1, 1]) (retK Tryz.prog (R QbC) 0 (outK (Qaf Tryz.prog QbC))))) qb ⟨fr 26 [(0, .val (.list wb a2)), (1, .val (.list vD b4)), (4, vB false), (5, vI oi)], [bx 26 []], KK⟩)
noncomputable def Qkj (lb n : Nat) (wb : Bool) (a2 : LL) (vD : Bool) (b4 : LL) (kS : Int) : Option CV :=
 hold (E0 lb n 0 997 (sub (B QbC) [1, 1, 1]) (retK Tryz.prog (R QbC) 0 (outK (Qaf Tryz.prog QbC))) ⟨fr 26 [(0, .val (.list wb a2)), (1, .val (.list vD b4)), (4, vB false), (5, vI kS)], [bx 26 []], KK⟩)
theorem Qm1 (lb n : Nat) (wb : Bool) (a2 : LL) (vD : Bool) (b4 : LL) (kS : Int) :
 Qkj lb n wb a2 vD b4 kS =
 some (.bool true) := (Qac _).trans (by kernel_rfl)
theorem QgQ (lb n qb : Nat) (wb : Bool) (a2 : LL) (vD : Bool) (b4 : LL) (oi : Int) :
 r07_SameLegs_L1 lb n (qb + 1) wb a2 vD b4 oi =
 bif (decide (oi < (a2.length : Int))) then
 (optO (atL a2 oi) fun c54 =>
 chkO (c54.length == 5) (
 optO (c54[0]?) fun yX =>
 optO (c54[1]?) fun ve =>
 optO (c54[2]?) fun kc =>
 optO (c54[3]?) fun kL =>
 optO (c54[4]?) fun oP =>
 optO (atL b4 oi) fun c60 =>
 chkO (c60.length == 5) (
 optO (c60[0]?) fun mo =>
 optO (c60[1]?) fun qJ =>
 optO (c60[2]?) fun k4 =>
 optO (c60[3]?) fun kZ =>
 optO (c60[4]?) fun kw =>
 optO (CV.asS yX) fun lL =>
 optO (CV.asS mo) fun tN =>
 optO (CV.asS ve) fun nJ =>
 optO (CV.asS qJ) fun nL =>
 optO (CV.asI .i64 kc) fun rp =>
 optO (CV.asI .i64 k4) fun l8 =>
 optO (CV.asI .i64 kL) fun rT =>
 optO (CV.asI .i64 kZ) fun tI =>
 optO (CV.asS oP) fun rS =>
 optO (CV.asS kw) fun tL =>
 bif (!((lL == tN) && ((nJ == nL) && ((rp == l8) && ((rT == tI) && ((rS == tL) && true)))))) then
 (some (.bool false))
 else
 (r07_SameLegs_L1 lb n qb wb a2 vD b4 (IntKind.wrap .i64 (oi + 1))))))
 else
 (Qkj lb n wb a2 vD b4 oi) := (Qac _).trans (by kernel_rfl)
theorem Qj0 (lb n : Nat) (wb : Bool) (a2 : LL) (vD : Bool) (b4 : LL) :
 top lb n QbC [.list wb a2, .list vD b4] =
 bif ((a2.length : Int) != (b4.length : Int)) then
 (some (.bool false))
 else
 (r07_SameLegs_L1 lb n n wb a2 vD b4 0) := by kernel_rfl
end Go.Proofs
