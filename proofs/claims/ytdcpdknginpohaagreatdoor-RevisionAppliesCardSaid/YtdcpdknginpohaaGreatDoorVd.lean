/- Equations of functions, printed by program. Conditions: none. -/
import Derived.Test.YtdcpdknginpohaaGreatDoorEv
namespace Go.Proofs
open Go.Am
set_option maxRecDepth 100000
set_option linter.unusedVariables false
theorem Qed (lb n ja) (aair2 : LL) (jb) (adis4 : LL) (jA) (b6 : LL) (j7 : Int) (jN : LB) (jy jj jo jk jI : Int) (jL : LB) (jr) (jz : LL) :
 top lb n Qgz [.agg [.list ja aair2, .list jb adis4], .list jA b6, .agg [.int .i64 j7, .str jN, .int .i64 jy, .int .i64 jj, .int .i64 jo, .int .i64 jk, .int .i64 jI, .str jL, .list jr jz]] =
 optO (C lb n Qkw [.agg [.list ja aair2, .list jb adis4], .list jA b6]) fun vT =>
 optO (CV.asB vT) fun rj =>
 bif (!rj) then
 (optO (C lb n Qe7 []) fun yg =>
 some (yg))
 else
 (optO (C lb n Qko [.agg [.int .i64 j7, .str jN, .int .i64 jy, .int .i64 jj, .int .i64 jo, .int .i64 jk, .int .i64 jI, .str jL, .list jr jz]]) fun qh =>
 optO (CV.asB qh) fun kR =>
 bif (!kR) then
 (optO (C lb n Qe7 []) fun kd =>
 some (kd))
 else
 (optO (C lb n Qbl [.agg [.list ja aair2, .list jb adis4], .list jA b6, .agg [.int .i64 j7, .str jN, .int .i64 jy, .int .i64 jj, .int .i64 jo, .int .i64 jk, .int .i64 jI, .str jL, .list jr jz]]) fun gE =>
 optO (CV.asT gE) fun nB =>
 optO (nB[0]?) fun wA =>
 optO (CV.asT gE) fun qi =>
 optO (qi[1]?) fun wz =>
 optO (C lb n QaC [.agg [.list ja aair2, .list jb adis4], .list jA b6, .agg [.int .i64 j7, .str jN, .int .i64 jy, .int .i64 jj, .int .i64 jo, .int .i64 jk, .int .i64 jI, .str jL, .list jr jz]]) fun qL =>
 optO (CV.asT qL) fun t31 =>
 optO (t31[0]?) fun w9 =>
 optO (CV.asT qL) fun rq =>
 optO (rq[1]?) fun yC =>
 optO (C lb n QbO [wA, w9]) fun mo =>
 optO (CV.asB mo) fun tv =>
 bif tv then
 (optO (CV.asI .i64 wz) fun kc =>
 optO (CV.asI .i64 yC) fun oa =>
 bif (kc == oa) then
 (optO (C lb n Qe7 []) fun nU =>
 some (nU))
 else
 (some (.bool false)))
 else
 (some (.bool false)))) := by kernel_rfl
end Go.Proofs
