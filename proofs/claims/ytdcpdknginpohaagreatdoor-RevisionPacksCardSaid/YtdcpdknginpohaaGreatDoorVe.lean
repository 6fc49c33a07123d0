/- Equations of functions, printed by program. Conditions: none. -/
import Derived.Test.YtdcpdknginpohaaGreatDoorEv
namespace Go.Proofs
open Go.Am
set_option maxRecDepth 100000
set_option linter.unusedVariables false
noncomputable def r08_On_L1 :=
 fun lb n (vO : Nat) (jh : Bool) (a2 : LL) b3 c4 d5 j5 =>
 hold (Qas (E0 lb n 0 995) 0 (Qag (sub (B Qce) [1, 0, 1, 0, 0]) ++ []) [] (sub (B Qce) [1, 0, 1, 0, 0]) (Qaj 0 (seqK (E0 lb n 0 998) (sub (B Qce) [1, 0]) (sub (B Qce) [1, 1]) (retK Tryz.prog (R Qce) 0 (outK (Qaf Tryz.prog Qce))))) vO ⟨fr 47 [(0, .val (.list jh a2)), (1, vS b3), (2, vI c4), (3, vI d5), (8, .ptr 0 8 0), (9, vB false), (10, vI j5)], [bx 47 [(8, some [.val (.str []), vI 0, vI 0, vI 0, vI 0, .lst true true 94 []])]], KK⟩)
noncomputable def Qor (lb n : Nat) (jh : Bool) (a2 : LL) (b3 : LB) (c4 d5 vw : Int) : Option CV :=
 hold (E0 lb n 0 998 (sub (B Qce) [1, 1]) (retK Tryz.prog (R Qce) 0 (outK (Qaf Tryz.prog Qce))) ⟨fr 47 [(0, .val (.list jh a2)), (1, vS b3), (2, vI c4), (3, vI d5), (8, .ptr 0 8 0), (9, vB false), (10, vI vw)], [bx 47 [(8, some [.val (.str []), vI 0, vI 0, vI 0, vI 0, .lst true true 94 []])]], KK⟩)
theorem Qq3 (lb n : Nat) (jh : Bool) (a2 : LL) (b3 : LB) (c4 d5 vw : Int) :
 Qor lb n jh a2 b3 c4 d5 vw =
 some (.tup [.agg [.str [], .int .i64 0, .int .i64 0, .int .i64 0, .int .i64 0, .list true []], .bool false]) := (Qad _).trans (by kernel_rfl)
theorem QiS (lb n vO : Nat) (jh : Bool) (a2 : LL) (b3 : LB) (c4 d5 j5 : Int) :
 r08_On_L1 lb n (vO + 1) jh a2 b3 c4 d5 j5 =
 bif (decide (j5 < (a2.length : Int))) then
 (optO (atL a2 j5) fun c51 =>
 chkO (c51.length == 6) (
 optO (c51[0]?) fun yV =>
 optO (CV.asS yV) fun pH =>
 bif (pH == b3) then
 (optO (atL a2 j5) fun c54 =>
 chkO (c54.length == 6) (
 optO (c54[1]?) fun yZ =>
 optO (CV.asI .i64 yZ) fun qn =>
 bif (qn == c4) then
 (optO (atL a2 j5) fun c57 =>
 chkO (c57.length == 6) (
 optO (c57[2]?) fun yR =>
 optO (c57[3]?) fun vA =>
 optO (c57[4]?) fun kQ =>
 optO (C lb n Qf9 [.agg [yR, vA, kQ], .int .i64 d5]) fun pF =>
 optO (CV.asB pF) fun vh =>
 bif vh then
 (optO (atL a2 j5) fun c63 =>
 chkO (c63.length == 6) (
 optO (c63[0]?) fun kS =>
 optO (c63[1]?) fun kT =>
 optO (c63[2]?) fun n4 =>
 optO (c63[3]?) fun gK =>
 optO (c63[4]?) fun n0 =>
 optO (c63[5]?) fun pR =>
 some (.tup [.agg [kS, kT, n4, gK, n0, pR], .bool true])))
 else
 (r08_On_L1 lb n vO jh a2 b3 c4 d5 (IntKind.wrap .i64 (j5 + 1)))))
 else
 (r08_On_L1 lb n vO jh a2 b3 c4 d5 (IntKind.wrap .i64 (j5 + 1)))))
 else
 (r08_On_L1 lb n vO jh a2 b3 c4 d5 (IntKind.wrap .i64 (j5 + 1)))))
 else
 (Qor lb n jh a2 b3 c4 d5 j5) := (Qad _).trans (by kernel_rfl)
theorem Qs8 (lb n : Nat) (jh : Bool) (a2 : LL) (b3 : LB) (c4 d5 : Int) :
 top lb n Qce [.list jh a2, .str b3, .int .i64 c4, .int .i64 d5] =
 r08_On_L1 lb n n jh a2 b3 c4 d5 0 := by kernel_rfl
end Go.Proofs
