/- Equations of functions, printed by program. Conditions: none. -/
import Derived.Test.YtdcpdknginpohaaGreatDoorEv
namespace Go.Proofs
open Go.Am
set_option maxRecDepth 100000
set_option linter.unusedVariables false
noncomputable def r08_On_L1 :=
 fun lb n (gq : Nat) (jO : Bool) (a2 : LL) b3 c4 d5 y6 =>
 hold (Qau (E0 lb n 0 995) 0 (Qae (sub (B Qcy) [1, 0, 1, 0, 0]) ++ []) [] (sub (B Qcy) [1, 0, 1, 0, 0]) (Qal 0 (seqK (E0 lb n 0 998) (sub (B Qcy) [1, 0]) (sub (B Qcy) [1, 1]) (retK Tryz.prog (R Qcy) 0 (outK (Qaj Tryz.prog Qcy))))) gq ⟨fr 47 [(0, .val (.list jO a2)), (1, vS b3), (2, vI c4), (3, vI d5), (8, .ptr 0 8 0), (9, vB false), (10, vI y6)], [bx 47 [(8, some [.val (.str []), vI 0, vI 0, vI 0, vI 0, .lst true true 94 []])]], KK⟩)
noncomputable def QrL (lb n : Nat) (jO : Bool) (a2 : LL) (b3 : LB) (c4 d5 mH : Int) : Option CV :=
 hold (E0 lb n 0 998 (sub (B Qcy) [1, 1]) (retK Tryz.prog (R Qcy) 0 (outK (Qaj Tryz.prog Qcy))) ⟨fr 47 [(0, .val (.list jO a2)), (1, vS b3), (2, vI c4), (3, vI d5), (8, .ptr 0 8 0), (9, vB false), (10, vI mH)], [bx 47 [(8, some [.val (.str []), vI 0, vI 0, vI 0, vI 0, .lst true true 94 []])]], KK⟩)
theorem Quf (lb n : Nat) (jO : Bool) (a2 : LL) (b3 : LB) (c4 d5 mH : Int) :
 QrL lb n jO a2 b3 c4 d5 mH =
 some (.tup [.agg [.str [], .int .i64 0, .int .i64 0, .int .i64 0, .int .i64 0, .list true []], .bool false]) := (Qad _).trans (by kernel_rfl)
theorem QkU (lb n gq : Nat) (jO : Bool) (a2 : LL) (b3 : LB) (c4 d5 y6 : Int) :
 r08_On_L1 lb n (gq + 1) jO a2 b3 c4 d5 y6 =
 bif (decide (y6 < (a2.length : Int))) then
 (optO (atL a2 y6) fun c51 =>
 chkO (c51.length == 6) (
 optO (c51[0]?) fun ow =>
 optO (CV.asS ow) fun zY =>
 bif (zY == b3) then
 (optO (atL a2 y6) fun c54 =>
 chkO (c54.length == 6) (
 optO (c54[1]?) fun oo =>
 optO (CV.asI .i64 oo) fun pd =>
 bif (pd == c4) then
 (optO (atL a2 y6) fun c57 =>
 chkO (c57.length == 6) (
 optO (c57[2]?) fun n8 =>
 optO (c57[3]?) fun mU =>
 optO (c57[4]?) fun pJ =>
 optO (C lb n Qcz [.agg [n8, mU, pJ], .int .i64 d5]) fun n3 =>
 optO (CV.asB n3) fun o9 =>
 bif o9 then
 (optO (atL a2 y6) fun c63 =>
 chkO (c63.length == 6) (
 optO (c63[0]?) fun kh =>
 optO (c63[1]?) fun vJ =>
 optO (c63[2]?) fun vP =>
 optO (c63[3]?) fun vG =>
 optO (c63[4]?) fun vW =>
 optO (c63[5]?) fun gv =>
 some (.tup [.agg [kh, vJ, vP, vG, vW, gv], .bool true])))
 else
 (r08_On_L1 lb n gq jO a2 b3 c4 d5 (IntKind.wrap .i64 (y6 + 1)))))
 else
 (r08_On_L1 lb n gq jO a2 b3 c4 d5 (IntKind.wrap .i64 (y6 + 1)))))
 else
 (r08_On_L1 lb n gq jO a2 b3 c4 d5 (IntKind.wrap .i64 (y6 + 1)))))
 else
 (QrL lb n jO a2 b3 c4 d5 y6) := (Qad _).trans (by kernel_rfl)
theorem Qwr (lb n : Nat) (jO : Bool) (a2 : LL) (b3 : LB) (c4 d5 : Int) :
 top lb n Qcy [.list jO a2, .str b3, .int .i64 c4, .int .i64 d5] =
 r08_On_L1 lb n n jO a2 b3 c4 d5 0 := by kernel_rfl
end Go.Proofs
