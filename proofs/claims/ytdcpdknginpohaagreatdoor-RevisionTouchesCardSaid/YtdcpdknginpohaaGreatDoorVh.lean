/- Equations of functions, printed by program. Conditions: none. -/
import Derived.Test.YtdcpdknginpohaaGreatDoorEv
namespace Go.Proofs
open Go.Am
set_option maxRecDepth 100000
set_option linter.unusedVariables false
noncomputable def schedule_On_L1 :=
 fun lb n (vL : Nat) (jv : Bool) (a2 : LL) b3 c4 d5 i21 =>
 hold (Qat (E1 lb n 1 995) 1 (Qag (sub (B QaN) [1, 0, 1, 0, 0]) ++ []) [7] (sub (B QaN) [1, 0, 1, 0, 0]) (Qai 0 (seqK (E1 lb n 1 998) (sub (B QaN) [1, 0]) (sub (B QaN) [1, 1]) (retK Tryz.prog (R QaN) 1 (inlK (opAt (Qea (sub (B QaJ) [1, 0])) 2) ⟨fr 15 [(0, .val (.list jv a2)), (1, vS b3), (2, vI c4), (3, vI d5), (5, .ptr 0 5 0), (6, .ptr 0 6 0), (7, .ptr 0 7 0), (8, .ptr 0 8 0), (9, vB false), (10, .val (.list jv a2)), (11, .clo Qdv [.ptr 0 5 0, .ptr 0 6 0, .ptr 0 7 0])], [bx 15 [(5, some [vS b3]), (6, some [vI c4]), (7, some [vI d5]), (8, some [.val (.str []), vI 0, vI 0, vI 0, vI 0, .lst true true 94 []])]], KK⟩ (opsK Tryz.prog (C lb n) (I9 lb n) 0 (Qea (sub (B QaJ) [1, 0])) ((Qea (sub (B QaJ) [1, 0])).drop 3) ((seqK (E0 lb n 0 998) (sub (B QaJ) [1, 0]) (sub (B QaJ) [1, 1]) (retK Tryz.prog (R QaJ) 0 (outK (Qaf Tryz.prog QaJ)))) .normal)))))) vL ⟨fr 21 [(0, .val (.list jv a2)), (1, .clo Qdv [.ptr 0 5 0, .ptr 0 6 0, .ptr 0 7 0]), (4, .ptr 1 4 0), (5, vB false), (9, .val (.list jv a2)), (10, .val (.int .i64 (a2.length : Int))), (11, vI i21)], [bx 15 [(5, some [vS b3]), (6, some [vI c4]), (7, some [vI d5]), (8, some [.val (.str []), vI 0, vI 0, vI 0, vI 0, .lst true true 94 []])], bx 21 [(4, some [.val (.str []), vI 0, vI 0, vI 0, vI 0, .lst true true 94 []])]], KK⟩)
noncomputable def QhW (lb n : Nat) (jv : Bool) (a2 : LL) (b3 : LB) (c4 d5 : Int) : Option CV :=
 hold (E1 lb n 1 998 (sub (B QaN) [1, 1]) (retK Tryz.prog (R QaN) 1 (inlK (opAt (Qea (sub (B QaJ) [1, 0])) 2) ⟨fr 15 [(0, .val (.list jv a2)), (1, vS b3), (2, vI c4), (3, vI d5), (5, .ptr 0 5 0), (6, .ptr 0 6 0), (7, .ptr 0 7 0), (8, .ptr 0 8 0), (9, vB false), (10, .val (.list jv a2)), (11, .clo Qdv [.ptr 0 5 0, .ptr 0 6 0, .ptr 0 7 0])], [bx 15 [(5, some [vS b3]), (6, some [vI c4]), (7, some [vI d5]), (8, some [.val (.str []), vI 0, vI 0, vI 0, vI 0, .lst true true 94 []])]], KK⟩ (opsK Tryz.prog (C lb n) (I9 lb n) 0 (Qea (sub (B QaJ) [1, 0])) ((Qea (sub (B QaJ) [1, 0])).drop 3) ((seqK (E0 lb n 0 998) (sub (B QaJ) [1, 0]) (sub (B QaJ) [1, 1]) (retK Tryz.prog (R QaJ) 0 (outK (Qaf Tryz.prog QaJ)))) .normal)))) ⟨fr 21 [(0, .val (.list jv a2)), (1, .clo Qdv [.ptr 0 5 0, .ptr 0 6 0, .ptr 0 7 0]), (4, .ptr 1 4 0), (5, vB false)], [bx 15 [(5, some [vS b3]), (6, some [vI c4]), (7, some [vI d5]), (8, some [.val (.str []), vI 0, vI 0, vI 0, vI 0, .lst true true 94 []])], bx 21 [(4, some [.val (.str []), vI 0, vI 0, vI 0, vI 0, .lst true true 94 []])]], KK⟩)
theorem Qkw (lb n : Nat) (jv : Bool) (a2 : LL) (b3 : LB) (c4 d5 : Int) :
 QhW lb n jv a2 b3 c4 d5 =
 some (.tup [.agg [.str [], .int .i64 0, .int .i64 0, .int .i64 0, .int .i64 0, .list true []], .bool false]) := (Qae _).trans (by kernel_rfl)
theorem Qe0 (lb n vL : Nat) (jv : Bool) (a2 : LL) (b3 : LB) (c4 d5 i21 : Int) :
 schedule_On_L1 lb n (vL + 1) jv a2 b3 c4 d5 i21 =
 bif (decide (i21 < (a2.length : Int))) then
 (optO (atL a2 i21) fun c35 =>
 chkO (c35.length == 6) (
 optO (c35[0]?) fun yO =>
 optO (c35[1]?) fun ym =>
 optO (c35[2]?) fun vH =>
 optO (c35[3]?) fun vK =>
 optO (c35[4]?) fun vQ =>
 optO (c35[5]?) fun o6 =>
 optO (CV.asS yO) fun pU =>
 bif (pU == b3) then
 (optO (CV.asI .i64 ym) fun pu =>
 bif (pu == c4) then
 (optO (C lb n QeR [.agg [vH, vK, vQ], .int .i64 d5]) fun n4 =>
 optO (CV.asB n4) fun vM =>
 bif vM then
 (some (.tup [.agg [yO, ym, vH, vK, vQ, o6], .bool true]))
 else
 (schedule_On_L1 lb n vL jv a2 b3 c4 d5 (IntKind.wrap .i64 (i21 + 1))))
 else
 (schedule_On_L1 lb n vL jv a2 b3 c4 d5 (IntKind.wrap .i64 (i21 + 1))))
 else
 (schedule_On_L1 lb n vL jv a2 b3 c4 d5 (IntKind.wrap .i64 (i21 + 1)))))
 else
 (QhW lb n jv a2 b3 c4 d5 ) := (Qae _).trans (by kernel_rfl)
theorem QmV (lb n : Nat) (jv : Bool) (a2 : LL) (b3 : LB) (c4 d5 : Int) :
 top lb n QaJ [.list jv a2, .str b3, .int .i64 c4, .int .i64 d5] =
 schedule_On_L1 lb n n jv a2 b3 c4 d5 0 := by kernel_rfl
end Go.Proofs
