/- Equations of functions, printed by program. Conditions: none. -/
import Derived.Test.YtdcpdknginpohaaGreatDoorEv
namespace Go.Proofs
open Go.Am
set_option maxRecDepth 100000
set_option linter.unusedVariables false
noncomputable def schedule_On_L1 :=
 fun lb n (oe : Nat) (jK : Bool) (a2 : LL) b3 c4 d5 i21 =>
 hold (Qas (E1 lb n 1 995) 1 (Qad (sub (B QaC) [1, 0, 1, 0, 0]) ++ []) [7] (sub (B QaC) [1, 0, 1, 0, 0]) (Qaj 0 (seqK (E1 lb n 1 998) (sub (B QaC) [1, 0]) (sub (B QaC) [1, 1]) (retK Tryz.prog (R QaC) 1 (inlK (opAt (QaA (sub (B Qba) [1, 0])) 2) ⟨fr 15 [(0, .val (.list jK a2)), (1, vS b3), (2, vI c4), (3, vI d5), (5, .ptr 0 5 0), (6, .ptr 0 6 0), (7, .ptr 0 7 0), (8, .ptr 0 8 0), (9, vB false), (10, .val (.list jK a2)), (11, .clo Qfn [.ptr 0 5 0, .ptr 0 6 0, .ptr 0 7 0])], [bx 15 [(5, some [vS b3]), (6, some [vI c4]), (7, some [vI d5]), (8, some [.val (.str []), vI 0, vI 0, vI 0, vI 0, .lst true true 94 []])]], KK⟩ (opsK Tryz.prog (C lb n) (I9 lb n) 0 (QaA (sub (B Qba) [1, 0])) ((QaA (sub (B Qba) [1, 0])).drop 3) ((seqK (E0 lb n 0 998) (sub (B Qba) [1, 0]) (sub (B Qba) [1, 1]) (retK Tryz.prog (R Qba) 0 (outK (Qag Tryz.prog Qba)))) .normal)))))) oe ⟨fr 21 [(0, .val (.list jK a2)), (1, .clo Qfn [.ptr 0 5 0, .ptr 0 6 0, .ptr 0 7 0]), (4, .ptr 1 4 0), (5, vB false), (9, .val (.list jK a2)), (10, .val (.int .i64 (a2.length : Int))), (11, vI i21)], [bx 15 [(5, some [vS b3]), (6, some [vI c4]), (7, some [vI d5]), (8, some [.val (.str []), vI 0, vI 0, vI 0, vI 0, .lst true true 94 []])], bx 21 [(4, some [.val (.str []), vI 0, vI 0, vI 0, vI 0, .lst true true 94 []])]], KK⟩)
noncomputable def QkU (lb n : Nat) (jK : Bool) (a2 : LL) (b3 : LB) (c4 d5 : Int) : Option CV :=
 hold (E1 lb n 1 998 (sub (B QaC) [1, 1]) (retK Tryz.prog (R QaC) 1 (inlK (opAt (QaA (sub (B Qba) [1, 0])) 2) ⟨fr 15 [(0, .val (.list jK a2)), (1, vS b3), (2, vI c4), (3, vI d5), (5, .ptr 0 5 0), (6, .ptr 0 6 0), (7, .ptr 0 7 0), (8, .ptr 0 8 0), (9, vB false), (10, .val (.list jK a2)), (11, .clo Qfn [.ptr 0 5 0, .ptr 0 6 0, .ptr 0 7 0])], [bx 15 [(5, some [vS b3]), (6, some [vI c4]), (7, some [vI d5]), (8, some [.val (.str []), vI 0, vI 0, vI 0, vI 0, .lst true true 94 []])]], KK⟩ (opsK Tryz.prog (C lb n) (I9 lb n) 0 (QaA (sub (B Qba) [1, 0])) ((QaA (sub (B Qba) [1, 0])).drop 3) ((seqK (E0 lb n 0 998) (sub (B Qba) [1, 0]) (sub (B Qba) [1, 1]) (retK Tryz.prog (R Qba) 0 (outK (Qag Tryz.prog Qba)))) .normal)))) ⟨fr 21 [(0, .val (.list jK a2)), (1, .clo Qfn [.ptr 0 5 0, .ptr 0 6 0, .ptr 0 7 0]), (4, .ptr 1 4 0), (5, vB false)], [bx 15 [(5, some [vS b3]), (6, some [vI c4]), (7, some [vI d5]), (8, some [.val (.str []), vI 0, vI 0, vI 0, vI 0, .lst true true 94 []])], bx 21 [(4, some [.val (.str []), vI 0, vI 0, vI 0, vI 0, .lst true true 94 []])]], KK⟩)
theorem Qn3 (lb n : Nat) (jK : Bool) (a2 : LL) (b3 : LB) (c4 d5 : Int) :
 QkU lb n jK a2 b3 c4 d5 =
 some (.tup [.agg [.str [], .int .i64 0, .int .i64 0, .int .i64 0, .int .i64 0, .list true []], .bool false]) := (Qaf _).trans (by kernel_rfl)
theorem Qhp (lb n oe : Nat) (jK : Bool) (a2 : LL) (b3 : LB) (c4 d5 i21 : Int) :
 schedule_On_L1 lb n (oe + 1) jK a2 b3 c4 d5 i21 =
 bif (decide (i21 < (a2.length : Int))) then
 (optO (atL a2 i21) fun c35 =>
 chkO (c35.length == 6) (
 optO (c35[0]?) fun yG =>
 optO (c35[1]?) fun yy =>
 optO (c35[2]?) fun yJ =>
 optO (c35[3]?) fun oU =>
 optO (c35[4]?) fun oc =>
 optO (c35[5]?) fun gM =>
 optO (CV.asS yG) fun lW =>
 bif (lW == b3) then
 (optO (CV.asI .i64 yy) fun i43 =>
 bif (i43 == c4) then
 (optO (C lb n QfA [.agg [yJ, oU, oc], .int .i64 d5]) fun lQ =>
 optO (CV.asB lQ) fun ot =>
 bif ot then
 (some (.tup [.agg [yG, yy, yJ, oU, oc, gM], .bool true]))
 else
 (schedule_On_L1 lb n oe jK a2 b3 c4 d5 (IntKind.wrap .i64 (i21 + 1))))
 else
 (schedule_On_L1 lb n oe jK a2 b3 c4 d5 (IntKind.wrap .i64 (i21 + 1))))
 else
 (schedule_On_L1 lb n oe jK a2 b3 c4 d5 (IntKind.wrap .i64 (i21 + 1)))))
 else
 (QkU lb n jK a2 b3 c4 d5 ) := (Qaf _).trans (by kernel_rfl)
theorem Qrm (lb n : Nat) (jK : Bool) (a2 : LL) (b3 : LB) (c4 d5 : Int) :
 top lb n Qba [.list jK a2, .str b3, .int .i64 c4, .int .i64 d5] =
 schedule_On_L1 lb n n jK a2 b3 c4 d5 0 := by kernel_rfl
end Go.Proofs
