/- Equations of functions, printed by program. Conditions: none. -/
import Derived.Test.YtigmcfhmpcajlaaGreatDoorEv
namespace Go.Proofs
open Go.Am
set_option maxRecDepth 100000
set_option linter.unusedVariables false
noncomputable def party_Check_L1 :=
 fun lb n (yC : Nat) (jg : Bool) (a2 : LL) b3 ya (ym : Bool) (l29 : LL) =>
 hold (QaA (E0 lb n 0 993) 0 (Qag (sub (B Qaz) [1, 1, 1, 0, 1, 0, 0]) ++ [7, 9]) [8] (sub (B Qaz) [1, 1, 1, 0, 1, 0, 0]) (Qal 0 (seqK (E0 lb n 0 996) (sub (B Qaz) [1, 1, 1, 0]) (sub (B Qaz) [1, 1, 1, 1]) (retK Tryz.prog (R Qaz) 0 (outK (Qah Tryz.prog Qaz))))) yC ⟨fr 73 [(0, .val (.list jg a2)), (1, vI b3), (4, .lst true true 61 []), (5, .ptr 0 5 0), (6, .clo QaM [.ptr 0 5 0]), (12, .clo QaM [.ptr 0 5 0]), (13, .val (.list jg a2)), (14, .val (.int .i64 (a2.length : Int))), (15, vI ya)], [bx 73 [(5, some [.lst true ym 61 l29])]], KK⟩)
noncomputable def QeU (lb n : Nat) (jg : Bool) (a2 : LL) (b3 : Int) (yF : Bool) (l57 : LL) : Option CV :=
 hold (E0 lb n 0 996 (sub (B Qaz) [1, 1, 1, 1]) (retK Tryz.prog (R Qaz) 0 (outK (Qah Tryz.prog Qaz))) ⟨fr 73 [(0, .val (.list jg a2)), (1, vI b3), (4, .lst true true 61 []), (5, .ptr 0 5 0), (6, .clo QaM [.ptr 0 5 0]), (12, .clo QaM [.ptr 0 5 0])], [bx 73 [(5, some [.lst true yF 61 l57])]], KK⟩)
noncomputable def QhF (lb n : Nat) (jg : Bool) (a2 : LL) (b3 : Int) (wG : Bool) (l59 : LL) : Option CV :=
 hold (E0 lb n 0 994 (sub (B Qaz) [1, 1, 1, 1, 1, 1]) (retK Tryz.prog (R Qaz) 0 (outK (Qah Tryz.prog Qaz))) ⟨fr 73 [(0, .val (.list jg a2)), (1, vI b3), (4, .lst true true 61 []), (5, .ptr 0 5 0), (6, .clo QaM [.ptr 0 5 0]), (10, vB true), (12, .clo QaM [.ptr 0 5 0]), (36, vI b3), (37, .val (.bool (decide (b3 < 0)))), (38, vB true), (39, .undef), (40, .undef), (41, vB true)], [bx 73 [(5, some [.lst true wG 61 l59])]], KK⟩)
noncomputable def Qe3 (lb n : Nat) (jg : Bool) (a2 : LL) (b3 : Int) (wG : Bool) (l59 : LL) (yx : Int) : Option CV :=
 hold (E0 lb n 0 993 (sub (B Qaz) [1, 1, 1, 1, 1, 1, 1]) (retK Tryz.prog (R Qaz) 0 (outK (Qah Tryz.prog Qaz))) ⟨fr 73 [(0, .val (.list jg a2)), (1, vI yx), (4, .lst true true 61 []), (5, .ptr 0 5 0), (6, .clo QaM [.ptr 0 5 0]), (10, vB true), (12, .clo QaM [.ptr 0 5 0]), (36, vI b3), (37, .val (.bool (decide (b3 < 0)))), (38, vB true), (39, .undef), (40, .undef), (41, vB true)], [bx 73 [(5, some [.lst true wG 61 l59])]], KK⟩)
theorem QjU (lb n : Nat) (jg : Bool) (a2 : LL) (b3 : Int) (wG : Bool) (l59 : LL) (yx : Int) :
 Qe3 lb n jg a2 b3 wG l59 yx =
 bif ((IntKind.wrap .i64 ((a2.length : Int) + yx)) == 0) then
 (chkO (room (l59.length + 1) 24) (
 optO (C lb n Qat [.list jg a2]) fun mJ =>
 optO (CV.asB mJ) fun mY =>
 bif mY then
 (chkO (room ((l59 ++ [[CV.int .i64 4, CV.str [112, 97, 114, 116, 121]]]).length + 1) 24) (
 some (.list ((wG && false) && false) ((l59 ++ [[CV.int .i64 4, CV.str [112, 97, 114, 116, 121]]]) ++ [[CV.int .i64 25, CV.str [112, 97, 114, 116, 121]]]))))
 else
 (some (.list (wG && false) (l59 ++ [[CV.int .i64 4, CV.str [112, 97, 114, 116, 121]]])))))
 else
 (bif (yx == 0) then
 (bif (decide ((a2.length : Int) > 9)) then
 (chkO (room (l59.length + 1) 24) (
 optO (C lb n Qat [.list jg a2]) fun nI =>
 optO (CV.asB nI) fun nv =>
 bif nv then
 (chkO (room ((l59 ++ [[CV.int .i64 4, CV.str [112, 97, 114, 116, 121]]]).length + 1) 24) (
 some (.list ((wG && false) && false) ((l59 ++ [[CV.int .i64 4, CV.str [112, 97, 114, 116, 121]]]) ++ [[CV.int .i64 25, CV.str [112, 97, 114, 116, 121]]]))))
 else
 (some (.list (wG && false) (l59 ++ [[CV.int .i64 4, CV.str [112, 97, 114, 116, 121]]])))))
 else
 (bif (decide ((IntKind.wrap .i64 ((a2.length : Int) + yx)) > 99)) then
 (chkO (room (l59.length + 1) 24) (
 optO (C lb n Qat [.list jg a2]) fun mK =>
 optO (CV.asB mK) fun nG =>
 bif nG then
 (chkO (room ((l59 ++ [[CV.int .i64 4, CV.str [112, 97, 114, 116, 121]]]).length + 1) 24) (
 some (.list ((wG && false) && false) ((l59 ++ [[CV.int .i64 4, CV.str [112, 97, 114, 116, 121]]]) ++ [[CV.int .i64 25, CV.str [112, 97, 114, 116, 121]]]))))
 else
 (some (.list (wG && false) (l59 ++ [[CV.int .i64 4, CV.str [112, 97, 114, 116, 121]]])))))
 else
 (optO (C lb n Qat [.list jg a2]) fun na =>
 optO (CV.asB na) fun nH =>
 bif nH then
 (chkO (room (l59.length + 1) 24) (
 some (.list (wG && false) (l59 ++ [[CV.int .i64 25, CV.str [112, 97, 114, 116, 121]]]))))
 else
 (some (.list wG l59)))))
 else
 (bif (decide ((IntKind.wrap .i64 ((a2.length : Int) + yx)) > 99)) then
 (chkO (room (l59.length + 1) 24) (
 optO (C lb n Qat [.list jg a2]) fun nx =>
 optO (CV.asB nx) fun nM =>
 bif nM then
 (chkO (room ((l59 ++ [[CV.int .i64 4, CV.str [112, 97, 114, 116, 121]]]).length + 1) 24) (
 some (.list ((wG && false) && false) ((l59 ++ [[CV.int .i64 4, CV.str [112, 97, 114, 116, 121]]]) ++ [[CV.int .i64 25, CV.str [112, 97, 114, 116, 121]]]))))
 else
 (some (.list (wG && false) (l59 ++ [[CV.int .i64 4, CV.str [112, 97, 114, 116, 121]]])))))
 else
 (optO (C lb n Qat [.list jg a2]) fun ku =>
 optO (CV.asB ku) fun kj =>
 bif kj then
 (chkO (room (l59.length + 1) 24) (
 some (.list (wG && false) (l59 ++ [[CV.int .i64 25, CV.str [112, 97, 114, 116, 121]]]))))
 else
 (some (.list wG l59))))) := (Qai _).trans (by kernel_rfl)
theorem QjO (lb n : Nat) (jg : Bool) (a2 : LL) (b3 : Int) (wG : Bool) (l59 : LL) :
 QhF lb n jg a2 b3 wG l59 =
 Qe3 lb n jg a2 b3 wG l59 0 := (Qai _).trans (by kernel_rfl)
noncomputable def Qfj (lb n : Nat) (jg : Bool) (a2 : LL) (b3 : Int) (wq : Bool) (l75 : LL) : Option CV :=
 hold (E0 lb n 0 994 (sub (B Qaz) [1, 1, 1, 1, 1, 1]) (retK Tryz.prog (R Qaz) 0 (outK (Qah Tryz.prog Qaz))) ⟨fr 73 [(0, .val (.list jg a2)), (1, vI b3), (4, .lst true true 61 []), (5, .ptr 0 5 0), (6, .clo QaM [.ptr 0 5 0]), (10, .val (.bool (decide (b3 > 99)))), (12, .clo QaM [.ptr 0 5 0]), (36, vI b3), (37, .val (.bool (decide (b3 < 0)))), (38, vB false), (39, vI b3), (40, .val (.bool (decide (b3 > 99)))), (41, .val (.bool (decide (b3 > 99))))], [bx 73 [(5, some [.lst true wq 61 l75])]], KK⟩)
noncomputable def QdK (lb n : Nat) (jg : Bool) (a2 : LL) (b3 : Int) (wq : Bool) (l75 : LL) (i76 : Int) : Option CV :=
 hold (E0 lb n 0 993 (sub (B Qaz) [1, 1, 1, 1, 1, 1, 1]) (retK Tryz.prog (R Qaz) 0 (outK (Qah Tryz.prog Qaz))) ⟨fr 73 [(0, .val (.list jg a2)), (1, vI i76), (4, .lst true true 61 []), (5, .ptr 0 5 0), (6, .clo QaM [.ptr 0 5 0]), (10, .val (.bool (decide (b3 > 99)))), (12, .clo QaM [.ptr 0 5 0]), (36, vI b3), (37, .val (.bool (decide (b3 < 0)))), (38, vB false), (39, vI b3), (40, .val (.bool (decide (b3 > 99)))), (41, .val (.bool (decide (b3 > 99))))], [bx 73 [(5, some [.lst true wq 61 l75])]], KK⟩)
theorem QjY (lb n : Nat) (jg : Bool) (a2 : LL) (b3 : Int) (wq : Bool) (l75 : LL) (i76 : Int) :
 QdK lb n jg a2 b3 wq l75 i76 =
 bif ((IntKind.wrap .i64 ((a2.length : Int) + i76)) == 0) then
 (chkO (room (l75.length + 1) 24) (
 optO (C lb n Qat [.list jg a2]) fun m8 =>
 optO (CV.asB m8) fun nu =>
 bif nu then
 (chkO (room ((l75 ++ [[CV.int .i64 4, CV.str [112, 97, 114, 116, 121]]]).length + 1) 24) (
 some (.list ((wq && false) && false) ((l75 ++ [[CV.int .i64 4, CV.str [112, 97, 114, 116, 121]]]) ++ [[CV.int .i64 25, CV.str [112, 97, 114, 116, 121]]]))))
 else
 (some (.list (wq && false) (l75 ++ [[CV.int .i64 4, CV.str [112, 97, 114, 116, 121]]])))))
 else
 (bif (i76 == 0) then
 (bif (decide ((a2.length : Int) > 9)) then
 (chkO (room (l75.length + 1) 24) (
 optO (C lb n Qat [.list jg a2]) fun nA =>
 optO (CV.asB nA) fun nP =>
 bif nP then
 (chkO (room ((l75 ++ [[CV.int .i64 4, CV.str [112, 97, 114, 116, 121]]]).length + 1) 24) (
 some (.list ((wq && false) && false) ((l75 ++ [[CV.int .i64 4, CV.str [112, 97, 114, 116, 121]]]) ++ [[CV.int .i64 25, CV.str [112, 97, 114, 116, 121]]]))))
 else
 (some (.list (wq && false) (l75 ++ [[CV.int .i64 4, CV.str [112, 97, 114, 116, 121]]])))))
 else
 (bif (decide ((IntKind.wrap .i64 ((a2.length : Int) + i76)) > 99)) then
 (chkO (room (l75.length + 1) 24) (
 optO (C lb n Qat [.list jg a2]) fun mN =>
 optO (CV.asB mN) fun nr =>
 bif nr then
 (chkO (room ((l75 ++ [[CV.int .i64 4, CV.str [112, 97, 114, 116, 121]]]).length + 1) 24) (
 some (.list ((wq && false) && false) ((l75 ++ [[CV.int .i64 4, CV.str [112, 97, 114, 116, 121]]]) ++ [[CV.int .i64 25, CV.str [112, 97, 114, 116, 121]]]))))
 else
 (some (.list (wq && false) (l75 ++ [[CV.int .i64 4, CV.str [112, 97, 114, 116, 121]]])))))
 else
 (optO (C lb n Qat [.list jg a2]) fun nZ =>
 optO (CV.asB nZ) fun nD =>
 bif nD then
 (chkO (room (l75.length + 1) 24) (
 some (.list (wq && false) (l75 ++ [[CV.int .i64 25, CV.str [112, 97, 114, 116, 121]]]))))
 else
 (some (.list wq l75)))))
 else
 (bif (decide ((IntKind.wrap .i64 ((a2.length : Int) + i76)) > 99)) then
 (chkO (room (l75.length + 1) 24) (
 optO (C lb n Qat [.list jg a2]) fun nX =>
 optO (CV.asB nX) fun nS =>
 bif nS then
 (chkO (room ((l75 ++ [[CV.int .i64 4, CV.str [112, 97, 114, 116, 121]]]).length + 1) 24) (
 some (.list ((wq && false) && false) ((l75 ++ [[CV.int .i64 4, CV.str [112, 97, 114, 116, 121]]]) ++ [[CV.int .i64 25, CV.str [112, 97, 114, 116, 121]]]))))
 else
 (some (.list (wq && false) (l75 ++ [[CV.int .i64 4, CV.str [112, 97, 114, 116, 121]]])))))
 else
 (optO (C lb n Qat [.list jg a2]) fun nK =>
 optO (CV.asB nK) fun ni =>
 bif ni then
 (chkO (room (l75.length + 1) 24) (
 some (.list (wq && false) (l75 ++ [[CV.int .i64 25, CV.str [112, 97, 114, 116, 121]]]))))
 else
 (some (.list wq l75))))) := (Qai _).trans (by kernel_rfl)
theorem QfV (lb n : Nat) (jg : Bool) (a2 : LL) (b3 : Int) (wq : Bool) (l75 : LL) :
 Qfj lb n jg a2 b3 wq l75 =
 bif (decide (b3 > 99)) then
 (QdK lb n jg a2 b3 wq l75 0)
 else
 (QdK lb n jg a2 b3 wq l75 b3) := (Qai _).trans (by kernel_rfl)
theorem QdT (lb n : Nat) (jg : Bool) (a2 : LL) (b3 : Int) (yF : Bool) (l57 : LL) :
 QeU lb n jg a2 b3 yF l57 =
 bif (decide (b3 < 0)) then
 (chkO (room (l57.length + 1) 24) (
 QhF lb n jg a2 b3 (yF && false) (l57 ++ [[CV.int .i64 2, CV.str [112, 97, 114, 116, 121]]])))
 else
 (bif (decide (b3 > 99)) then
 (chkO (room (l57.length + 1) 24) (
 Qfj lb n jg a2 b3 (yF && false) (l57 ++ [[CV.int .i64 2, CV.str [112, 97, 114, 116, 121]]])))
 else
 (Qfj lb n jg a2 b3 yF l57)) := (Qai _).trans (by kernel_rfl)
theorem QeO (lb n yC : Nat) (jg : Bool) (a2 : LL) (b3 ya : Int) (ym : Bool) (l29 : LL) :
 party_Check_L1 lb n (yC + 1) jg a2 b3 ya ym l29 =
 bif (decide (ya < (a2.length : Int))) then
 (optO (atL a2 ya) fun c44 =>
 chkO (c44.length == 3) (
 optO (c44[0]?) fun ki =>
 optO (c44[1]?) fun kC =>
 optO (c44[2]?) fun kH =>
 optO (C lb n Qck [.int .i64 ya]) fun nj =>
 optO (CV.asS nj) fun s49 =>
 chkO (decide (([112, 101, 114, 115, 111, 110, 32] : LB).length + s49.length ≤ 9223372036854775807)) (
 optO (C lb n Qec [.agg [ki, kC, kH]]) fun nz =>
 optO (CV.asB nz) fun nQ =>
 bif (!nQ) then
 (chkO (room (l29.length + 1) 24) (
 optO (C lb n Qcx [.agg [ki, kC, kH]]) fun n3 =>
 optO (CV.asB n3) fun mV =>
 bif (!mV) then
 (chkO (room ((l29 ++ [[CV.int .i64 5, CV.str (([112, 101, 114, 115, 111, 110, 32] : LB) ++ s49)]]).length + 1) 24) (
 party_Check_L1 lb n yC jg a2 b3 (IntKind.wrap .i64 (ya + 1)) ((ym && false) && false) ((l29 ++ [[CV.int .i64 5, CV.str (([112, 101, 114, 115, 111, 110, 32] : LB) ++ s49)]]) ++ [[CV.int .i64 8, CV.str (([112, 101, 114, 115, 111, 110, 32] : LB) ++ s49)]])))
 else
 (party_Check_L1 lb n yC jg a2 b3 (IntKind.wrap .i64 (ya + 1)) (ym && false) (l29 ++ [[CV.int .i64 5, CV.str (([112, 101, 114, 115, 111, 110, 32] : LB) ++ s49)]]))))
 else
 (optO (C lb n Qcx [.agg [ki, kC, kH]]) fun m7 =>
 optO (CV.asB m7) fun nO =>
 bif (!nO) then
 (chkO (room (l29.length + 1) 24) (
 party_Check_L1 lb n yC jg a2 b3 (IntKind.wrap .i64 (ya + 1)) (ym && false) (l29 ++ [[CV.int .i64 8, CV.str (([112, 101, 114, 115, 111, 110, 32] : LB) ++ s49)]])))
 else
 (party_Check_L1 lb n yC jg a2 b3 (IntKind.wrap .i64 (ya + 1)) ym l29)))))
 else
 (QeU lb n jg a2 b3 ym l29) := (Qai _).trans (by kernel_rfl)
theorem QlI (lb n : Nat) (jg : Bool) (a2 : LL) (b3 : Int) :
 top lb n Qaz [.list jg a2, .int .i64 b3] =
 party_Check_L1 lb n n jg a2 b3 0 true [] := by kernel_rfl
theorem QlF (lb n : Nat) (wN wL wH : LB) :
 top lb n Qec [.agg [.str wN, .str wL, .str wH]] =
 optO (C lb n Qa3 [.str wN]) fun r4 =>
 optO (CV.asB r4) fun b5 =>
 bif b5 then
 (optO (C lb n Qa3 [.str wL]) fun r6 =>
 some (r6))
 else
 (some (.bool false)) := by kernel_rfl
theorem QlN (lb n : Nat) (wN wL wH : LB) :
 top lb n Qcx [.agg [.str wN, .str wL, .str wH]] =
 optO (C lb n Qde [.str wH, .int .i64 3, .int .i64 3]) fun r4 =>
 some (r4) := by kernel_rfl
noncomputable def QbR (lb n yy : Nat) (jg : Bool) (a2 : LL) (i20 i21 : Int) : Option CV :=
 hold (QaA (E0 lb n 0 994) 0 (Qag (sub (B Qat) [1, 1, 0, 1, 0, 0]) ++ []) [5] (sub (B Qat) [1, 1, 0, 1, 0, 0]) (Qal 0 (seqK (E0 lb n 0 997) (sub (B Qat) [1, 1, 0]) (sub (B Qat) [1, 1, 1]) (retK Tryz.prog (R Qat) 0 (outK (Qah Tryz.prog Qat))))) yy ⟨fr 23 [(0, .val (.list jg a2)), (2, vB false), (3, vI i20), (6, .val (.list jg a2)), (7, .val (.int .i64 (a2.length : Int))), (8, vI i21)], [bx 23 []], KK⟩)
noncomputable def QhI (lb n : Nat) (jg : Bool) (a2 : LL) (vY : Int) : Option CV :=
 hold (E0 lb n 0 997 (sub (B Qat) [1, 1, 1]) (retK Tryz.prog (R Qat) 0 (outK (Qah Tryz.prog Qat))) ⟨fr 23 [(0, .val (.list jg a2)), (2, vB false), (3, vI vY)], [bx 23 []], KK⟩)
theorem QjX (lb n : Nat) (jg : Bool) (a2 : LL) (vY : Int) :
 QhI lb n jg a2 vY =
 some (.bool (decide (vY > 0))) := (Qai _).trans (by kernel_rfl)
theorem QeP (lb n yy : Nat) (jg : Bool) (a2 : LL) (i20 i21 : Int) :
 QbR lb n (yy + 1) jg a2 i20 i21 =
 bif (decide (i21 < (a2.length : Int))) then
 (optO (atL a2 i21) fun c34 =>
 chkO (c34.length == 3) (
 optO (c34[0]?) fun ka =>
 optO (c34[1]?) fun kb =>
 optO (c34[2]?) fun v7 =>
 optO (C lb n QcW [.agg [ka, kb, v7]]) fun nE =>
 optO (CV.asB nE) fun mS =>
 bif mS then
 (optO (C lb n Qdc [.agg [ka, kb, v7]]) fun mE =>
 optO (CV.asB mE) fun mH =>
 bif mH then
 (QbR lb n yy jg a2 (IntKind.wrap .i64 ((IntKind.wrap .i64 (i20 + 1)) - 1)) (IntKind.wrap .i64 (i21 + 1)))
 else
 (QbR lb n yy jg a2 (IntKind.wrap .i64 (i20 + 1)) (IntKind.wrap .i64 (i21 + 1))))
 else
 (optO (C lb n Qdc [.agg [ka, kb, v7]]) fun mT =>
 optO (CV.asB mT) fun nm =>
 bif nm then
 (QbR lb n yy jg a2 (IntKind.wrap .i64 (i20 - 1)) (IntKind.wrap .i64 (i21 + 1)))
 else
 (QbR lb n yy jg a2 i20 (IntKind.wrap .i64 (i21 + 1))))))
 else
 (QhI lb n jg a2 i20) := (Qai _).trans (by kernel_rfl)
theorem Qmd (lb n : Nat) (jg : Bool) (a2 : LL) :
 top lb n Qat [.list jg a2] =
 QbR lb n n jg a2 0 0 := by kernel_rfl
theorem QkU (lb n : Nat) (wN wL wH : LB) :
 top lb n QcW [.agg [.str wN, .str wL, .str wH]] =
 some (.bool (wH == [73, 78, 70])) := by kernel_rfl
theorem Ql7 (lb n : Nat) (wN wL wH : LB) :
 top lb n Qdc [.agg [.str wN, .str wL, .str wH]] =
 optO (C lb n QcW [.agg [.str wN, .str wL, .str wH]]) fun r4 =>
 optO (CV.asB r4) fun b5 =>
 bif (!b5) then
 (some (.bool (!(wH == [67, 72, 68]))))
 else
 (some (.bool false)) := by kernel_rfl
end Go.Proofs
