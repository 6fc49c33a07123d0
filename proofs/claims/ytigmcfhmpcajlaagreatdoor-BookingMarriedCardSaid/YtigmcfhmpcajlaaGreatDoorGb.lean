/- Equations of functions, printed by program. Conditions: none. -/
import Derived.Test.YtigmcfhmpcajlaaGreatDoorEv
namespace Go.Proofs
open Go.Am
set_option maxRecDepth 100000
set_option linter.unusedVariables false
noncomputable def party_Check_L1 :=
 fun lb n (vf : Nat) (jf : Bool) (a2 : LL) b3 yU (ke : Bool) (l29 : LL) =>
 hold (Qau (E0 lb n 0 993) 0 (Qaj (sub (B QaJ) [1, 1, 1, 0, 1, 0, 0]) ++ [7, 9]) [8] (sub (B QaJ) [1, 1, 1, 0, 1, 0, 0]) (Qal 0 (seqK (E0 lb n 0 996) (sub (B QaJ) [1, 1, 1, 0]) (sub (B QaJ) [1, 1, 1, 1]) (retK Tryz.prog (R QaJ) 0 (outK (Qae Tryz.prog QaJ))))) vf ⟨fr 73 [(0, .val (.list jf a2)), (1, vI b3), (4, .lst true true 61 []), (5, .ptr 0 5 0), (6, .clo Qa5 [.ptr 0 5 0]), (12, .clo Qa5 [.ptr 0 5 0]), (13, .val (.list jf a2)), (14, .val (.int .i64 (a2.length : Int))), (15, vI yU)], [bx 73 [(5, some [.lst true ke 61 l29])]], KK⟩)
noncomputable def Qg8 (lb n : Nat) (jf : Bool) (a2 : LL) (b3 : Int) (kf : Bool) (l57 : LL) : Option CV :=
 hold (E0 lb n 0 996 (sub (B QaJ) [1, 1, 1, 1]) (retK Tryz.prog (R QaJ) 0 (outK (Qae Tryz.prog QaJ))) ⟨fr 73 [(0, .val (.list jf a2)), (1, vI b3), (4, .lst true true 61 []), (5, .ptr 0 5 0), (6, .clo Qa5 [.ptr 0 5 0]), (12, .clo Qa5 [.ptr 0 5 0])], [bx 73 [(5, some [.lst true kf 61 l57])]], KK⟩)
noncomputable def Qj9 (lb n : Nat) (jf : Bool) (a2 : LL) (b3 : Int) (wS : Bool) (l59 : LL) : Option CV :=
 hold (E0 lb n 0 994 (sub (B QaJ) [1, 1, 1, 1, 1, 1]) (retK Tryz.prog (R QaJ) 0 (outK (Qae Tryz.prog QaJ))) ⟨fr 73 [(0, .val (.list jf a2)), (1, vI b3), (4, .lst true true 61 []), (5, .ptr 0 5 0), (6, .clo Qa5 [.ptr 0 5 0]), (10, vB true), (12, .clo Qa5 [.ptr 0 5 0]), (36, vI b3), (37, .val (.bool (decide (b3 < 0)))), (38, vB true), (39, .undef), (40, .undef), (41, vB true)], [bx 73 [(5, some [.lst true wS 61 l59])]], KK⟩)
noncomputable def QgX (lb n : Nat) (jf : Bool) (a2 : LL) (b3 : Int) (wS : Bool) (l59 : LL) (i60 : Int) : Option CV :=
 hold (E0 lb n 0 993 (sub (B QaJ) [1, 1, 1, 1, 1, 1, 1]) (retK Tryz.prog (R QaJ) 0 (outK (Qae Tryz.prog QaJ))) ⟨fr 73 [(0, .val (.list jf a2)), (1, vI i60), (4, .lst true true 61 []), (5, .ptr 0 5 0), (6, .clo Qa5 [.ptr 0 5 0]), (10, vB true), (12, .clo Qa5 [.ptr 0 5 0]), (36, vI b3), (37, .val (.bool (decide (b3 < 0)))), (38, vB true), (39, .undef), (40, .undef), (41, vB true)], [bx 73 [(5, some [.lst true wS 61 l59])]], KK⟩)
theorem QmQ (lb n : Nat) (jf : Bool) (a2 : LL) (b3 : Int) (wS : Bool) (l59 : LL) (i60 : Int) :
 QgX lb n jf a2 b3 wS l59 i60 =
 bif ((IntKind.wrap .i64 ((a2.length : Int) + i60)) == 0) then
 (chkO (room (l59.length + 1) 24) (
 optO (C lb n Qaz [.list jf a2]) fun zJ =>
 optO (CV.asB zJ) fun yV =>
 bif yV then
 (chkO (room ((l59 ++ [[CV.int .i64 4, CV.str [112, 97, 114, 116, 121]]]).length + 1) 24) (
 some (.list ((wS && false) && false) ((l59 ++ [[CV.int .i64 4, CV.str [112, 97, 114, 116, 121]]]) ++ [[CV.int .i64 25, CV.str [112, 97, 114, 116, 121]]]))))
 else
 (some (.list (wS && false) (l59 ++ [[CV.int .i64 4, CV.str [112, 97, 114, 116, 121]]])))))
 else
 (bif (i60 == 0) then
 (bif (decide ((a2.length : Int) > 9)) then
 (chkO (room (l59.length + 1) 24) (
 optO (C lb n Qaz [.list jf a2]) fun sy =>
 optO (CV.asB sy) fun zY =>
 bif zY then
 (chkO (room ((l59 ++ [[CV.int .i64 4, CV.str [112, 97, 114, 116, 121]]]).length + 1) 24) (
 some (.list ((wS && false) && false) ((l59 ++ [[CV.int .i64 4, CV.str [112, 97, 114, 116, 121]]]) ++ [[CV.int .i64 25, CV.str [112, 97, 114, 116, 121]]]))))
 else
 (some (.list (wS && false) (l59 ++ [[CV.int .i64 4, CV.str [112, 97, 114, 116, 121]]])))))
 else
 (bif (decide ((IntKind.wrap .i64 ((a2.length : Int) + i60)) > 99)) then
 (chkO (room (l59.length + 1) 24) (
 optO (C lb n Qaz [.list jf a2]) fun kJ =>
 optO (CV.asB kJ) fun zu =>
 bif zu then
 (chkO (room ((l59 ++ [[CV.int .i64 4, CV.str [112, 97, 114, 116, 121]]]).length + 1) 24) (
 some (.list ((wS && false) && false) ((l59 ++ [[CV.int .i64 4, CV.str [112, 97, 114, 116, 121]]]) ++ [[CV.int .i64 25, CV.str [112, 97, 114, 116, 121]]]))))
 else
 (some (.list (wS && false) (l59 ++ [[CV.int .i64 4, CV.str [112, 97, 114, 116, 121]]])))))
 else
 (optO (C lb n Qaz [.list jf a2]) fun zL =>
 optO (CV.asB zL) fun vr =>
 bif vr then
 (chkO (room (l59.length + 1) 24) (
 some (.list (wS && false) (l59 ++ [[CV.int .i64 25, CV.str [112, 97, 114, 116, 121]]]))))
 else
 (some (.list wS l59)))))
 else
 (bif (decide ((IntKind.wrap .i64 ((a2.length : Int) + i60)) > 99)) then
 (chkO (room (l59.length + 1) 24) (
 optO (C lb n Qaz [.list jf a2]) fun zp =>
 optO (CV.asB zp) fun zt =>
 bif zt then
 (chkO (room ((l59 ++ [[CV.int .i64 4, CV.str [112, 97, 114, 116, 121]]]).length + 1) 24) (
 some (.list ((wS && false) && false) ((l59 ++ [[CV.int .i64 4, CV.str [112, 97, 114, 116, 121]]]) ++ [[CV.int .i64 25, CV.str [112, 97, 114, 116, 121]]]))))
 else
 (some (.list (wS && false) (l59 ++ [[CV.int .i64 4, CV.str [112, 97, 114, 116, 121]]])))))
 else
 (optO (C lb n Qaz [.list jf a2]) fun gV =>
 optO (CV.asB gV) fun ma =>
 bif ma then
 (chkO (room (l59.length + 1) 24) (
 some (.list (wS && false) (l59 ++ [[CV.int .i64 25, CV.str [112, 97, 114, 116, 121]]]))))
 else
 (some (.list wS l59))))) := (Qaf _).trans (by kernel_rfl)
theorem Qm2 (lb n : Nat) (jf : Bool) (a2 : LL) (b3 : Int) (wS : Bool) (l59 : LL) :
 Qj9 lb n jf a2 b3 wS l59 =
 QgX lb n jf a2 b3 wS l59 0 := (Qaf _).trans (by kernel_rfl)
noncomputable def Qg5 (lb n : Nat) (jf : Bool) (a2 : LL) (b3 : Int) (yy : Bool) (l75 : LL) : Option CV :=
 hold (E0 lb n 0 994 (sub (B QaJ) [1, 1, 1, 1, 1, 1]) (retK Tryz.prog (R QaJ) 0 (outK (Qae Tryz.prog QaJ))) ⟨fr 73 [(0, .val (.list jf a2)), (1, vI b3), (4, .lst true true 61 []), (5, .ptr 0 5 0), (6, .clo Qa5 [.ptr 0 5 0]), (10, .val (.bool (decide (b3 > 99)))), (12, .clo Qa5 [.ptr 0 5 0]), (36, vI b3), (37, .val (.bool (decide (b3 < 0)))), (38, vB false), (39, vI b3), (40, .val (.bool (decide (b3 > 99)))), (41, .val (.bool (decide (b3 > 99))))], [bx 73 [(5, some [.lst true yy 61 l75])]], KK⟩)
noncomputable def Qe9 (lb n : Nat) (jf : Bool) (a2 : LL) (b3 : Int) (yy : Bool) (l75 : LL) (i76 : Int) : Option CV :=
 hold (E0 lb n 0 993 (sub (B QaJ) [1, 1, 1, 1, 1, 1, 1]) (retK Tryz.prog (R QaJ) 0 (outK (Qae Tryz.prog QaJ))) ⟨fr 73 [(0, .val (.list jf a2)), (1, vI i76), (4, .lst true true 61 []), (5, .ptr 0 5 0), (6, .clo Qa5 [.ptr 0 5 0]), (10, .val (.bool (decide (b3 > 99)))), (12, .clo Qa5 [.ptr 0 5 0]), (36, vI b3), (37, .val (.bool (decide (b3 < 0)))), (38, vB false), (39, vI b3), (40, .val (.bool (decide (b3 > 99)))), (41, .val (.bool (decide (b3 > 99))))], [bx 73 [(5, some [.lst true yy 61 l75])]], KK⟩)
theorem QmU (lb n : Nat) (jf : Bool) (a2 : LL) (b3 : Int) (yy : Bool) (l75 : LL) (i76 : Int) :
 Qe9 lb n jf a2 b3 yy l75 i76 =
 bif ((IntKind.wrap .i64 ((a2.length : Int) + i76)) == 0) then
 (chkO (room (l75.length + 1) 24) (
 optO (C lb n Qaz [.list jf a2]) fun zw =>
 optO (CV.asB zw) fun zB =>
 bif zB then
 (chkO (room ((l75 ++ [[CV.int .i64 4, CV.str [112, 97, 114, 116, 121]]]).length + 1) 24) (
 some (.list ((yy && false) && false) ((l75 ++ [[CV.int .i64 4, CV.str [112, 97, 114, 116, 121]]]) ++ [[CV.int .i64 25, CV.str [112, 97, 114, 116, 121]]]))))
 else
 (some (.list (yy && false) (l75 ++ [[CV.int .i64 4, CV.str [112, 97, 114, 116, 121]]])))))
 else
 (bif (i76 == 0) then
 (bif (decide ((a2.length : Int) > 9)) then
 (chkO (room (l75.length + 1) 24) (
 optO (C lb n Qaz [.list jf a2]) fun lw =>
 optO (CV.asB lw) fun zf =>
 bif zf then
 (chkO (room ((l75 ++ [[CV.int .i64 4, CV.str [112, 97, 114, 116, 121]]]).length + 1) 24) (
 some (.list ((yy && false) && false) ((l75 ++ [[CV.int .i64 4, CV.str [112, 97, 114, 116, 121]]]) ++ [[CV.int .i64 25, CV.str [112, 97, 114, 116, 121]]]))))
 else
 (some (.list (yy && false) (l75 ++ [[CV.int .i64 4, CV.str [112, 97, 114, 116, 121]]])))))
 else
 (bif (decide ((IntKind.wrap .i64 ((a2.length : Int) + i76)) > 99)) then
 (chkO (room (l75.length + 1) 24) (
 optO (C lb n Qaz [.list jf a2]) fun zA =>
 optO (CV.asB zA) fun zg =>
 bif zg then
 (chkO (room ((l75 ++ [[CV.int .i64 4, CV.str [112, 97, 114, 116, 121]]]).length + 1) 24) (
 some (.list ((yy && false) && false) ((l75 ++ [[CV.int .i64 4, CV.str [112, 97, 114, 116, 121]]]) ++ [[CV.int .i64 25, CV.str [112, 97, 114, 116, 121]]]))))
 else
 (some (.list (yy && false) (l75 ++ [[CV.int .i64 4, CV.str [112, 97, 114, 116, 121]]])))))
 else
 (optO (C lb n Qaz [.list jf a2]) fun ly =>
 optO (CV.asB ly) fun sC =>
 bif sC then
 (chkO (room (l75.length + 1) 24) (
 some (.list (yy && false) (l75 ++ [[CV.int .i64 25, CV.str [112, 97, 114, 116, 121]]]))))
 else
 (some (.list yy l75)))))
 else
 (bif (decide ((IntKind.wrap .i64 ((a2.length : Int) + i76)) > 99)) then
 (chkO (room (l75.length + 1) 24) (
 optO (C lb n Qaz [.list jf a2]) fun mR =>
 optO (CV.asB mR) fun mN =>
 bif mN then
 (chkO (room ((l75 ++ [[CV.int .i64 4, CV.str [112, 97, 114, 116, 121]]]).length + 1) 24) (
 some (.list ((yy && false) && false) ((l75 ++ [[CV.int .i64 4, CV.str [112, 97, 114, 116, 121]]]) ++ [[CV.int .i64 25, CV.str [112, 97, 114, 116, 121]]]))))
 else
 (some (.list (yy && false) (l75 ++ [[CV.int .i64 4, CV.str [112, 97, 114, 116, 121]]])))))
 else
 (optO (C lb n Qaz [.list jf a2]) fun wm =>
 optO (CV.asB wm) fun zI =>
 bif zI then
 (chkO (room (l75.length + 1) 24) (
 some (.list (yy && false) (l75 ++ [[CV.int .i64 25, CV.str [112, 97, 114, 116, 121]]]))))
 else
 (some (.list yy l75))))) := (Qaf _).trans (by kernel_rfl)
theorem Qie (lb n : Nat) (jf : Bool) (a2 : LL) (b3 : Int) (yy : Bool) (l75 : LL) :
 Qg5 lb n jf a2 b3 yy l75 =
 bif (decide (b3 > 99)) then
 (Qe9 lb n jf a2 b3 yy l75 0)
 else
 (Qe9 lb n jf a2 b3 yy l75 b3) := (Qaf _).trans (by kernel_rfl)
theorem Qfo (lb n : Nat) (jf : Bool) (a2 : LL) (b3 : Int) (kf : Bool) (l57 : LL) :
 Qg8 lb n jf a2 b3 kf l57 =
 bif (decide (b3 < 0)) then
 (chkO (room (l57.length + 1) 24) (
 Qj9 lb n jf a2 b3 (kf && false) (l57 ++ [[CV.int .i64 2, CV.str [112, 97, 114, 116, 121]]])))
 else
 (bif (decide (b3 > 99)) then
 (chkO (room (l57.length + 1) 24) (
 Qg5 lb n jf a2 b3 (kf && false) (l57 ++ [[CV.int .i64 2, CV.str [112, 97, 114, 116, 121]]])))
 else
 (Qg5 lb n jf a2 b3 kf l57)) := (Qaf _).trans (by kernel_rfl)
theorem QgI (lb n vf : Nat) (jf : Bool) (a2 : LL) (b3 yU : Int) (ke : Bool) (l29 : LL) :
 party_Check_L1 lb n (vf + 1) jf a2 b3 yU ke l29 =
 bif (decide (yU < (a2.length : Int))) then
 (optO (atL a2 yU) fun c44 =>
 chkO (c44.length == 3) (
 optO (c44[0]?) fun oJ =>
 optO (c44[1]?) fun vH =>
 optO (c44[2]?) fun oE =>
 optO (C lb n Qdf [.int .i64 yU]) fun sW =>
 optO (CV.asS sW) fun s49 =>
 chkO (decide (([112, 101, 114, 115, 111, 110, 32] : LB).length + s49.length ≤ 9223372036854775807)) (
 optO (C lb n QfK [.agg [oJ, vH, oE]]) fun jF =>
 optO (CV.asB jF) fun lg =>
 bif (!lg) then
 (chkO (room (l29.length + 1) 24) (
 optO (C lb n QdC [.agg [oJ, vH, oE]]) fun zG =>
 optO (CV.asB zG) fun sH =>
 bif (!sH) then
 (chkO (room ((l29 ++ [[CV.int .i64 5, CV.str (([112, 101, 114, 115, 111, 110, 32] : LB) ++ s49)]]).length + 1) 24) (
 party_Check_L1 lb n vf jf a2 b3 (IntKind.wrap .i64 (yU + 1)) ((ke && false) && false) ((l29 ++ [[CV.int .i64 5, CV.str (([112, 101, 114, 115, 111, 110, 32] : LB) ++ s49)]]) ++ [[CV.int .i64 8, CV.str (([112, 101, 114, 115, 111, 110, 32] : LB) ++ s49)]])))
 else
 (party_Check_L1 lb n vf jf a2 b3 (IntKind.wrap .i64 (yU + 1)) (ke && false) (l29 ++ [[CV.int .i64 5, CV.str (([112, 101, 114, 115, 111, 110, 32] : LB) ++ s49)]]))))
 else
 (optO (C lb n QdC [.agg [oJ, vH, oE]]) fun lu =>
 optO (CV.asB lu) fun zr =>
 bif (!zr) then
 (chkO (room (l29.length + 1) 24) (
 party_Check_L1 lb n vf jf a2 b3 (IntKind.wrap .i64 (yU + 1)) (ke && false) (l29 ++ [[CV.int .i64 8, CV.str (([112, 101, 114, 115, 111, 110, 32] : LB) ++ s49)]])))
 else
 (party_Check_L1 lb n vf jf a2 b3 (IntKind.wrap .i64 (yU + 1)) ke l29)))))
 else
 (Qg8 lb n jf a2 b3 ke l29) := (Qaf _).trans (by kernel_rfl)
theorem Qpy (lb n : Nat) (jf : Bool) (a2 : LL) (b3 : Int) :
 top lb n QaJ [.list jf a2, .int .i64 b3] =
 party_Check_L1 lb n n jf a2 b3 0 true [] := by kernel_rfl
theorem QpV (lb n : Nat) (yo yq yf : LB) :
 top lb n QfK [.agg [.str yo, .str yq, .str yf]] =
 optO (C lb n Qbx [.str yo]) fun r4 =>
 optO (CV.asB r4) fun b5 =>
 bif b5 then
 (optO (C lb n Qbx [.str yq]) fun r6 =>
 some (r6))
 else
 (some (.bool false)) := by kernel_rfl
theorem Qp0 (lb n : Nat) (yo yq yf : LB) :
 top lb n QdC [.agg [.str yo, .str yq, .str yf]] =
 optO (C lb n Qev [.str yf, .int .i64 3, .int .i64 3]) fun r4 =>
 some (r4) := by kernel_rfl
noncomputable def QcC (lb n ky : Nat) (jf : Bool) (a2 : LL) (i20 i21 : Int) : Option CV :=
 hold (Qau (E0 lb n 0 994) 0 (Qaj (sub (B Qaz) [1, 1, 0, 1, 0, 0]) ++ []) [5] (sub (B Qaz) [1, 1, 0, 1, 0, 0]) (Qal 0 (seqK (E0 lb n 0 997) (sub (B Qaz) [1, 1, 0]) (sub (B Qaz) [1, 1, 1]) (retK Tryz.prog (R Qaz) 0 (outK (Qae Tryz.prog Qaz))))) ky ⟨fr 23 [(0, .val (.list jf a2)), (2, vB false), (3, vI i20), (6, .val (.list jf a2)), (7, .val (.int .i64 (a2.length : Int))), (8, vI i21)], [bx 23 []], KK⟩)
noncomputable def Qkd (lb n : Nat) (jf : Bool) (a2 : LL) (y0 : Int) : Option CV :=
 hold (E0 lb n 0 997 (sub (B Qaz) [1, 1, 1]) (retK Tryz.prog (R Qaz) 0 (outK (Qae Tryz.prog Qaz))) ⟨fr 23 [(0, .val (.list jf a2)), (2, vB false), (3, vI y0)], [bx 23 []], KK⟩)
theorem Qm7 (lb n : Nat) (jf : Bool) (a2 : LL) (y0 : Int) :
 Qkd lb n jf a2 y0 =
 some (.bool (decide (y0 > 0))) := (Qaf _).trans (by kernel_rfl)
theorem QgO (lb n ky : Nat) (jf : Bool) (a2 : LL) (i20 i21 : Int) :
 QcC lb n (ky + 1) jf a2 i20 i21 =
 bif (decide (i21 < (a2.length : Int))) then
 (optO (atL a2 i21) fun c34 =>
 chkO (c34.length == 3) (
 optO (c34[0]?) fun gI =>
 optO (c34[1]?) fun kQ =>
 optO (c34[2]?) fun vR =>
 optO (C lb n QdY [.agg [gI, kQ, vR]]) fun sI =>
 optO (CV.asB sI) fun s9 =>
 bif s9 then
 (optO (C lb n Qel [.agg [gI, kQ, vR]]) fun zz =>
 optO (CV.asB zz) fun sX =>
 bif sX then
 (QcC lb n ky jf a2 (IntKind.wrap .i64 ((IntKind.wrap .i64 (i20 + 1)) - 1)) (IntKind.wrap .i64 (i21 + 1)))
 else
 (QcC lb n ky jf a2 (IntKind.wrap .i64 (i20 + 1)) (IntKind.wrap .i64 (i21 + 1))))
 else
 (optO (C lb n Qel [.agg [gI, kQ, vR]]) fun sQ =>
 optO (CV.asB sQ) fun sY =>
 bif sY then
 (QcC lb n ky jf a2 (IntKind.wrap .i64 (i20 - 1)) (IntKind.wrap .i64 (i21 + 1)))
 else
 (QcC lb n ky jf a2 i20 (IntKind.wrap .i64 (i21 + 1))))))
 else
 (Qkd lb n jf a2 i20) := (Qaf _).trans (by kernel_rfl)
theorem Qqb (lb n : Nat) (jf : Bool) (a2 : LL) :
 top lb n Qaz [.list jf a2] =
 QcC lb n n jf a2 0 0 := by kernel_rfl
theorem QoA (lb n : Nat) (yo yq yf : LB) :
 top lb n QdY [.agg [.str yo, .str yq, .str yf]] =
 some (.bool (yf == [73, 78, 70])) := by kernel_rfl
theorem QpQ (lb n : Nat) (yo yq yf : LB) :
 top lb n Qel [.agg [.str yo, .str yq, .str yf]] =
 optO (C lb n QdY [.agg [.str yo, .str yq, .str yf]]) fun r4 =>
 optO (CV.asB r4) fun b5 =>
 bif (!b5) then
 (some (.bool (!(yf == [67, 72, 68]))))
 else
 (some (.bool false)) := by kernel_rfl
end Go.Proofs
