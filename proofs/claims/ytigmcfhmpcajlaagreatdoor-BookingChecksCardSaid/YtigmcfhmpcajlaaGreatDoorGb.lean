/- Equations of functions, printed by program. Conditions: none. -/
import Derived.Test.YtigmcfhmpcajlaaGreatDoorEv
namespace Go.Proofs
open Go.Am
set_option maxRecDepth 100000
set_option linter.unusedVariables false
noncomputable def party_Check_L1 :=
 fun lb n (yG : Nat) (jf : Bool) (a2 : LL) b3 yw (vh : Bool) (l29 : LL) =>
 hold (QaC (E0 lb n 0 993) 0 (Qak (sub (B QaB) [1, 1, 1, 0, 1, 0, 0]) ++ [7, 9]) [8] (sub (B QaB) [1, 1, 1, 0, 1, 0, 0]) (Qao 0 (seqK (E0 lb n 0 996) (sub (B QaB) [1, 1, 1, 0]) (sub (B QaB) [1, 1, 1, 1]) (retK Tryz.prog (R QaB) 0 (outK (Qaf Tryz.prog QaB))))) yG ⟨fr 73 [(0, .val (.list jf a2)), (1, vI b3), (4, .lst true true 61 []), (5, .ptr 0 5 0), (6, .clo QaW [.ptr 0 5 0]), (12, .clo QaW [.ptr 0 5 0]), (13, .val (.list jf a2)), (14, .val (.int .i64 (a2.length : Int))), (15, vI yw)], [bx 73 [(5, some [.lst true vh 61 l29])]], KK⟩)
noncomputable def QfY (lb n : Nat) (jf : Bool) (a2 : LL) (b3 : Int) (vg : Bool) (l57 : LL) : Option CV :=
 hold (E0 lb n 0 996 (sub (B QaB) [1, 1, 1, 1]) (retK Tryz.prog (R QaB) 0 (outK (Qaf Tryz.prog QaB))) ⟨fr 73 [(0, .val (.list jf a2)), (1, vI b3), (4, .lst true true 61 []), (5, .ptr 0 5 0), (6, .clo QaW [.ptr 0 5 0]), (12, .clo QaW [.ptr 0 5 0])], [bx 73 [(5, some [.lst true vg 61 l57])]], KK⟩)
noncomputable def Qiu (lb n : Nat) (jf : Bool) (a2 : LL) (b3 : Int) (wD : Bool) (l59 : LL) : Option CV :=
 hold (E0 lb n 0 994 (sub (B QaB) [1, 1, 1, 1, 1, 1]) (retK Tryz.prog (R QaB) 0 (outK (Qaf Tryz.prog QaB))) ⟨fr 73 [(0, .val (.list jf a2)), (1, vI b3), (4, .lst true true 61 []), (5, .ptr 0 5 0), (6, .clo QaW [.ptr 0 5 0]), (10, vB true), (12, .clo QaW [.ptr 0 5 0]), (36, vI b3), (37, .val (.bool (decide (b3 < 0)))), (38, vB true), (39, .undef), (40, .undef), (41, vB true)], [bx 73 [(5, some [.lst true wD 61 l59])]], KK⟩)
noncomputable def QfS (lb n : Nat) (jf : Bool) (a2 : LL) (b3 : Int) (wD : Bool) (l59 : LL) (i60 : Int) : Option CV :=
 hold (E0 lb n 0 993 (sub (B QaB) [1, 1, 1, 1, 1, 1, 1]) (retK Tryz.prog (R QaB) 0 (outK (Qaf Tryz.prog QaB))) ⟨fr 73 [(0, .val (.list jf a2)), (1, vI i60), (4, .lst true true 61 []), (5, .ptr 0 5 0), (6, .clo QaW [.ptr 0 5 0]), (10, vB true), (12, .clo QaW [.ptr 0 5 0]), (36, vI b3), (37, .val (.bool (decide (b3 < 0)))), (38, vB true), (39, .undef), (40, .undef), (41, vB true)], [bx 73 [(5, some [.lst true wD 61 l59])]], KK⟩)
theorem Qlj (lb n : Nat) (jf : Bool) (a2 : LL) (b3 : Int) (wD : Bool) (l59 : LL) (i60 : Int) :
 QfS lb n jf a2 b3 wD l59 i60 =
 bif ((IntKind.wrap .i64 ((a2.length : Int) + i60)) == 0) then
 (chkO (room (l59.length + 1) 24) (
 optO (C lb n Qas [.list jf a2]) fun qr =>
 optO (CV.asB qr) fun yt =>
 bif yt then
 (chkO (room ((l59 ++ [[CV.int .i64 4, CV.str [112, 97, 114, 116, 121]]]).length + 1) 24) (
 some (.list ((wD && false) && false) ((l59 ++ [[CV.int .i64 4, CV.str [112, 97, 114, 116, 121]]]) ++ [[CV.int .i64 25, CV.str [112, 97, 114, 116, 121]]]))))
 else
 (some (.list (wD && false) (l59 ++ [[CV.int .i64 4, CV.str [112, 97, 114, 116, 121]]])))))
 else
 (bif (i60 == 0) then
 (bif (decide ((a2.length : Int) > 9)) then
 (chkO (room (l59.length + 1) 24) (
 optO (C lb n Qas [.list jf a2]) fun qp =>
 optO (CV.asB qp) fun ph =>
 bif ph then
 (chkO (room ((l59 ++ [[CV.int .i64 4, CV.str [112, 97, 114, 116, 121]]]).length + 1) 24) (
 some (.list ((wD && false) && false) ((l59 ++ [[CV.int .i64 4, CV.str [112, 97, 114, 116, 121]]]) ++ [[CV.int .i64 25, CV.str [112, 97, 114, 116, 121]]]))))
 else
 (some (.list (wD && false) (l59 ++ [[CV.int .i64 4, CV.str [112, 97, 114, 116, 121]]])))))
 else
 (bif (decide ((IntKind.wrap .i64 ((a2.length : Int) + i60)) > 99)) then
 (chkO (room (l59.length + 1) 24) (
 optO (C lb n Qas [.list jf a2]) fun vn =>
 optO (CV.asB vn) fun qe =>
 bif qe then
 (chkO (room ((l59 ++ [[CV.int .i64 4, CV.str [112, 97, 114, 116, 121]]]).length + 1) 24) (
 some (.list ((wD && false) && false) ((l59 ++ [[CV.int .i64 4, CV.str [112, 97, 114, 116, 121]]]) ++ [[CV.int .i64 25, CV.str [112, 97, 114, 116, 121]]]))))
 else
 (some (.list (wD && false) (l59 ++ [[CV.int .i64 4, CV.str [112, 97, 114, 116, 121]]])))))
 else
 (optO (C lb n Qas [.list jf a2]) fun ql =>
 optO (CV.asB ql) fun yO =>
 bif yO then
 (chkO (room (l59.length + 1) 24) (
 some (.list (wD && false) (l59 ++ [[CV.int .i64 25, CV.str [112, 97, 114, 116, 121]]]))))
 else
 (some (.list wD l59)))))
 else
 (bif (decide ((IntKind.wrap .i64 ((a2.length : Int) + i60)) > 99)) then
 (chkO (room (l59.length + 1) 24) (
 optO (C lb n Qas [.list jf a2]) fun qa =>
 optO (CV.asB qa) fun pf =>
 bif pf then
 (chkO (room ((l59 ++ [[CV.int .i64 4, CV.str [112, 97, 114, 116, 121]]]).length + 1) 24) (
 some (.list ((wD && false) && false) ((l59 ++ [[CV.int .i64 4, CV.str [112, 97, 114, 116, 121]]]) ++ [[CV.int .i64 25, CV.str [112, 97, 114, 116, 121]]]))))
 else
 (some (.list (wD && false) (l59 ++ [[CV.int .i64 4, CV.str [112, 97, 114, 116, 121]]])))))
 else
 (optO (C lb n Qas [.list jf a2]) fun qv =>
 optO (CV.asB qv) fun pr =>
 bif pr then
 (chkO (room (l59.length + 1) 24) (
 some (.list (wD && false) (l59 ++ [[CV.int .i64 25, CV.str [112, 97, 114, 116, 121]]]))))
 else
 (some (.list wD l59))))) := (Qae _).trans (by kernel_rfl)
theorem Qln (lb n : Nat) (jf : Bool) (a2 : LL) (b3 : Int) (wD : Bool) (l59 : LL) :
 Qiu lb n jf a2 b3 wD l59 =
 QfS lb n jf a2 b3 wD l59 0 := (Qae _).trans (by kernel_rfl)
noncomputable def QfT (lb n : Nat) (jf : Bool) (a2 : LL) (b3 : Int) (w5 : Bool) (l75 : LL) : Option CV :=
 hold (E0 lb n 0 994 (sub (B QaB) [1, 1, 1, 1, 1, 1]) (retK Tryz.prog (R QaB) 0 (outK (Qaf Tryz.prog QaB))) ⟨fr 73 [(0, .val (.list jf a2)), (1, vI b3), (4, .lst true true 61 []), (5, .ptr 0 5 0), (6, .clo QaW [.ptr 0 5 0]), (10, .val (.bool (decide (b3 > 99)))), (12, .clo QaW [.ptr 0 5 0]), (36, vI b3), (37, .val (.bool (decide (b3 < 0)))), (38, vB false), (39, vI b3), (40, .val (.bool (decide (b3 > 99)))), (41, .val (.bool (decide (b3 > 99))))], [bx 73 [(5, some [.lst true w5 61 l75])]], KK⟩)
noncomputable def Qes (lb n : Nat) (jf : Bool) (a2 : LL) (b3 : Int) (w5 : Bool) (l75 : LL) (i76 : Int) : Option CV :=
 hold (E0 lb n 0 993 (sub (B QaB) [1, 1, 1, 1, 1, 1, 1]) (retK Tryz.prog (R QaB) 0 (outK (Qaf Tryz.prog QaB))) ⟨fr 73 [(0, .val (.list jf a2)), (1, vI i76), (4, .lst true true 61 []), (5, .ptr 0 5 0), (6, .clo QaW [.ptr 0 5 0]), (10, .val (.bool (decide (b3 > 99)))), (12, .clo QaW [.ptr 0 5 0]), (36, vI b3), (37, .val (.bool (decide (b3 < 0)))), (38, vB false), (39, vI b3), (40, .val (.bool (decide (b3 > 99)))), (41, .val (.bool (decide (b3 > 99))))], [bx 73 [(5, some [.lst true w5 61 l75])]], KK⟩)
theorem Qlh (lb n : Nat) (jf : Bool) (a2 : LL) (b3 : Int) (w5 : Bool) (l75 : LL) (i76 : Int) :
 Qes lb n jf a2 b3 w5 l75 i76 =
 bif ((IntKind.wrap .i64 ((a2.length : Int) + i76)) == 0) then
 (chkO (room (l75.length + 1) 24) (
 optO (C lb n Qas [.list jf a2]) fun pW =>
 optO (CV.asB pW) fun qs =>
 bif qs then
 (chkO (room ((l75 ++ [[CV.int .i64 4, CV.str [112, 97, 114, 116, 121]]]).length + 1) 24) (
 some (.list ((w5 && false) && false) ((l75 ++ [[CV.int .i64 4, CV.str [112, 97, 114, 116, 121]]]) ++ [[CV.int .i64 25, CV.str [112, 97, 114, 116, 121]]]))))
 else
 (some (.list (w5 && false) (l75 ++ [[CV.int .i64 4, CV.str [112, 97, 114, 116, 121]]])))))
 else
 (bif (i76 == 0) then
 (bif (decide ((a2.length : Int) > 9)) then
 (chkO (room (l75.length + 1) 24) (
 optO (C lb n Qas [.list jf a2]) fun qI =>
 optO (CV.asB qI) fun qf =>
 bif qf then
 (chkO (room ((l75 ++ [[CV.int .i64 4, CV.str [112, 97, 114, 116, 121]]]).length + 1) 24) (
 some (.list ((w5 && false) && false) ((l75 ++ [[CV.int .i64 4, CV.str [112, 97, 114, 116, 121]]]) ++ [[CV.int .i64 25, CV.str [112, 97, 114, 116, 121]]]))))
 else
 (some (.list (w5 && false) (l75 ++ [[CV.int .i64 4, CV.str [112, 97, 114, 116, 121]]])))))
 else
 (bif (decide ((IntKind.wrap .i64 ((a2.length : Int) + i76)) > 99)) then
 (chkO (room (l75.length + 1) 24) (
 optO (C lb n Qas [.list jf a2]) fun pE =>
 optO (CV.asB pE) fun qj =>
 bif qj then
 (chkO (room ((l75 ++ [[CV.int .i64 4, CV.str [112, 97, 114, 116, 121]]]).length + 1) 24) (
 some (.list ((w5 && false) && false) ((l75 ++ [[CV.int .i64 4, CV.str [112, 97, 114, 116, 121]]]) ++ [[CV.int .i64 25, CV.str [112, 97, 114, 116, 121]]]))))
 else
 (some (.list (w5 && false) (l75 ++ [[CV.int .i64 4, CV.str [112, 97, 114, 116, 121]]])))))
 else
 (optO (C lb n Qas [.list jf a2]) fun po =>
 optO (CV.asB po) fun pD =>
 bif pD then
 (chkO (room (l75.length + 1) 24) (
 some (.list (w5 && false) (l75 ++ [[CV.int .i64 25, CV.str [112, 97, 114, 116, 121]]]))))
 else
 (some (.list w5 l75)))))
 else
 (bif (decide ((IntKind.wrap .i64 ((a2.length : Int) + i76)) > 99)) then
 (chkO (room (l75.length + 1) 24) (
 optO (C lb n Qas [.list jf a2]) fun o4 =>
 optO (CV.asB o4) fun oE =>
 bif oE then
 (chkO (room ((l75 ++ [[CV.int .i64 4, CV.str [112, 97, 114, 116, 121]]]).length + 1) 24) (
 some (.list ((w5 && false) && false) ((l75 ++ [[CV.int .i64 4, CV.str [112, 97, 114, 116, 121]]]) ++ [[CV.int .i64 25, CV.str [112, 97, 114, 116, 121]]]))))
 else
 (some (.list (w5 && false) (l75 ++ [[CV.int .i64 4, CV.str [112, 97, 114, 116, 121]]])))))
 else
 (optO (C lb n Qas [.list jf a2]) fun wg =>
 optO (CV.asB wg) fun qM =>
 bif qM then
 (chkO (room (l75.length + 1) 24) (
 some (.list (w5 && false) (l75 ++ [[CV.int .i64 25, CV.str [112, 97, 114, 116, 121]]]))))
 else
 (some (.list w5 l75))))) := (Qae _).trans (by kernel_rfl)
theorem QgU (lb n : Nat) (jf : Bool) (a2 : LL) (b3 : Int) (w5 : Bool) (l75 : LL) :
 QfT lb n jf a2 b3 w5 l75 =
 bif (decide (b3 > 99)) then
 (Qes lb n jf a2 b3 w5 l75 0)
 else
 (Qes lb n jf a2 b3 w5 l75 b3) := (Qae _).trans (by kernel_rfl)
theorem Qey (lb n : Nat) (jf : Bool) (a2 : LL) (b3 : Int) (vg : Bool) (l57 : LL) :
 QfY lb n jf a2 b3 vg l57 =
 bif (decide (b3 < 0)) then
 (chkO (room (l57.length + 1) 24) (
 Qiu lb n jf a2 b3 (vg && false) (l57 ++ [[CV.int .i64 2, CV.str [112, 97, 114, 116, 121]]])))
 else
 (bif (decide (b3 > 99)) then
 (chkO (room (l57.length + 1) 24) (
 QfT lb n jf a2 b3 (vg && false) (l57 ++ [[CV.int .i64 2, CV.str [112, 97, 114, 116, 121]]])))
 else
 (QfT lb n jf a2 b3 vg l57)) := (Qae _).trans (by kernel_rfl)
theorem QfO (lb n yG : Nat) (jf : Bool) (a2 : LL) (b3 yw : Int) (vh : Bool) (l29 : LL) :
 party_Check_L1 lb n (yG + 1) jf a2 b3 yw vh l29 =
 bif (decide (yw < (a2.length : Int))) then
 (optO (atL a2 yw) fun c44 =>
 chkO (c44.length == 3) (
 optO (c44[0]?) fun kl =>
 optO (c44[1]?) fun y0 =>
 optO (c44[2]?) fun kg =>
 optO (C lb n QcD [.int .i64 yw]) fun qG =>
 optO (CV.asS qG) fun s49 =>
 chkO (decide (([112, 101, 114, 115, 111, 110, 32] : LB).length + s49.length ≤ 9223372036854775807)) (
 optO (C lb n QeT [.agg [kl, y0, kg]]) fun jD =>
 optO (CV.asB jD) fun n9 =>
 bif (!n9) then
 (chkO (room (l29.length + 1) 24) (
 optO (C lb n QcZ [.agg [kl, y0, kg]]) fun pX =>
 optO (CV.asB pX) fun pN =>
 bif (!pN) then
 (chkO (room ((l29 ++ [[CV.int .i64 5, CV.str (([112, 101, 114, 115, 111, 110, 32] : LB) ++ s49)]]).length + 1) 24) (
 party_Check_L1 lb n yG jf a2 b3 (IntKind.wrap .i64 (yw + 1)) ((vh && false) && false) ((l29 ++ [[CV.int .i64 5, CV.str (([112, 101, 114, 115, 111, 110, 32] : LB) ++ s49)]]) ++ [[CV.int .i64 8, CV.str (([112, 101, 114, 115, 111, 110, 32] : LB) ++ s49)]])))
 else
 (party_Check_L1 lb n yG jf a2 b3 (IntKind.wrap .i64 (yw + 1)) (vh && false) (l29 ++ [[CV.int .i64 5, CV.str (([112, 101, 114, 115, 111, 110, 32] : LB) ++ s49)]]))))
 else
 (optO (C lb n QcZ [.agg [kl, y0, kg]]) fun pS =>
 optO (CV.asB pS) fun pH =>
 bif (!pH) then
 (chkO (room (l29.length + 1) 24) (
 party_Check_L1 lb n yG jf a2 b3 (IntKind.wrap .i64 (yw + 1)) (vh && false) (l29 ++ [[CV.int .i64 8, CV.str (([112, 101, 114, 115, 111, 110, 32] : LB) ++ s49)]])))
 else
 (party_Check_L1 lb n yG jf a2 b3 (IntKind.wrap .i64 (yw + 1)) vh l29)))))
 else
 (QfY lb n jf a2 b3 vh l29) := (Qae _).trans (by kernel_rfl)
theorem QnO (lb n : Nat) (jf : Bool) (a2 : LL) (b3 : Int) :
 top lb n QaB [.list jf a2, .int .i64 b3] =
 party_Check_L1 lb n n jf a2 b3 0 true [] := by kernel_rfl
theorem QnX (lb n : Nat) (wZ wY wT : LB) :
 top lb n QeT [.agg [.str wZ, .str wY, .str wT]] =
 optO (C lb n Qbj [.str wZ]) fun r4 =>
 optO (CV.asB r4) fun b5 =>
 bif b5 then
 (optO (C lb n Qbj [.str wY]) fun r6 =>
 some (r6))
 else
 (some (.bool false)) := by kernel_rfl
theorem Qob (lb n : Nat) (wZ wY wT : LB) :
 top lb n QcZ [.agg [.str wZ, .str wY, .str wT]] =
 optO (C lb n QdK [.str wT, .int .i64 3, .int .i64 3]) fun r4 =>
 some (r4) := by kernel_rfl
noncomputable def Qcd (lb n vw : Nat) (jf : Bool) (a2 : LL) (i20 i21 : Int) : Option CV :=
 hold (QaC (E0 lb n 0 994) 0 (Qak (sub (B Qas) [1, 1, 0, 1, 0, 0]) ++ []) [5] (sub (B Qas) [1, 1, 0, 1, 0, 0]) (Qao 0 (seqK (E0 lb n 0 997) (sub (B Qas) [1, 1, 0]) (sub (B Qas) [1, 1, 1]) (retK Tryz.prog (R Qas) 0 (outK (Qaf Tryz.prog Qas))))) vw ⟨fr 23 [(0, .val (.list jf a2)), (2, vB false), (3, vI i20), (6, .val (.list jf a2)), (7, .val (.int .i64 (a2.length : Int))), (8, vI i21)], [bx 23 []], KK⟩)
noncomputable def QiK (lb n : Nat) (jf : Bool) (a2 : LL) (oq : Int) : Option CV :=
 hold (E0 lb n 0 997 (sub (B Qas) [1, 1, 1]) (retK Tryz.prog (R Qas) 0 (outK (Qaf Tryz.prog Qas))) ⟨fr 23 [(0, .val (.list jf a2)), (2, vB false), (3, vI oq)], [bx 23 []], KK⟩)
theorem Qll (lb n : Nat) (jf : Bool) (a2 : LL) (oq : Int) :
 QiK lb n jf a2 oq =
 some (.bool (decide (oq > 0))) := (Qae _).trans (by kernel_rfl)
theorem QfM (lb n vw : Nat) (jf : Bool) (a2 : LL) (i20 i21 : Int) :
 Qcd lb n (vw + 1) jf a2 i20 i21 =
 bif (decide (i21 < (a2.length : Int))) then
 (optO (atL a2 i21) fun c34 =>
 chkO (c34.length == 3) (
 optO (c34[0]?) fun vO =>
 optO (c34[1]?) fun k0 =>
 optO (c34[2]?) fun y6 =>
 optO (C lb n Qdm [.agg [vO, k0, y6]]) fun qw =>
 optO (CV.asB qw) fun pA =>
 bif pA then
 (optO (C lb n QdC [.agg [vO, k0, y6]]) fun qn =>
 optO (CV.asB qn) fun pR =>
 bif pR then
 (Qcd lb n vw jf a2 (IntKind.wrap .i64 ((IntKind.wrap .i64 (i20 + 1)) - 1)) (IntKind.wrap .i64 (i21 + 1)))
 else
 (Qcd lb n vw jf a2 (IntKind.wrap .i64 (i20 + 1)) (IntKind.wrap .i64 (i21 + 1))))
 else
 (optO (C lb n QdC [.agg [vO, k0, y6]]) fun p7 =>
 optO (CV.asB p7) fun pQ =>
 bif pQ then
 (Qcd lb n vw jf a2 (IntKind.wrap .i64 (i20 - 1)) (IntKind.wrap .i64 (i21 + 1)))
 else
 (Qcd lb n vw jf a2 i20 (IntKind.wrap .i64 (i21 + 1))))))
 else
 (QiK lb n jf a2 i20) := (Qae _).trans (by kernel_rfl)
theorem Qoj (lb n : Nat) (jf : Bool) (a2 : LL) :
 top lb n Qas [.list jf a2] =
 Qcd lb n n jf a2 0 0 := by kernel_rfl
theorem Qnx (lb n : Nat) (wZ wY wT : LB) :
 top lb n Qdm [.agg [.str wZ, .str wY, .str wT]] =
 some (.bool (wT == [73, 78, 70])) := by kernel_rfl
theorem Qoi (lb n : Nat) (wZ wY wT : LB) :
 top lb n QdC [.agg [.str wZ, .str wY, .str wT]] =
 optO (C lb n Qdm [.agg [.str wZ, .str wY, .str wT]]) fun r4 =>
 optO (CV.asB r4) fun b5 =>
 bif (!b5) then
 (some (.bool (!(wT == [67, 72, 68]))))
 else
 (some (.bool false)) := by kernel_rfl
end Go.Proofs
