/- Equations of functions, printed by program. Conditions: none. -/
import Derived.Test.YtigmcfhmpcajlaaGreatDoorEv
namespace Go.Proofs
open Go.Am
set_option maxRecDepth 100000
set_option linter.unusedVariables false
noncomputable def party_Check_L1 :=
 fun lb n (vL : Nat) (jk : Bool) (a2 : LL) b3 vd (ov : Bool) (v8 : LL) =>
 hold (Qaw (E0 lb n 0 993) 0 (Qah (sub (B QaK) [1,1,1,0,1,0,0]) ++ [7,9]) [8] (sub (B QaK) [1,1,1,0,1,0,0]) (Qap 0 (seqK (E0 lb n 0 996) (sub (B QaK) [1,1,1,0]) (sub (B QaK) [1,1,1,1]) (retK Tryz.prog (R QaK) 0 (outK (Qad Tryz.prog QaK))))) vL ⟨fr 73 [(0, .val (.list jk a2)),(1,vI b3),(4, .lst true true 61 []),(5, .ptr 0 5 0),(6, .clo Qbj [.ptr 0 5 0]),(12, .clo Qbj [.ptr 0 5 0]),(13, .val (.list jk a2)),(14, .val (.int .i64 (a2.length : Int))),(15,vI vd)],[bx 73 [(5,some [.lst true ov 61 v8])]],KK⟩)
noncomputable def QhA (lb n : Nat) (jk : Bool) (a2 : LL) (b3 : Int) (ou : Bool) (oj : LL) : Option CV :=
 hold (E0 lb n 0 996 (sub (B QaK) [1,1,1,1]) (retK Tryz.prog (R QaK) 0 (outK (Qad Tryz.prog QaK))) ⟨fr 73 [(0, .val (.list jk a2)),(1,vI b3),(4, .lst true true 61 []),(5, .ptr 0 5 0),(6, .clo Qbj [.ptr 0 5 0]),(12, .clo Qbj [.ptr 0 5 0])],[bx 73 [(5,some [.lst true ou 61 oj])]],KK⟩)
noncomputable def QkV (lb n : Nat) (jk : Bool) (a2 : LL) (b3 : Int) (wR : Bool) (wB : LL) : Option CV :=
 hold (E0 lb n 0 994 (sub (B QaK) [1,1,1,1,1,1]) (retK Tryz.prog (R QaK) 0 (outK (Qad Tryz.prog QaK))) ⟨fr 73 [(0, .val (.list jk a2)),(1,vI b3),(4, .lst true true 61 []),(5, .ptr 0 5 0),(6, .clo Qbj [.ptr 0 5 0]),(10,vB true),(12, .clo Qbj [.ptr 0 5 0]),(36,vI b3),(37, .val (.bool (decide (b3 < 0)))),(38,vB true),(39, .undef),(40, .undef),(41,vB true)],[bx 73 [(5,some [.lst true wR 61 wB])]],KK⟩)
noncomputable def QhO (lb n : Nat) (jk : Bool) (a2 : LL) (b3 : Int) (wR : Bool) (wB : LL) (yp : Int) : Option CV :=
 hold (E0 lb n 0 993 (sub (B QaK) [1,1,1,1,1,1,1]) (retK Tryz.prog (R QaK) 0 (outK (Qad Tryz.prog QaK))) ⟨fr 73 [(0, .val (.list jk a2)),(1,vI yp),(4, .lst true true 61 []),(5, .ptr 0 5 0),(6, .clo Qbj [.ptr 0 5 0]),(10,vB true),(12, .clo Qbj [.ptr 0 5 0]),(36,vI b3),(37, .val (.bool (decide (b3 < 0)))),(38,vB true),(39, .undef),(40, .undef),(41,vB true)],[bx 73 [(5,some [.lst true wR 61 wB])]],KK⟩)
theorem Qof (lb n : Nat) (jk : Bool) (a2 : LL) (b3 : Int) (wR : Bool) (wB : LL) (yp : Int) :
 QhO lb n jk a2 b3 wR wB yp =
 bif ((IntKind.wrap .i64 ((a2.length : Int) + yp)) == 0) then
 (chkO (room (wB.length + 1) 24) (
 optO (C lb n Qay [.list jk a2]) fun r7 =>
 optO (CV.asB r7) fun vi =>
 bif vi then
 (chkO (room ((wB ++ [[CV.int .i64 4,CV.str [112,97,114,116,121]]]).length + 1) 24) (
 some (.list ((wR && false) && false) ((wB ++ [[CV.int .i64 4,CV.str [112,97,114,116,121]]]) ++ [[CV.int .i64 25,CV.str [112,97,114,116,121]]]))))
 else
 (some (.list (wR && false) (wB ++ [[CV.int .i64 4,CV.str [112,97,114,116,121]]])))))
 else
 (bif (yp == 0) then
 (bif (decide ((a2.length : Int) > 9)) then
 (chkO (room (wB.length + 1) 24) (
 optO (C lb n Qay [.list jk a2]) fun tv =>
 optO (CV.asB tv) fun rY =>
 bif rY then
 (chkO (room ((wB ++ [[CV.int .i64 4,CV.str [112,97,114,116,121]]]).length + 1) 24) (
 some (.list ((wR && false) && false) ((wB ++ [[CV.int .i64 4,CV.str [112,97,114,116,121]]]) ++ [[CV.int .i64 25,CV.str [112,97,114,116,121]]]))))
 else
 (some (.list (wR && false) (wB ++ [[CV.int .i64 4,CV.str [112,97,114,116,121]]])))))
 else
 (bif (decide ((IntKind.wrap .i64 ((a2.length : Int) + yp)) > 99)) then
 (chkO (room (wB.length + 1) 24) (
 optO (C lb n Qay [.list jk a2]) fun o5 =>
 optO (CV.asB o5) fun rx =>
 bif rx then
 (chkO (room ((wB ++ [[CV.int .i64 4,CV.str [112,97,114,116,121]]]).length + 1) 24) (
 some (.list ((wR && false) && false) ((wB ++ [[CV.int .i64 4,CV.str [112,97,114,116,121]]]) ++ [[CV.int .i64 25,CV.str [112,97,114,116,121]]]))))
 else
 (some (.list (wR && false) (wB ++ [[CV.int .i64 4,CV.str [112,97,114,116,121]]])))))
 else
 (optO (C lb n Qay [.list jk a2]) fun ub =>
 optO (CV.asB ub) fun kk =>
 bif kk then
 (chkO (room (wB.length + 1) 24) (
 some (.list (wR && false) (wB ++ [[CV.int .i64 25,CV.str [112,97,114,116,121]]]))))
 else
 (some (.list wR wB)))))
 else
 (bif (decide ((IntKind.wrap .i64 ((a2.length : Int) + yp)) > 99)) then
 (chkO (room (wB.length + 1) 24) (
 optO (C lb n Qay [.list jk a2]) fun rG =>
 optO (CV.asB rG) fun rL =>
 bif rL then
 (chkO (room ((wB ++ [[CV.int .i64 4,CV.str [112,97,114,116,121]]]).length + 1) 24) (
 some (.list ((wR && false) && false) ((wB ++ [[CV.int .i64 4,CV.str [112,97,114,116,121]]]) ++ [[CV.int .i64 25,CV.str [112,97,114,116,121]]]))))
 else
 (some (.list (wR && false) (wB ++ [[CV.int .i64 4,CV.str [112,97,114,116,121]]])))))
 else
 (optO (C lb n Qay [.list jk a2]) fun rI =>
 optO (CV.asB rI) fun tN =>
 bif tN then
 (chkO (room (wB.length + 1) 24) (
 some (.list (wR && false) (wB ++ [[CV.int .i64 25,CV.str [112,97,114,116,121]]]))))
 else
 (some (.list wR wB))))) := (Qab _).trans (by kernel_rfl)
theorem Qob (lb n : Nat) (jk : Bool) (a2 : LL) (b3 : Int) (wR : Bool) (wB : LL) :
 QkV lb n jk a2 b3 wR wB =
 QhO lb n jk a2 b3 wR wB 0 := (Qab _).trans (by kernel_rfl)
noncomputable def QhU (lb n : Nat) (jk : Bool) (a2 : LL) (b3 : Int) (yH : Bool) (yh : LL) : Option CV :=
 hold (E0 lb n 0 994 (sub (B QaK) [1,1,1,1,1,1]) (retK Tryz.prog (R QaK) 0 (outK (Qad Tryz.prog QaK))) ⟨fr 73 [(0, .val (.list jk a2)),(1,vI b3),(4, .lst true true 61 []),(5, .ptr 0 5 0),(6, .clo Qbj [.ptr 0 5 0]),(10, .val (.bool (decide (b3 > 99)))),(12, .clo Qbj [.ptr 0 5 0]),(36,vI b3),(37, .val (.bool (decide (b3 < 0)))),(38,vB false),(39,vI b3),(40, .val (.bool (decide (b3 > 99)))),(41, .val (.bool (decide (b3 > 99))))],[bx 73 [(5,some [.lst true yH 61 yh])]],KK⟩)
noncomputable def QfL (lb n : Nat) (jk : Bool) (a2 : LL) (b3 : Int) (yH : Bool) (yh : LL) (i76 : Int) : Option CV :=
 hold (E0 lb n 0 993 (sub (B QaK) [1,1,1,1,1,1,1]) (retK Tryz.prog (R QaK) 0 (outK (Qad Tryz.prog QaK))) ⟨fr 73 [(0, .val (.list jk a2)),(1,vI i76),(4, .lst true true 61 []),(5, .ptr 0 5 0),(6, .clo Qbj [.ptr 0 5 0]),(10, .val (.bool (decide (b3 > 99)))),(12, .clo Qbj [.ptr 0 5 0]),(36,vI b3),(37, .val (.bool (decide (b3 < 0)))),(38,vB false),(39,vI b3),(40, .val (.bool (decide (b3 > 99)))),(41, .val (.bool (decide (b3 > 99))))],[bx 73 [(5,some [.lst true yH 61 yh])]],KK⟩)
theorem Qn3 (lb n : Nat) (jk : Bool) (a2 : LL) (b3 : Int) (yH : Bool) (yh : LL) (i76 : Int) :
 QfL lb n jk a2 b3 yH yh i76 =
 bif ((IntKind.wrap .i64 ((a2.length : Int) + i76)) == 0) then
 (chkO (room (yh.length + 1) 24) (
 optO (C lb n Qay [.list jk a2]) fun rQ =>
 optO (CV.asB rQ) fun tZ =>
 bif tZ then
 (chkO (room ((yh ++ [[CV.int .i64 4,CV.str [112,97,114,116,121]]]).length + 1) 24) (
 some (.list ((yH && false) && false) ((yh ++ [[CV.int .i64 4,CV.str [112,97,114,116,121]]]) ++ [[CV.int .i64 25,CV.str [112,97,114,116,121]]]))))
 else
 (some (.list (yH && false) (yh ++ [[CV.int .i64 4,CV.str [112,97,114,116,121]]])))))
 else
 (bif (i76 == 0) then
 (bif (decide ((a2.length : Int) > 9)) then
 (chkO (room (yh.length + 1) 24) (
 optO (C lb n Qay [.list jk a2]) fun r8 =>
 optO (CV.asB r8) fun uw =>
 bif uw then
 (chkO (room ((yh ++ [[CV.int .i64 4,CV.str [112,97,114,116,121]]]).length + 1) 24) (
 some (.list ((yH && false) && false) ((yh ++ [[CV.int .i64 4,CV.str [112,97,114,116,121]]]) ++ [[CV.int .i64 25,CV.str [112,97,114,116,121]]]))))
 else
 (some (.list (yH && false) (yh ++ [[CV.int .i64 4,CV.str [112,97,114,116,121]]])))))
 else
 (bif (decide ((IntKind.wrap .i64 ((a2.length : Int) + i76)) > 99)) then
 (chkO (room (yh.length + 1) 24) (
 optO (C lb n Qay [.list jk a2]) fun un =>
 optO (CV.asB un) fun t8 =>
 bif t8 then
 (chkO (room ((yh ++ [[CV.int .i64 4,CV.str [112,97,114,116,121]]]).length + 1) 24) (
 some (.list ((yH && false) && false) ((yh ++ [[CV.int .i64 4,CV.str [112,97,114,116,121]]]) ++ [[CV.int .i64 25,CV.str [112,97,114,116,121]]]))))
 else
 (some (.list (yH && false) (yh ++ [[CV.int .i64 4,CV.str [112,97,114,116,121]]])))))
 else
 (optO (C lb n Qay [.list jk a2]) fun uB =>
 optO (CV.asB uB) fun tG =>
 bif tG then
 (chkO (room (yh.length + 1) 24) (
 some (.list (yH && false) (yh ++ [[CV.int .i64 25,CV.str [112,97,114,116,121]]]))))
 else
 (some (.list yH yh)))))
 else
 (bif (decide ((IntKind.wrap .i64 ((a2.length : Int) + i76)) > 99)) then
 (chkO (room (yh.length + 1) 24) (
 optO (C lb n Qay [.list jk a2]) fun qK =>
 optO (CV.asB qK) fun pZ =>
 bif pZ then
 (chkO (room ((yh ++ [[CV.int .i64 4,CV.str [112,97,114,116,121]]]).length + 1) 24) (
 some (.list ((yH && false) && false) ((yh ++ [[CV.int .i64 4,CV.str [112,97,114,116,121]]]) ++ [[CV.int .i64 25,CV.str [112,97,114,116,121]]]))))
 else
 (some (.list (yH && false) (yh ++ [[CV.int .i64 4,CV.str [112,97,114,116,121]]])))))
 else
 (optO (C lb n Qay [.list jk a2]) fun wI =>
 optO (CV.asB wI) fun gv =>
 bif gv then
 (chkO (room (yh.length + 1) 24) (
 some (.list (yH && false) (yh ++ [[CV.int .i64 25,CV.str [112,97,114,116,121]]]))))
 else
 (some (.list yH yh))))) := (Qab _).trans (by kernel_rfl)
theorem QiO (lb n : Nat) (jk : Bool) (a2 : LL) (b3 : Int) (yH : Bool) (yh : LL) :
 QhU lb n jk a2 b3 yH yh =
 bif (decide (b3 > 99)) then
 (QfL lb n jk a2 b3 yH yh 0)
 else
 (QfL lb n jk a2 b3 yH yh b3) := (Qab _).trans (by kernel_rfl)
theorem QfX (lb n : Nat) (jk : Bool) (a2 : LL) (b3 : Int) (ou : Bool) (oj : LL) :
 QhA lb n jk a2 b3 ou oj =
 bif (decide (b3 < 0)) then
 (chkO (room (oj.length + 1) 24) (
 QkV lb n jk a2 b3 (ou && false) (oj ++ [[CV.int .i64 2,CV.str [112,97,114,116,121]]])))
 else
 (bif (decide (b3 > 99)) then
 (chkO (room (oj.length + 1) 24) (
 QhU lb n jk a2 b3 (ou && false) (oj ++ [[CV.int .i64 2,CV.str [112,97,114,116,121]]])))
 else
 (QhU lb n jk a2 b3 ou oj)) := (Qab _).trans (by kernel_rfl)
theorem Qhr (lb n vL : Nat) (jk : Bool) (a2 : LL) (b3 vd : Int) (ov : Bool) (v8 : LL) :
 party_Check_L1 lb n (vL + 1) jk a2 b3 vd ov v8 =
 bif (decide (vd < (a2.length : Int))) then
 (optO (atL a2 vd) fun nJ =>
 chkO (nJ.length == 3) (
 optO (nJ[0]?) fun my =>
 optO (nJ[1]?) fun vF =>
 optO (nJ[2]?) fun mf =>
 optO (C lb n Qba [.int .i64 vd]) fun pT =>
 optO (CV.asS pT) fun gj =>
 chkO (decide (([112,101,114,115,111,110,32] : LB).length + gj.length ≤ 9223372036854775807)) (
 optO (C lb n QeJ [.agg [my,vF,mf]]) fun jQ =>
 optO (CV.asB jQ) fun rX =>
 bif (!rX) then
 (chkO (room (v8.length + 1) 24) (
 optO (C lb n Qdm [.agg [my,vF,mf]]) fun uf =>
 optO (CV.asB uf) fun tK =>
 bif (!tK) then
 (chkO (room ((v8 ++ [[CV.int .i64 5,CV.str (([112,101,114,115,111,110,32] : LB) ++ gj)]]).length + 1) 24) (
 party_Check_L1 lb n vL jk a2 b3 (IntKind.wrap .i64 (vd + 1)) ((ov && false) && false) ((v8 ++ [[CV.int .i64 5,CV.str (([112,101,114,115,111,110,32] : LB) ++ gj)]]) ++ [[CV.int .i64 8,CV.str (([112,101,114,115,111,110,32] : LB) ++ gj)]])))
 else
 (party_Check_L1 lb n vL jk a2 b3 (IntKind.wrap .i64 (vd + 1)) (ov && false) (v8 ++ [[CV.int .i64 5,CV.str (([112,101,114,115,111,110,32] : LB) ++ gj)]]))))
 else
 (optO (C lb n Qdm [.agg [my,vF,mf]]) fun rN =>
 optO (CV.asB rN) fun tl =>
 bif (!tl) then
 (chkO (room (v8.length + 1) 24) (
 party_Check_L1 lb n vL jk a2 b3 (IntKind.wrap .i64 (vd + 1)) (ov && false) (v8 ++ [[CV.int .i64 8,CV.str (([112,101,114,115,111,110,32] : LB) ++ gj)]])))
 else
 (party_Check_L1 lb n vL jk a2 b3 (IntKind.wrap .i64 (vd + 1)) ov v8)))))
 else
 (QhA lb n jk a2 b3 ov v8) := (Qab _).trans (by kernel_rfl)
theorem Qru (lb n : Nat) (jk : Bool) (a2 : LL) (b3 : Int) :
 top lb n QaK [.list jk a2, .int .i64 b3] =
 party_Check_L1 lb n n jk a2 b3 0 true [] := by kernel_rfl
theorem QqZ (lb n : Nat) (wq wA wG : LB) :
 top lb n QeJ [.agg [.str wq, .str wA, .str wG]] =
 optO (C lb n QbH [.str wq]) fun r4 =>
 optO (CV.asB r4) fun b5 =>
 bif b5 then
 (optO (C lb n QbH [.str wA]) fun r6 =>
 some (r6))
 else
 (some (.bool false)) := by kernel_rfl
theorem QrC (lb n : Nat) (wq wA wG : LB) :
 top lb n Qdm [.agg [.str wq, .str wA, .str wG]] =
 optO (C lb n QeS [.str wG, .int .i64 3, .int .i64 3]) fun r4 =>
 some (r4) := by kernel_rfl
noncomputable def Qc0 (lb n yN : Nat) (jk : Bool) (a2 : LL) (i20 i21 : Int) : Option CV :=
 hold (Qaw (E0 lb n 0 994) 0 (Qah (sub (B Qay) [1,1,0,1,0,0]) ++ []) [5] (sub (B Qay) [1,1,0,1,0,0]) (Qap 0 (seqK (E0 lb n 0 997) (sub (B Qay) [1,1,0]) (sub (B Qay) [1,1,1]) (retK Tryz.prog (R Qay) 0 (outK (Qad Tryz.prog Qay))))) yN ⟨fr 23 [(0, .val (.list jk a2)),(2,vB false),(3,vI i20),(6, .val (.list jk a2)),(7, .val (.int .i64 (a2.length : Int))),(8,vI i21)],[bx 23 []],KK⟩)
noncomputable def Qlg (lb n : Nat) (jk : Bool) (a2 : LL) (gd : Int) : Option CV :=
 hold (E0 lb n 0 997 (sub (B Qay) [1,1,1]) (retK Tryz.prog (R Qay) 0 (outK (Qad Tryz.prog Qay))) ⟨fr 23 [(0, .val (.list jk a2)),(2,vB false),(3,vI gd)],[bx 23 []],KK⟩)
theorem Qoa (lb n : Nat) (jk : Bool) (a2 : LL) (gd : Int) :
 Qlg lb n jk a2 gd =
 some (.bool (decide (gd > 0))) := (Qab _).trans (by kernel_rfl)
theorem Qhs (lb n yN : Nat) (jk : Bool) (a2 : LL) (i20 i21 : Int) :
 Qc0 lb n (yN + 1) jk a2 i20 i21 =
 bif (decide (i21 < (a2.length : Int))) then
 (optO (atL a2 i21) fun nI =>
 chkO (nI.length == 3) (
 optO (nI[0]?) fun n9 =>
 optO (nI[1]?) fun kQ =>
 optO (nI[2]?) fun vk =>
 optO (C lb n Qek [.agg [n9,kQ,vk]]) fun pu =>
 optO (CV.asB pu) fun pq =>
 bif pq then
 (optO (C lb n QeN [.agg [n9,kQ,vk]]) fun ml =>
 optO (CV.asB ml) fun uA =>
 bif uA then
 (Qc0 lb n yN jk a2 (IntKind.wrap .i64 ((IntKind.wrap .i64 (i20 + 1)) - 1)) (IntKind.wrap .i64 (i21 + 1)))
 else
 (Qc0 lb n yN jk a2 (IntKind.wrap .i64 (i20 + 1)) (IntKind.wrap .i64 (i21 + 1))))
 else
 (optO (C lb n QeN [.agg [n9,kQ,vk]]) fun rB =>
 optO (CV.asB rB) fun mB =>
 bif mB then
 (Qc0 lb n yN jk a2 (IntKind.wrap .i64 (i20 - 1)) (IntKind.wrap .i64 (i21 + 1)))
 else
 (Qc0 lb n yN jk a2 i20 (IntKind.wrap .i64 (i21 + 1))))))
 else
 (Qlg lb n jk a2 i20) := (Qab _).trans (by kernel_rfl)
theorem QrJ (lb n : Nat) (jk : Bool) (a2 : LL) :
 top lb n Qay [.list jk a2] =
 Qc0 lb n n jk a2 0 0 := by kernel_rfl
theorem QpL (lb n : Nat) (wq wA wG : LB) :
 top lb n Qek [.agg [.str wq, .str wA, .str wG]] =
 some (.bool (wG == [73,78,70])) := by kernel_rfl
theorem Qq2 (lb n : Nat) (wq wA wG : LB) :
 top lb n QeN [.agg [.str wq, .str wA, .str wG]] =
 optO (C lb n Qek [.agg [.str wq, .str wA, .str wG]]) fun r4 =>
 optO (CV.asB r4) fun b5 =>
 bif (!b5) then
 (some (.bool (!(wG == [67,72,68]))))
 else
 (some (.bool false)) := by kernel_rfl
end Go.Proofs
