/- Equations of functions, printed by program. Conditions: none. -/
import Derived.Test.YtigmcfhmpcajlaaGreatDoorEv
namespace Go.Proofs
open Go.Am
set_option maxRecDepth 100000
set_option linter.unusedVariables false
noncomputable def party_Check_L1 :=
 fun lb n (kC : Nat) (jk : Bool) (a2 : LL) b3 wT (oq : Bool) (kW : LL) =>
 hold (Qav (E0 lb n 0 993) 0 (Qag (sub (B QaK) [1,1,1,0,1,0,0]) ++ [7,9]) [8] (sub (B QaK) [1,1,1,0,1,0,0]) (Qak 0 (seqK (E0 lb n 0 996) (sub (B QaK) [1,1,1,0]) (sub (B QaK) [1,1,1,1]) (retK Tryz.prog (R QaK) 0 (outK (Qad Tryz.prog QaK))))) kC ⟨fr 73 [(0, .val (.list jk a2)),(1,vI b3),(4, .lst true true 61 []),(5, .ptr 0 5 0),(6, .clo Qa0 [.ptr 0 5 0]),(12, .clo Qa0 [.ptr 0 5 0]),(13, .val (.list jk a2)),(14, .val (.int .i64 (a2.length : Int))),(15,vI wT)],[bx 73 [(5,some [.lst true oq 61 kW])]],KK⟩)
noncomputable def QgP (lb n : Nat) (jk : Bool) (a2 : LL) (b3 : Int) (gk : Bool) (vG : LL) : Option CV :=
 hold (E0 lb n 0 996 (sub (B QaK) [1,1,1,1]) (retK Tryz.prog (R QaK) 0 (outK (Qad Tryz.prog QaK))) ⟨fr 73 [(0, .val (.list jk a2)),(1,vI b3),(4, .lst true true 61 []),(5, .ptr 0 5 0),(6, .clo Qa0 [.ptr 0 5 0]),(12, .clo Qa0 [.ptr 0 5 0])],[bx 73 [(5,some [.lst true gk 61 vG])]],KK⟩)
noncomputable def Qko (lb n : Nat) (jk : Bool) (a2 : LL) (b3 : Int) (yr : Bool) (wW : LL) : Option CV :=
 hold (E0 lb n 0 994 (sub (B QaK) [1,1,1,1,1,1]) (retK Tryz.prog (R QaK) 0 (outK (Qad Tryz.prog QaK))) ⟨fr 73 [(0, .val (.list jk a2)),(1,vI b3),(4, .lst true true 61 []),(5, .ptr 0 5 0),(6, .clo Qa0 [.ptr 0 5 0]),(10,vB true),(12, .clo Qa0 [.ptr 0 5 0]),(36,vI b3),(37, .val (.bool (decide (b3 < 0)))),(38,vB true),(39, .undef),(40, .undef),(41,vB true)],[bx 73 [(5,some [.lst true yr 61 wW])]],KK⟩)
noncomputable def Qg4 (lb n : Nat) (jk : Bool) (a2 : LL) (b3 : Int) (yr : Bool) (wW : LL) (yH : Int) : Option CV :=
 hold (E0 lb n 0 993 (sub (B QaK) [1,1,1,1,1,1,1]) (retK Tryz.prog (R QaK) 0 (outK (Qad Tryz.prog QaK))) ⟨fr 73 [(0, .val (.list jk a2)),(1,vI yH),(4, .lst true true 61 []),(5, .ptr 0 5 0),(6, .clo Qa0 [.ptr 0 5 0]),(10,vB true),(12, .clo Qa0 [.ptr 0 5 0]),(36,vI b3),(37, .val (.bool (decide (b3 < 0)))),(38,vB true),(39, .undef),(40, .undef),(41,vB true)],[bx 73 [(5,some [.lst true yr 61 wW])]],KK⟩)
theorem Qnf (lb n : Nat) (jk : Bool) (a2 : LL) (b3 : Int) (yr : Bool) (wW : LL) (yH : Int) :
 Qg4 lb n jk a2 b3 yr wW yH =
 bif ((IntKind.wrap .i64 ((a2.length : Int) + yH)) == 0) then
 (chkO (room (wW.length + 1) 24) (
 optO (C lb n Qao [.list jk a2]) fun t8 =>
 optO (CV.asB t8) fun kh =>
 bif kh then
 (chkO (room ((wW ++ [[CV.int .i64 4,CV.str [112,97,114,116,121]]]).length + 1) 24) (
 some (.list ((yr && false) && false) ((wW ++ [[CV.int .i64 4,CV.str [112,97,114,116,121]]]) ++ [[CV.int .i64 25,CV.str [112,97,114,116,121]]]))))
 else
 (some (.list (yr && false) (wW ++ [[CV.int .i64 4,CV.str [112,97,114,116,121]]])))))
 else
 (bif (yH == 0) then
 (bif (decide ((a2.length : Int) > 9)) then
 (chkO (room (wW.length + 1) 24) (
 optO (C lb n Qao [.list jk a2]) fun uy =>
 optO (CV.asB uy) fun sC =>
 bif sC then
 (chkO (room ((wW ++ [[CV.int .i64 4,CV.str [112,97,114,116,121]]]).length + 1) 24) (
 some (.list ((yr && false) && false) ((wW ++ [[CV.int .i64 4,CV.str [112,97,114,116,121]]]) ++ [[CV.int .i64 25,CV.str [112,97,114,116,121]]]))))
 else
 (some (.list (yr && false) (wW ++ [[CV.int .i64 4,CV.str [112,97,114,116,121]]])))))
 else
 (bif (decide ((IntKind.wrap .i64 ((a2.length : Int) + yH)) > 99)) then
 (chkO (room (wW.length + 1) 24) (
 optO (C lb n Qao [.list jk a2]) fun oO =>
 optO (CV.asB oO) fun sB =>
 bif sB then
 (chkO (room ((wW ++ [[CV.int .i64 4,CV.str [112,97,114,116,121]]]).length + 1) 24) (
 some (.list ((yr && false) && false) ((wW ++ [[CV.int .i64 4,CV.str [112,97,114,116,121]]]) ++ [[CV.int .i64 25,CV.str [112,97,114,116,121]]]))))
 else
 (some (.list (yr && false) (wW ++ [[CV.int .i64 4,CV.str [112,97,114,116,121]]])))))
 else
 (optO (C lb n Qao [.list jk a2]) fun qj =>
 optO (CV.asB qj) fun kG =>
 bif kG then
 (chkO (room (wW.length + 1) 24) (
 some (.list (yr && false) (wW ++ [[CV.int .i64 25,CV.str [112,97,114,116,121]]]))))
 else
 (some (.list yr wW)))))
 else
 (bif (decide ((IntKind.wrap .i64 ((a2.length : Int) + yH)) > 99)) then
 (chkO (room (wW.length + 1) 24) (
 optO (C lb n Qao [.list jk a2]) fun un =>
 optO (CV.asB un) fun uQ =>
 bif uQ then
 (chkO (room ((wW ++ [[CV.int .i64 4,CV.str [112,97,114,116,121]]]).length + 1) 24) (
 some (.list ((yr && false) && false) ((wW ++ [[CV.int .i64 4,CV.str [112,97,114,116,121]]]) ++ [[CV.int .i64 25,CV.str [112,97,114,116,121]]]))))
 else
 (some (.list (yr && false) (wW ++ [[CV.int .i64 4,CV.str [112,97,114,116,121]]])))))
 else
 (optO (C lb n Qao [.list jk a2]) fun u7 =>
 optO (CV.asB u7) fun b73 =>
 bif b73 then
 (chkO (room (wW.length + 1) 24) (
 some (.list (yr && false) (wW ++ [[CV.int .i64 25,CV.str [112,97,114,116,121]]]))))
 else
 (some (.list yr wW))))) := (Qac _).trans (by kernel_rfl)
theorem Qm7 (lb n : Nat) (jk : Bool) (a2 : LL) (b3 : Int) (yr : Bool) (wW : LL) :
 Qko lb n jk a2 b3 yr wW =
 Qg4 lb n jk a2 b3 yr wW 0 := (Qac _).trans (by kernel_rfl)
noncomputable def QgU (lb n : Nat) (jk : Bool) (a2 : LL) (b3 : Int) (vk : Bool) (yB : LL) : Option CV :=
 hold (E0 lb n 0 994 (sub (B QaK) [1,1,1,1,1,1]) (retK Tryz.prog (R QaK) 0 (outK (Qad Tryz.prog QaK))) ⟨fr 73 [(0, .val (.list jk a2)),(1,vI b3),(4, .lst true true 61 []),(5, .ptr 0 5 0),(6, .clo Qa0 [.ptr 0 5 0]),(10, .val (.bool (decide (b3 > 99)))),(12, .clo Qa0 [.ptr 0 5 0]),(36,vI b3),(37, .val (.bool (decide (b3 < 0)))),(38,vB false),(39,vI b3),(40, .val (.bool (decide (b3 > 99)))),(41, .val (.bool (decide (b3 > 99))))],[bx 73 [(5,some [.lst true vk 61 yB])]],KK⟩)
noncomputable def QeT (lb n : Nat) (jk : Bool) (a2 : LL) (b3 : Int) (vk : Bool) (yB : LL) (i76 : Int) : Option CV :=
 hold (E0 lb n 0 993 (sub (B QaK) [1,1,1,1,1,1,1]) (retK Tryz.prog (R QaK) 0 (outK (Qad Tryz.prog QaK))) ⟨fr 73 [(0, .val (.list jk a2)),(1,vI i76),(4, .lst true true 61 []),(5, .ptr 0 5 0),(6, .clo Qa0 [.ptr 0 5 0]),(10, .val (.bool (decide (b3 > 99)))),(12, .clo Qa0 [.ptr 0 5 0]),(36,vI b3),(37, .val (.bool (decide (b3 < 0)))),(38,vB false),(39,vI b3),(40, .val (.bool (decide (b3 > 99)))),(41, .val (.bool (decide (b3 > 99))))],[bx 73 [(5,some [.lst true vk 61 yB])]],KK⟩)
theorem Qni (lb n : Nat) (jk : Bool) (a2 : LL) (b3 : Int) (vk : Bool) (yB : LL) (i76 : Int) :
 QeT lb n jk a2 b3 vk yB i76 =
 bif ((IntKind.wrap .i64 ((a2.length : Int) + i76)) == 0) then
 (chkO (room (yB.length + 1) 24) (
 optO (C lb n Qao [.list jk a2]) fun r77 =>
 optO (CV.asB r77) fun uH =>
 bif uH then
 (chkO (room ((yB ++ [[CV.int .i64 4,CV.str [112,97,114,116,121]]]).length + 1) 24) (
 some (.list ((vk && false) && false) ((yB ++ [[CV.int .i64 4,CV.str [112,97,114,116,121]]]) ++ [[CV.int .i64 25,CV.str [112,97,114,116,121]]]))))
 else
 (some (.list (vk && false) (yB ++ [[CV.int .i64 4,CV.str [112,97,114,116,121]]])))))
 else
 (bif (i76 == 0) then
 (bif (decide ((a2.length : Int) > 9)) then
 (chkO (room (yB.length + 1) 24) (
 optO (C lb n Qao [.list jk a2]) fun qq =>
 optO (CV.asB qq) fun uR =>
 bif uR then
 (chkO (room ((yB ++ [[CV.int .i64 4,CV.str [112,97,114,116,121]]]).length + 1) 24) (
 some (.list ((vk && false) && false) ((yB ++ [[CV.int .i64 4,CV.str [112,97,114,116,121]]]) ++ [[CV.int .i64 25,CV.str [112,97,114,116,121]]]))))
 else
 (some (.list (vk && false) (yB ++ [[CV.int .i64 4,CV.str [112,97,114,116,121]]])))))
 else
 (bif (decide ((IntKind.wrap .i64 ((a2.length : Int) + i76)) > 99)) then
 (chkO (room (yB.length + 1) 24) (
 optO (C lb n Qao [.list jk a2]) fun r81 =>
 optO (CV.asB r81) fun uv =>
 bif uv then
 (chkO (room ((yB ++ [[CV.int .i64 4,CV.str [112,97,114,116,121]]]).length + 1) 24) (
 some (.list ((vk && false) && false) ((yB ++ [[CV.int .i64 4,CV.str [112,97,114,116,121]]]) ++ [[CV.int .i64 25,CV.str [112,97,114,116,121]]]))))
 else
 (some (.list (vk && false) (yB ++ [[CV.int .i64 4,CV.str [112,97,114,116,121]]])))))
 else
 (optO (C lb n Qao [.list jk a2]) fun uZ =>
 optO (CV.asB uZ) fun b84 =>
 bif b84 then
 (chkO (room (yB.length + 1) 24) (
 some (.list (vk && false) (yB ++ [[CV.int .i64 25,CV.str [112,97,114,116,121]]]))))
 else
 (some (.list vk yB)))))
 else
 (bif (decide ((IntKind.wrap .i64 ((a2.length : Int) + i76)) > 99)) then
 (chkO (room (yB.length + 1) 24) (
 optO (C lb n Qao [.list jk a2]) fun qr =>
 optO (CV.asB qr) fun sI =>
 bif sI then
 (chkO (room ((yB ++ [[CV.int .i64 4,CV.str [112,97,114,116,121]]]).length + 1) 24) (
 some (.list ((vk && false) && false) ((yB ++ [[CV.int .i64 4,CV.str [112,97,114,116,121]]]) ++ [[CV.int .i64 25,CV.str [112,97,114,116,121]]]))))
 else
 (some (.list (vk && false) (yB ++ [[CV.int .i64 4,CV.str [112,97,114,116,121]]])))))
 else
 (optO (C lb n Qao [.list jk a2]) fun wR =>
 optO (CV.asB wR) fun uh =>
 bif uh then
 (chkO (room (yB.length + 1) 24) (
 some (.list (vk && false) (yB ++ [[CV.int .i64 25,CV.str [112,97,114,116,121]]]))))
 else
 (some (.list vk yB))))) := (Qac _).trans (by kernel_rfl)
theorem QhX (lb n : Nat) (jk : Bool) (a2 : LL) (b3 : Int) (vk : Bool) (yB : LL) :
 QgU lb n jk a2 b3 vk yB =
 bif (decide (b3 > 99)) then
 (QeT lb n jk a2 b3 vk yB 0)
 else
 (QeT lb n jk a2 b3 vk yB b3) := (Qac _).trans (by kernel_rfl)
theorem Qe8 (lb n : Nat) (jk : Bool) (a2 : LL) (b3 : Int) (gk : Bool) (vG : LL) :
 QgP lb n jk a2 b3 gk vG =
 bif (decide (b3 < 0)) then
 (chkO (room (vG.length + 1) 24) (
 Qko lb n jk a2 b3 (gk && false) (vG ++ [[CV.int .i64 2,CV.str [112,97,114,116,121]]])))
 else
 (bif (decide (b3 > 99)) then
 (chkO (room (vG.length + 1) 24) (
 QgU lb n jk a2 b3 (gk && false) (vG ++ [[CV.int .i64 2,CV.str [112,97,114,116,121]]])))
 else
 (QgU lb n jk a2 b3 gk vG)) := (Qac _).trans (by kernel_rfl)
theorem QgC (lb n kC : Nat) (jk : Bool) (a2 : LL) (b3 wT : Int) (oq : Bool) (kW : LL) :
 party_Check_L1 lb n (kC + 1) jk a2 b3 wT oq kW =
 bif (decide (wT < (a2.length : Int))) then
 (optO (atL a2 wT) fun gH =>
 chkO (gH.length == 3) (
 optO (gH[0]?) fun nf =>
 optO (gH[1]?) fun kP =>
 optO (gH[2]?) fun nx =>
 optO (C lb n Qc1 [.int .i64 wT]) fun r48 =>
 optO (CV.asS r48) fun mb =>
 chkO (decide (([112,101,114,115,111,110,32] : LB).length + mb.length ≤ 9223372036854775807)) (
 optO (C lb n Qfv [.agg [nf,kP,nx]]) fun j7 =>
 optO (CV.asB j7) fun uj =>
 bif (!uj) then
 (chkO (room (kW.length + 1) 24) (
 optO (C lb n Qdo [.agg [nf,kP,nx]]) fun tX =>
 optO (CV.asB tX) fun uz =>
 bif (!uz) then
 (chkO (room ((kW ++ [[CV.int .i64 5,CV.str (([112,101,114,115,111,110,32] : LB) ++ mb)]]).length + 1) 24) (
 party_Check_L1 lb n kC jk a2 b3 (IntKind.wrap .i64 (wT + 1)) ((oq && false) && false) ((kW ++ [[CV.int .i64 5,CV.str (([112,101,114,115,111,110,32] : LB) ++ mb)]]) ++ [[CV.int .i64 8,CV.str (([112,101,114,115,111,110,32] : LB) ++ mb)]])))
 else
 (party_Check_L1 lb n kC jk a2 b3 (IntKind.wrap .i64 (wT + 1)) (oq && false) (kW ++ [[CV.int .i64 5,CV.str (([112,101,114,115,111,110,32] : LB) ++ mb)]]))))
 else
 (optO (C lb n Qdo [.agg [nf,kP,nx]]) fun r54 =>
 optO (CV.asB r54) fun yS =>
 bif (!yS) then
 (chkO (room (kW.length + 1) 24) (
 party_Check_L1 lb n kC jk a2 b3 (IntKind.wrap .i64 (wT + 1)) (oq && false) (kW ++ [[CV.int .i64 8,CV.str (([112,101,114,115,111,110,32] : LB) ++ mb)]])))
 else
 (party_Check_L1 lb n kC jk a2 b3 (IntKind.wrap .i64 (wT + 1)) oq kW)))))
 else
 (QgP lb n jk a2 b3 oq kW) := (Qac _).trans (by kernel_rfl)
theorem QpT (lb n : Nat) (jk : Bool) (a2 : LL) (b3 : Int) :
 top lb n QaK [.list jk a2, .int .i64 b3] =
 party_Check_L1 lb n n jk a2 b3 0 true [] := by kernel_rfl
theorem Qp3 (lb n : Nat) (vd vf yX : LB) :
 top lb n Qfv [.agg [.str vd, .str vf, .str yX]] =
 optO (C lb n Qbt [.str vd]) fun r4 =>
 optO (CV.asB r4) fun b5 =>
 bif b5 then
 (optO (C lb n Qbt [.str vf]) fun r6 =>
 some (r6))
 else
 (some (.bool false)) := by kernel_rfl
theorem QpH (lb n : Nat) (vd vf yX : LB) :
 top lb n Qdo [.agg [.str vd, .str vf, .str yX]] =
 optO (C lb n Qed [.str yX, .int .i64 3, .int .i64 3]) fun r4 =>
 some (r4) := by kernel_rfl
noncomputable def Qcw (lb n gE : Nat) (jk : Bool) (a2 : LL) (i20 i21 : Int) : Option CV :=
 hold (Qav (E0 lb n 0 994) 0 (Qag (sub (B Qao) [1,1,0,1,0,0]) ++ []) [5] (sub (B Qao) [1,1,0,1,0,0]) (Qak 0 (seqK (E0 lb n 0 997) (sub (B Qao) [1,1,0]) (sub (B Qao) [1,1,1]) (retK Tryz.prog (R Qao) 0 (outK (Qad Tryz.prog Qao))))) gE ⟨fr 23 [(0, .val (.list jk a2)),(2,vB false),(3,vI i20),(6, .val (.list jk a2)),(7, .val (.int .i64 (a2.length : Int))),(8,vI i21)],[bx 23 []],KK⟩)
noncomputable def Qke (lb n : Nat) (jk : Bool) (a2 : LL) (p7 : Int) : Option CV :=
 hold (E0 lb n 0 997 (sub (B Qao) [1,1,1]) (retK Tryz.prog (R Qao) 0 (outK (Qad Tryz.prog Qao))) ⟨fr 23 [(0, .val (.list jk a2)),(2,vB false),(3,vI p7)],[bx 23 []],KK⟩)
theorem Qnd (lb n : Nat) (jk : Bool) (a2 : LL) (p7 : Int) :
 Qke lb n jk a2 p7 =
 some (.bool (decide (p7 > 0))) := (Qac _).trans (by kernel_rfl)
theorem QgH (lb n gE : Nat) (jk : Bool) (a2 : LL) (i20 i21 : Int) :
 Qcw lb n (gE + 1) jk a2 i20 i21 =
 bif (decide (i21 < (a2.length : Int))) then
 (optO (atL a2 i21) fun qb =>
 chkO (qb.length == 3) (
 optO (qb[0]?) fun gc =>
 optO (qb[1]?) fun go =>
 optO (qb[2]?) fun oQ =>
 optO (C lb n Qa8 [.agg [gc,go,oQ]]) fun r38 =>
 optO (CV.asB r38) fun uG =>
 bif uG then
 (optO (C lb n Qbb [.agg [gc,go,oQ]]) fun r40 =>
 optO (CV.asB r40) fun uu =>
 bif uu then
 (Qcw lb n gE jk a2 (IntKind.wrap .i64 ((IntKind.wrap .i64 (i20 + 1)) - 1)) (IntKind.wrap .i64 (i21 + 1)))
 else
 (Qcw lb n gE jk a2 (IntKind.wrap .i64 (i20 + 1)) (IntKind.wrap .i64 (i21 + 1))))
 else
 (optO (C lb n Qbb [.agg [gc,go,oQ]]) fun uA =>
 optO (CV.asB uA) fun ue =>
 bif ue then
 (Qcw lb n gE jk a2 (IntKind.wrap .i64 (i20 - 1)) (IntKind.wrap .i64 (i21 + 1)))
 else
 (Qcw lb n gE jk a2 i20 (IntKind.wrap .i64 (i21 + 1))))))
 else
 (Qke lb n jk a2 i20) := (Qac _).trans (by kernel_rfl)
theorem Qqm (lb n : Nat) (jk : Bool) (a2 : LL) :
 top lb n Qao [.list jk a2] =
 Qcw lb n n jk a2 0 0 := by kernel_rfl
theorem Qjv (lb n : Nat) (vd vf yX : LB) :
 top lb n Qa8 [.agg [.str vd, .str vf, .str yX]] =
 some (.bool (yX == [73,78,70])) := by kernel_rfl
theorem QjS (lb n : Nat) (vd vf yX : LB) :
 top lb n Qbb [.agg [.str vd, .str vf, .str yX]] =
 optO (C lb n Qa8 [.agg [.str vd, .str vf, .str yX]]) fun r4 =>
 optO (CV.asB r4) fun b5 =>
 bif (!b5) then
 (some (.bool (!(yX == [67,72,68]))))
 else
 (some (.bool false)) := by kernel_rfl
end Go.Proofs
