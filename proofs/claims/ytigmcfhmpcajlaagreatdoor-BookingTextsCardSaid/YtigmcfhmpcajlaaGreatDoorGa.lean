/- Equations of functions, printed by program. Conditions: none. -/
import Derived.Test.YtigmcfhmpcajlaaGreatDoorEv
namespace Go.Proofs
open Go.Am
set_option maxRecDepth 100000
set_option linter.unusedVariables false
theorem QrD (lb n) (a1 : Int) :
 top lb n Qgk [.int .i64 a1] =
 bif (decide (a1 < 1)) then
 (some (.tup [.str [], .int .i64 8]))
 else
 (bif (decide (a1 > 7)) then
 (some (.tup [.str [], .int .i64 8]))
 else
 (chkO (decide ((0 : Int) ≤ (IntKind.wrap .i64 (2 * a1)) ∧ (IntKind.wrap .i64 (2 * a1)) ≤ 14)) (
 chkO (decide ((0 : Int) ≤ (IntKind.wrap .i64 ((IntKind.wrap .i64 (2 * a1)) - 2)) ∧ (IntKind.wrap .i64 ((IntKind.wrap .i64 (2 * a1)) - 2)) ≤ (IntKind.wrap .i64 (2 * a1)))) (
 some (.tup [.str ((([72,75,72,76,75,76,84,75,85,78,85,67,88,88] : LB).take ((IntKind.wrap .i64 (2 * a1)).toNat)).drop ((IntKind.wrap .i64 ((IntKind.wrap .i64 (2 * a1)) - 2)).toNat)), .int .i64 0]))))) := by kernel_rfl
noncomputable def marry_Check_L1 :=
 fun lb n (vr : Nat) (jk : Bool) (a2 : LL) i6 =>
 hold (Qaw (E0 lb n 0 995) 0 (Qah (sub (B QaT) [1,0,1,0,0]) ++ [4]) [] (sub (B QaT) [1,0,1,0,0]) (Qap 0 (seqK (E0 lb n 0 998) (sub (B QaT) [1,0]) (sub (B QaT) [1,1]) (retK Tryz.prog (R QaT) 0 (outK (Qad Tryz.prog QaT))))) vr ⟨fr 51 [(0, .val (.list jk a2)),(2,vI 0),(8, .val (.list jk a2)),(9, .val (.int .i64 (a2.length : Int))),(10,vI i6)],[bx 51 []],KK⟩)
noncomputable def Qk7 (lb n : Nat) (jk : Bool) (a2 : LL) : Option CV :=
 hold (E0 lb n 0 998 (sub (B QaT) [1,1]) (retK Tryz.prog (R QaT) 0 (outK (Qad Tryz.prog QaT))) ⟨fr 51 [(0, .val (.list jk a2)),(2,vI 0)],[bx 51 []],KK⟩)
noncomputable def QdB (lb n mu : Nat) (jk : Bool) (a2 : LL) (vm : CV) (oi : Bool × LL) (ym : Int) : Option CV :=
 hold (Qaw (E0 lb n 0 994) 0 (Qah (sub (B QaT) [1,1,0,1,0,0]) ++ [6,7]) [] (sub (B QaT) [1,1,0,1,0,0]) (Qap 2 (seqK (E0 lb n 0 997) (sub (B QaT) [1,1,0]) (sub (B QaT) [1,1,1]) (retK Tryz.prog (R QaT) 0 (outK (Qad Tryz.prog QaT))))) mu ⟨fr 51 [(0, .val (.list jk a2)),(2,vI 0),(17, .val (.list jk a2)),(18,vV vm),(19, .val (.int .i64 (oi.2.length : Int))),(20,vI ym)],[bx 51 []],KK⟩)
noncomputable def QkX (lb n : Nat) (jk : Bool) (a2 : LL) : Option CV :=
 hold (E0 lb n 0 997 (sub (B QaT) [1,1,1]) (retK Tryz.prog (R QaT) 0 (outK (Qad Tryz.prog QaT))) ⟨fr 51 [(0, .val (.list jk a2)),(2,vI 0)],[bx 51 []],KK⟩)
theorem Qn8 (lb n : Nat) (jk : Bool) (a2 : LL) :
 QkX lb n jk a2 =
 some (.int .i64 0) := (Qab _).trans (by kernel_rfl)
theorem Qhv (lb n mu : Nat) (jk : Bool) (a2 : LL) (vm : CV) (oi : Bool × LL) (ym : Int) :
 QdB lb n (mu + 1) jk a2 vm oi ym =
 bif (decide (ym < (oi.2.length : Int))) then
 (optO (CV.asL vm) fun ua =>
 optO (atL ua.2 ym) fun qY =>
 chkO (qY.length == 1) (
 optO (qY[0]?) fun wm =>
 optO (CV.asL wm) fun rO =>
 optO (atL rO.2 0) fun oP =>
 chkO (oP.length == 1) (
 optO (oP[0]?) fun wn =>
 optO (CV.asN wn) fun tD =>
 optO (atL a2 tD) fun qU =>
 chkO (qU.length == 1) (
 optO (qU[0]?) fun si =>
 optO (CV.asI .i64 si) fun oq =>
 bif (decide (oq > 0)) then
 (optO (CV.asL wm) fun ue =>
 bif ((ue.2.length : Int) == 1) then
 (some (.int .i64 18))
 else
 (optO (CV.asL wm) fun tE =>
 optO (CV.asL wm) fun rD =>
 optO (atL rD.2 (IntKind.wrap .i64 ((tE.2.length : Int) - 1))) fun q9 =>
 chkO (q9.length == 1) (
 optO (q9[0]?) fun qs =>
 optO (CV.asI .i64 qs) fun pE =>
 chkO (a2.all (·.length == 1)) (
 chkO (decide ((0 : Int) ≤ (IntKind.wrap .i64 (pE + 1)) ∧ (IntKind.wrap .i64 (pE + 1)) ≤ (a2.length : Int))) (
 optO (C lb n Qep [.list jk ((a2.take ((a2.length : Int).toNat)).drop ((IntKind.wrap .i64 (pE + 1)).toNat)),si]) fun pY =>
 optO (CV.asB pY) fun qG =>
 bif qG then
 (some (.int .i64 18))
 else
 (QdB lb n mu jk a2 vm oi (IntKind.wrap .i64 (ym + 1))))))))
 else
 (QdB lb n mu jk a2 vm oi (IntKind.wrap .i64 (ym + 1)))))))
 else
 (QkX lb n jk a2 ) := (Qab _).trans (by kernel_rfl)
theorem Qoe (lb n : Nat) (jk : Bool) (a2 : LL) :
 Qk7 lb n jk a2 =
 optO (C lb n QfP [.list jk a2]) fun vm =>
 optO (CV.asL vm) fun oi =>
 QdB lb n n jk a2 vm oi 0 := (Qab _).trans (by kernel_rfl)
theorem Qhp (lb n vr : Nat) (jk : Bool) (a2 : LL) (i6 : Int) :
 marry_Check_L1 lb n (vr + 1) jk a2 i6 =
 bif (decide (i6 < (a2.length : Int))) then
 (optO (atL a2 i6) fun vZ =>
 chkO (vZ.length == 1) (
 optO (vZ[0]?) fun ky =>
 optO (CV.asI .i64 ky) fun yO =>
 bif (decide (yO < 0)) then
 (some (.int .i64 2))
 else
 (marry_Check_L1 lb n vr jk a2 (IntKind.wrap .i64 (i6 + 1)))))
 else
 (Qk7 lb n jk a2 ) := (Qab _).trans (by kernel_rfl)
theorem QqX (lb n : Nat) (jk : Bool) (a2 : LL) :
 top lb n QaT [.list jk a2] =
 marry_Check_L1 lb n n jk a2 0 := by kernel_rfl
theorem QkH (lb n : Nat) (jk : Bool) (a2 : LL) (b3 : Int) :
 top lb n Qep [.list jk a2, .int .i64 b3] =
 optO (C lb n Qa6 [.list jk a2, .int .i64 b3]) fun r4 =>
 optO (CV.asI .i64 r4) fun i5 =>
 some (.bool (decide (i5 ≥ 0))) := by kernel_rfl
noncomputable def QdX (lb n kV : Nat) (jk : Bool) (a2 : LL) (b3 i7 : Int) : Option CV :=
 hold (Qaw (E0 lb n 0 995) 0 (Qah (sub (B Qa6) [1,0,1,0,0]) ++ [5]) [] (sub (B Qa6) [1,0,1,0,0]) (Qap 0 (seqK (E0 lb n 0 998) (sub (B Qa6) [1,0]) (sub (B Qa6) [1,1]) (retK Tryz.prog (R Qa6) 0 (outK (Qad Tryz.prog Qa6))))) kV ⟨fr 19 [(0, .val (.list jk a2)),(1,vI b3),(4,vI 0),(6, .val (.list jk a2)),(7, .val (.int .i64 (a2.length : Int))),(8,vI i7)],[bx 19 []],KK⟩)
noncomputable def Qht (lb n : Nat) (jk : Bool) (a2 : LL) (b3 : Int) : Option CV :=
 hold (E0 lb n 0 998 (sub (B Qa6) [1,1]) (retK Tryz.prog (R Qa6) 0 (outK (Qad Tryz.prog Qa6))) ⟨fr 19 [(0, .val (.list jk a2)),(1,vI b3),(4,vI 0)],[bx 19 []],KK⟩)
theorem Qkr (lb n : Nat) (jk : Bool) (a2 : LL) (b3 : Int) :
 Qht lb n jk a2 b3 =
 some (.int .i64 (-1)) := (Qab _).trans (by kernel_rfl)
theorem Qfu (lb n kV : Nat) (jk : Bool) (a2 : LL) (b3 i7 : Int) :
 QdX lb n (kV + 1) jk a2 b3 i7 =
 bif (decide (i7 < (a2.length : Int))) then
 (optO (atL a2 i7) fun kv =>
 chkO (kv.length == 1) (
 optO (kv[0]?) fun vG =>
 optO (CV.asI .i64 vG) fun wk =>
 bif (b3 == wk) then
 (some (.int .i64 i7))
 else
 (QdX lb n kV jk a2 b3 (IntKind.wrap .i64 (i7 + 1)))))
 else
 (Qht lb n jk a2 b3 ) := (Qab _).trans (by kernel_rfl)
theorem Qmo (lb n : Nat) (jk : Bool) (a2 : LL) (b3 : Int) :
 top lb n Qa6 [.list jk a2, .int .i64 b3] =
 QdX lb n n jk a2 b3 0 := by kernel_rfl
noncomputable def Qdw (lb n nz : Nat) (jk : Bool) (a2 wL : LL) (wO : Int) : Option CV :=
 hold (Qaw (E0 lb n 0 994) 0 (Qah (sub (B Qa2) [1,1,0,1,0,0]) ++ []) [5] (sub (B Qa2) [1,1,0,1,0,0]) (Qap 0 (seqK (E0 lb n 0 997) (sub (B Qa2) [1,1,0]) (sub (B Qa2) [1,1,1]) (retK Tryz.prog (R Qa2) 0 (outK (Qad Tryz.prog Qa2))))) nz ⟨fr 22 [(0, .val (.list jk a2)),(2, .lst true true 3 []),(3, .lst true false 3 wL),(6, .val (.list jk a2)),(7, .val (.int .i64 (a2.length : Int))),(8, .val (.list false [])),(9, .val (.list jk a2)),(10, .val (.int .i64 (a2.length : Int))),(11,vI wO)],[bx 22 []],KK⟩)
noncomputable def Qg1 (lb n : Nat) (jk : Bool) (a2 : LL) (kR : Bool) (kW : LL) : Option CV :=
 hold (E0 lb n 0 997 (sub (B Qa2) [1,1,1]) (retK Tryz.prog (R Qa2) 0 (outK (Qad Tryz.prog Qa2))) ⟨fr 22 [(0, .val (.list jk a2)),(2, .lst true true 3 []),(3, .lst true kR 3 kW),(6, .val (.list jk a2)),(7, .val (.int .i64 (a2.length : Int))),(8, .val (.list false []))],[bx 22 []],KK⟩)
theorem QjU (lb n : Nat) (jk : Bool) (a2 : LL) (kR : Bool) (kW : LL) :
 Qg1 lb n jk a2 kR kW =
 some (.list kR kW) := (Qab _).trans (by kernel_rfl)
theorem Qe2 (lb n nz : Nat) (jk : Bool) (a2 wL : LL) (wO : Int) :
 Qdw lb n (nz + 1) jk a2 wL wO =
 bif (decide (wO < (a2.length : Int))) then
 (optO (atL a2 wO) fun kj =>
 chkO (kj.length == 10) (
 optO (kj[0]?) fun j7 =>
 optO (kj[1]?) fun jY =>
 optO (kj[2]?) fun nQ =>
 optO (kj[3]?) fun n9 =>
 optO (kj[4]?) fun kQ =>
 optO (kj[5]?) fun vk =>
 optO (kj[6]?) fun oF =>
 optO (kj[7]?) fun oL =>
 optO (kj[8]?) fun o6 =>
 optO (kj[9]?) fun oO =>
 chkO (CV.isCell oO) (
 chkO (room (wL.length + 1) 8) (
 Qdw lb n nz jk a2 (wL ++ [[oO]]) (IntKind.wrap .i64 (wO + 1))))))
 else
 (Qg1 lb n jk a2 false wL) := (Qab _).trans (by kernel_rfl)
theorem QlB (lb n : Nat) (jk : Bool) (a2 : LL) :
 top lb n Qa2 [.list jk a2] =
 chkO (decide (0 ≤ (0 : Int)) && decide ((0 : Int) ≤ ((a2.length : Int) : Int)) && decide (((a2.length : Int) : Int) * 8 ≤ 140737488355328) && decide (((a2.length : Int) : Int) ≤ 140737488355328)) (
 Qdw lb n n jk a2 [] 0) := by kernel_rfl
theorem QnF (lb n : Nat) (a1 : LB) :
 top lb n QfV [.str a1] =
 optO (C lb n QeS [.str a1, .int .i64 6, .int .i64 6]) fun r2 =>
 some (r2) := by kernel_rfl
noncomputable def QdC (lb n : Nat) (awansegcar1 : LB) (awansegnum2 awansegday3 : Int) (awansegfro4 jm : LB) (awansegdep6 awansegarr7 : Int) (jr : LB) (ju jv : Int) (yA : Bool) (wL : LL) : Option CV :=
 hold (E0 lb n 0 996 (sub (B Qbs) [1,1,1,1]) (retK Tryz.prog (R Qbs) 0 (outK (Qad Tryz.prog Qbs))) ⟨fr 67 [(0, .val (.agg [.str awansegcar1, .int .i64 awansegnum2, .int .i64 awansegday3, .str awansegfro4, .str jm, .int .i64 awansegdep6, .int .i64 awansegarr7, .str jr, .int .i64 ju, .int .i64 jv])),(1, .ptr 0 1 0),(2, .lst true true 31 []),(3, .lst true yA 31 wL),(4, .ptr 0 4 0),(7, .ptr 0 1 0),(8, .ptr 0 1 0),(9, .val (.agg [.str awansegcar1, .int .i64 awansegnum2, .int .i64 awansegday3, .str awansegfro4, .str jm, .int .i64 awansegdep6, .int .i64 awansegarr7]))],[bx 67 [(1,some [vS awansegcar1,vI awansegnum2,vI awansegday3,vS awansegfro4,vS jm,vI awansegdep6,vI awansegarr7,vS jr,vI ju,vI jv]),(4,some [vS awansegcar1,vI awansegnum2,vI awansegday3,vS awansegfro4,vS jm,vI awansegdep6,vI awansegarr7])]],KK⟩)
noncomputable def QdH (lb n : Nat) (awansegcar1 : LB) (awansegnum2 awansegday3 : Int) (awansegfro4 jm : LB) (awansegdep6 awansegarr7 : Int) (jr : LB) (ju jv : Int) (kp : Bool) (vO : LL) : Option CV :=
 hold (E0 lb n 0 995 (sub (B Qbs) [1,1,1,1,1]) (retK Tryz.prog (R Qbs) 0 (outK (Qad Tryz.prog Qbs))) ⟨fr 67 [(0, .val (.agg [.str awansegcar1, .int .i64 awansegnum2, .int .i64 awansegday3, .str awansegfro4, .str jm, .int .i64 awansegdep6, .int .i64 awansegarr7, .str jr, .int .i64 ju, .int .i64 jv])),(1, .ptr 0 1 0),(2, .lst true true 31 []),(3, .lst true kp 31 vO),(4, .ptr 0 4 0),(7, .ptr 0 1 0),(8, .ptr 0 1 0),(9, .val (.agg [.str awansegcar1, .int .i64 awansegnum2, .int .i64 awansegday3, .str awansegfro4, .str jm, .int .i64 awansegdep6, .int .i64 awansegarr7]))],[bx 67 [(1,some [vS awansegcar1,vI awansegnum2,vI awansegday3,vS awansegfro4,vS jm,vI awansegdep6,vI awansegarr7,vS jr,vI ju,vI jv]),(4,some [vS awansegcar1,vI awansegnum2,vI awansegday3,vS awansegfro4,vS jm,vI awansegdep6,vI awansegarr7])]],KK⟩)
noncomputable def QfO (lb n : Nat) (awansegcar1 : LB) (awansegnum2 awansegday3 : Int) (awansegfro4 jm : LB) (awansegdep6 awansegarr7 : Int) (jr : LB) (ju jv : Int) (vH : Bool) (vM : LL) : Option CV :=
 hold (E0 lb n 0 994 (sub (B Qbs) [1,1,1,1,1,1]) (retK Tryz.prog (R Qbs) 0 (outK (Qad Tryz.prog Qbs))) ⟨fr 67 [(0, .val (.agg [.str awansegcar1, .int .i64 awansegnum2, .int .i64 awansegday3, .str awansegfro4, .str jm, .int .i64 awansegdep6, .int .i64 awansegarr7, .str jr, .int .i64 ju, .int .i64 jv])),(1, .ptr 0 1 0),(2, .lst true true 31 []),(3, .lst true vH 31 vM),(4, .ptr 0 4 0),(7, .ptr 0 1 0),(8, .ptr 0 1 0),(9, .val (.agg [.str awansegcar1, .int .i64 awansegnum2, .int .i64 awansegday3, .str awansegfro4, .str jm, .int .i64 awansegdep6, .int .i64 awansegarr7]))],[bx 67 [(1,some [vS awansegcar1,vI awansegnum2,vI awansegday3,vS awansegfro4,vS jm,vI awansegdep6,vI awansegarr7,vS jr,vI ju,vI jv]),(4,some [vS awansegcar1,vI awansegnum2,vI awansegday3,vS awansegfro4,vS jm,vI awansegdep6,vI awansegarr7])]],KK⟩)
theorem Qn1 (lb n : Nat) (awansegcar1 : LB) (awansegnum2 awansegday3 : Int) (awansegfro4 jm : LB) (awansegdep6 awansegarr7 : Int) (jr : LB) (ju jv : Int) (vH : Bool) (vM : LL) :
 QfO lb n awansegcar1 awansegnum2 awansegday3 awansegfro4 jm awansegdep6 awansegarr7 jr ju jv vH vM =
 optO (C lb n Qgk [.int .i64 ju]) fun jq =>
 optO (CV.asT jq) fun oB =>
 optO (oB[0]?) fun jH =>
 optO (CV.asT jq) fun mq =>
 optO (mq[1]?) fun jX =>
 optO (CV.asI .i64 jX) fun vN =>
 bif (vN != 0) then
 (chkO (room (vM.length + 1) 8) (
 some (.list (vH && false) (vM ++ [[CV.int .i64 10]]))))
 else
 (some (.list vH vM)) := (Qab _).trans (by kernel_rfl)
theorem Qoc (lb n : Nat) (awansegcar1 : LB) (awansegnum2 awansegday3 : Int) (awansegfro4 jm : LB) (awansegdep6 awansegarr7 : Int) (jr : LB) (ju jv : Int) (kp : Bool) (vO : LL) :
 QdH lb n awansegcar1 awansegnum2 awansegday3 awansegfro4 jm awansegdep6 awansegarr7 jr ju jv kp vO =
 optO (C lb n QjC [.str jr]) fun jt =>
 optO (CV.asB jt) fun yW =>
 bif (!yW) then
 (chkO (room (vO.length + 1) 8) (
 QfO lb n awansegcar1 awansegnum2 awansegday3 awansegfro4 jm awansegdep6 awansegarr7 jr ju jv (kp && false) (vO ++ [[CV.int .i64 16]])))
 else
 (QfO lb n awansegcar1 awansegnum2 awansegday3 awansegfro4 jm awansegdep6 awansegarr7 jr ju jv kp vO) := (Qab _).trans (by kernel_rfl)
theorem Qod (lb n : Nat) (awansegcar1 : LB) (awansegnum2 awansegday3 : Int) (awansegfro4 jm : LB) (awansegdep6 awansegarr7 : Int) (jr : LB) (ju jv : Int) (yA : Bool) (wL : LL) :
 QdC lb n awansegcar1 awansegnum2 awansegday3 awansegfro4 jm awansegdep6 awansegarr7 jr ju jv yA wL =
 bif (decide (awansegdep6 < 0)) then
 (chkO (room (wL.length + 1) 8) (
 QdH lb n awansegcar1 awansegnum2 awansegday3 awansegfro4 jm awansegdep6 awansegarr7 jr ju jv (yA && false) (wL ++ [[CV.int .i64 13]])))
 else
 (bif (decide (awansegdep6 ≥ awansegarr7)) then
 (chkO (room (wL.length + 1) 8) (
 QdH lb n awansegcar1 awansegnum2 awansegday3 awansegfro4 jm awansegdep6 awansegarr7 jr ju jv (yA && false) (wL ++ [[CV.int .i64 13]])))
 else
 (bif (decide (awansegarr7 ≥ 52596000)) then
 (chkO (room (wL.length + 1) 8) (
 QdH lb n awansegcar1 awansegnum2 awansegday3 awansegfro4 jm awansegdep6 awansegarr7 jr ju jv (yA && false) (wL ++ [[CV.int .i64 13]])))
 else
 (QdH lb n awansegcar1 awansegnum2 awansegday3 awansegfro4 jm awansegdep6 awansegarr7 jr ju jv yA wL))) := (Qab _).trans (by kernel_rfl)
theorem Qq7 (lb n : Nat) (awansegcar1 : LB) (awansegnum2 awansegday3 : Int) (awansegfro4 jm : LB) (awansegdep6 awansegarr7 : Int) (jr : LB) (ju jv : Int) :
 top lb n Qbs [.agg [.str awansegcar1, .int .i64 awansegnum2, .int .i64 awansegday3, .str awansegfro4, .str jm, .int .i64 awansegdep6, .int .i64 awansegarr7, .str jr, .int .i64 ju, .int .i64 jv]] =
 optO (C lb n Qhx [.str awansegcar1]) fun yL =>
 optO (CV.asB yL) fun yd =>
 bif (!yd) then
 (QdC lb n awansegcar1 awansegnum2 awansegday3 awansegfro4 jm awansegdep6 awansegarr7 jr ju jv false [[CV.int .i64 5]])
 else
 (optO (C lb n QfK [.str awansegfro4]) fun o8 =>
 optO (CV.asB o8) fun ki =>
 bif (!ki) then
 (QdC lb n awansegcar1 awansegnum2 awansegday3 awansegfro4 jm awansegdep6 awansegarr7 jr ju jv false [[CV.int .i64 5]])
 else
 (optO (C lb n QfK [.str jm]) fun qH =>
 optO (CV.asB qH) fun pi =>
 bif (!pi) then
 (QdC lb n awansegcar1 awansegnum2 awansegday3 awansegfro4 jm awansegdep6 awansegarr7 jr ju jv false [[CV.int .i64 5]])
 else
 (QdC lb n awansegcar1 awansegnum2 awansegday3 awansegfro4 jm awansegdep6 awansegarr7 jr ju jv true []))) := by kernel_rfl
end Go.Proofs
