/- Equations of functions, printed by program. Conditions: none. -/
import Derived.Test.YtigmcfhmpcajlaaGreatDoorEv
namespace Go.Proofs
open Go.Am
set_option maxRecDepth 100000
set_option linter.unusedVariables false
noncomputable def booking_Parse_L1 :=
 fun lb n (yC : Nat) vb wC yz (yo : Bool) (l157 : LL) yB (yq : Bool) (l160 : LL) (yh : Bool) (l162 : LL) yA v164 =>
 hold (QaC (E0 lb n 0 992) 0 (Qak (sub (B QaF) [1, 1, 1, 1, 0, 1, 0, 0]) ++ [7, 8, 9, 10]) [] (sub (B QaF) [1, 1, 1, 1, 0, 1, 0, 0]) (Qao 0 (seqK (E0 lb n 0 995) (sub (B QaF) [1, 1, 1, 1, 0]) (sub (B QaF) [1, 1, 1, 1, 1]) (retK Tryz.prog (R QaF) 0 (outK (Qaf Tryz.prog QaF))))) yC ⟨fr 56 [(0, vV vb), (2, .ptr 0 2 0), (3, vI 0), (4, vI 0), (5, .ptr 0 5 0), (6, vI wC)], [bx 56 [(2, some [.val (.str []), .lst true true 89 [], vI 0, .lst true true 39 [], .lst true true 70 [], vI 0]), (5, some [.val yz, .lst true yo 89 l157, .val yB, .lst true yq 39 l160, .lst true yh 70 l162, .val yA, .val v164])]], KK⟩)
noncomputable def QhB (lb n : Nat) (kK : CV) (kS : Int) (vz : CV) (vA : Bool) (vr : LL) (vm : CV) (vq : Bool) (vt : LL) (vH : Bool) (vC : LL) (vG kP : CV) : Option CV :=
 hold (E0 lb n 0 995 (sub (B QaF) [1, 1, 1, 1, 1]) (retK Tryz.prog (R QaF) 0 (outK (Qaf Tryz.prog QaF))) ⟨fr 56 [(0, vV kK), (2, .ptr 0 2 0), (3, vI 0), (4, vI 0), (5, .ptr 0 5 0), (6, vI kS)], [bx 56 [(2, some [.val (.str []), .lst true true 89 [], vI 0, .lst true true 39 [], .lst true true 70 [], vI 0]), (5, some [.val vz, .lst true vA 89 vr, .val vm, .lst true vq 39 vt, .lst true vH 70 vC, .val vG, .val kP])]], KK⟩)
theorem Qj2 (lb n : Nat) (kK : CV) (kS : Int) (vz : CV) (vA : Bool) (vr : LL) (vm : CV) (vq : Bool) (vt : LL) (vH : Bool) (vC : LL) (vG kP : CV) :
 QhB lb n kK kS vz vA vr vm vq vt vH vC vG kP =
 optO (C lb n Qaa [.agg [vz, .list vA vr, vm, .list vq vt, .list vH vC, vG]]) fun go =>
 optO (CV.asL go) fun gV =>
 bif (decide ((gV.2.length : Int) > 0)) then
 (optO (CV.asL go) fun mh =>
 optO (atL mh.2 0) fun c399 =>
 chkO (c399.length == 2) (
 optO (c399[0]?) fun nS =>
 some (.tup [.agg [.str [], .list true [], .int .i64 0, .list true [], .list true [], .int .i64 0], .int .i64 0, nS])))
 else
 (some (.tup [.agg [vz, .list vA vr, vm, .list vq vt, .list vH vC, vG], .int .i64 0, .int .i64 0])) := (Qae _).trans (by kernel_rfl)
theorem Qbf (lb n yC : Nat) (vb : CV) (wC : Int) (yz : CV) (yo : Bool) (l157 : LL) (yB : CV) (yq : Bool) (l160 : LL) (yh : Bool) (l162 : LL) (yA v164 : CV) :
 booking_Parse_L1 lb n (yC + 1) vb wC yz yo l157 yB yq l160 yh l162 yA v164 =
 optO (CV.asS vb) fun nq =>
 bif (!(nq == [])) then
 (optO (C lb n QbH [vb, .str [10]]) fun kC =>
 optO (CV.asT kC) fun m6 =>
 optO (m6[0]?) fun vJ =>
 optO (CV.asT kC) fun gP =>
 optO (gP[1]?) fun y3 =>
 optO (CV.asT kC) fun mV =>
 optO (mV[2]?) fun nu =>
 optO (CV.asB nu) fun gQ =>
 bif (!gQ) then
 (some (.tup [.agg [.str [], .list true [], .int .i64 0, .list true [], .list true [], .int .i64 0], .int .i64 wC, .int .i64 3]))
 else
 (optO (C lb n QaN [vJ]) fun gp =>
 optO (CV.asT gp) fun nr =>
 optO (nr[0]?) fun yJ =>
 optO (CV.asT gp) fun gK =>
 optO (gK[1]?) fun kN =>
 optO (CV.asI .i64 kN) fun mB =>
 bif (mB != 0) then
 (optO (CV.asI .i64 kN) fun nk =>
 bif (nk != 0) then
 (some (.tup [.agg [.str [], .list true [], .int .i64 0, .list true [], .list true [], .int .i64 0], .int .i64 wC, kN]))
 else
 (booking_Parse_L1 lb n yC  y3 (IntKind.wrap .i64 (wC + 1)) yz yo l157 yB yq l160 yh l162 yA v164))
 else
 (optO (CV.asL yJ) fun nd =>
 bif ((nd.2.length : Int) == 0) then
 (some (.tup [.agg [.str [], .list true [], .int .i64 0, .list true [], .list true [], .int .i64 0], .int .i64 wC, .int .i64 3]))
 else
 (optO (CV.asL yJ) fun ne =>
 optO (atL ne.2 0) fun c293 =>
 chkO (c293.length == 1) (
 optO (c293[0]?) fun mC =>
 optO (C lb n QbQ [.list false [[CV.str [98, 111, 111, 107, 105, 110, 103]], [CV.str [112, 101, 114, 115, 111, 110]], [CV.str [115, 101, 103]], [CV.str [115, 101, 114, 118, 105, 99, 101]]], mC]) fun yb =>
 optO (CV.asI .i64 yb) fun mg =>
 bif (decide (mg < 0)) then
 (some (.tup [.agg [.str [], .list true [], .int .i64 0, .list true [], .list true [], .int .i64 0], .int .i64 wC, .int .i64 3]))
 else
 (optO (CV.asI .i64 yb) fun mK =>
 bif (!((mK == 0) == (wC == 1))) then
 (some (.tup [.agg [.str [], .list true [], .int .i64 0, .list true [], .list true [], .int .i64 0], .int .i64 wC, .int .i64 3]))
 else
 (optO (CV.asI .i64 yb) fun nU =>
 optO (CV.asI .i64 v164) fun mW =>
 bif (decide (nU < mW)) then
 (some (.tup [.agg [.str [], .list true [], .int .i64 0, .list true [], .list true [], .int .i64 0], .int .i64 wC, .int .i64 3]))
 else
 (chkO (CV.isCell yb) (
 optO (CV.asL yJ) fun gL =>
 optO (CV.asN yb) fun ni =>
 optO (atL [[CV.int .i64 4], [CV.int .i64 2], [CV.int .i64 11], [CV.int .i64 4]] ni) fun c302 =>
 chkO (c302.length == 1) (
 optO (c302[0]?) fun ng =>
 optO (CV.asI .i64 ng) fun mt =>
 bif ((gL.2.length : Int) != mt) then
 (some (.tup [.agg [.str [], .list true [], .int .i64 0, .list true [], .list true [], .int .i64 0], .int .i64 wC, .int .i64 3]))
 else
 (optO (CV.asI .i64 yb) fun n5 =>
 bif (n5 == 0) then
 (optO (CV.asL yJ) fun vF =>
 chkO (vF.2.all (·.length == 1)) (
 chkO (decide ((0 : Int) ≤ 2 ∧ 2 ≤ (vF.2.length : Int))) (
 optO (C lb n Qdg [.list vF.1 ((vF.2.take ((vF.2.length : Int).toNat)).drop 2)]) fun oT =>
 optO (CV.asT oT) fun mP =>
 optO (mP[0]?) fun oD =>
 optO (CV.asT oT) fun my =>
 optO (my[1]?) fun md =>
 optO (CV.asB md) fun nL =>
 bif (!nL) then
 (some (.tup [.agg [.str [], .list true [], .int .i64 0, .list true [], .list true [], .int .i64 0], .int .i64 wC, .int .i64 3]))
 else
 (optO (CV.asL yJ) fun nD =>
 optO (atL nD.2 1) fun c314 =>
 chkO (c314.length == 1) (
 optO (c314[0]?) fun kM =>
 optO (CV.asL oD) fun mq =>
 optO (atL mq.2 0) fun c317 =>
 chkO (c317.length == 1) (
 optO (c317[0]?) fun kW =>
 optO (CV.asL oD) fun gN =>
 optO (atL gN.2 1) fun c320 =>
 chkO (c320.length == 1) (
 optO (c320[0]?) fun kQ =>
 chkO (CV.isCell kM) (
 chkO (CV.isCell kW) (
 chkO (CV.isCell kQ) (
 optO (C lb n Qgw [.agg [kM, .list yo l157, kQ, .list yq l160, .list yh l162, kW]]) fun nZ =>
 optO (CV.asS nZ) fun nm =>
 optO (CV.asS vJ) fun mH =>
 bif (!(nm == mH)) then
 (some (.tup [.agg [.str [], .list true [], .int .i64 0, .list true [], .list true [], .int .i64 0], .int .i64 wC, .int .i64 3]))
 else
 (booking_Parse_L1 lb n yC  y3 (IntKind.wrap .i64 (wC + 1)) kM yo l157 kQ yq l160 yh l162 kW yb)))))))))))
 else
 (optO (CV.asI .i64 yb) fun nQ =>
 bif (nQ == 1) then
 (optO (CV.asL yJ) fun gM =>
 optO (atL gM.2 1) fun c327 =>
 chkO (c327.length == 1) (
 optO (c327[0]?) fun mG =>
 optO (C lb n QgO [mG]) fun oA =>
 optO (CV.asT oA) fun mw =>
 optO (mw[0]?) fun nF =>
 optO (CV.asT oA) fun mb =>
 optO (mb[1]?) fun kE =>
 optO (CV.asA nF) fun c334 =>
 chkO (c334.length == 3) (
 optO (c334[0]?) fun oz =>
 optO (c334[1]?) fun oJ =>
 optO (c334[2]?) fun oY =>
 optO (CV.asI .i64 kE) fun mI =>
 bif (mI != 0) then
 (optO (CV.asI .i64 kE) fun nV =>
 bif (nV != 0) then
 (some (.tup [.agg [.str [], .list true [], .int .i64 0, .list true [], .list true [], .int .i64 0], .int .i64 wC, kE]))
 else
 (booking_Parse_L1 lb n yC  y3 (IntKind.wrap .i64 (wC + 1)) yz yo l157 yB yq l160 yh l162 yA yb))
 else
 (chkO (room (l157.length + 1) 48) (
 optO (C lb n Qdu [.agg [oz, oJ, oY]]) fun nK =>
 optO (CV.asS nK) fun gW =>
 optO (CV.asS vJ) fun m5 =>
 bif (!(gW == m5)) then
 (some (.tup [.agg [.str [], .list true [], .int .i64 0, .list true [], .list true [], .int .i64 0], .int .i64 wC, .int .i64 3]))
 else
 (booking_Parse_L1 lb n yC  y3 (IntKind.wrap .i64 (wC + 1)) yz (yo && false) (l157 ++ [[oz, oJ, oY]]) yB yq l160 yh l162 yA yb))))))
 else
 (optO (CV.asI .i64 yb) fun nh =>
 bif (nh == 2) then
 (optO (C lb n Qex [yJ]) fun gj =>
 optO (CV.asT gj) fun ma =>
 optO (ma[0]?) fun m7 =>
 optO (CV.asT gj) fun mF =>
 optO (mF[1]?) fun kA =>
 optO (CV.asA m7) fun c349 =>
 chkO (c349.length == 10) (
 optO (c349[0]?) fun gk =>
 optO (c349[1]?) fun oZ =>
 optO (c349[2]?) fun gu =>
 optO (c349[3]?) fun oR =>
 optO (c349[4]?) fun oN =>
 optO (c349[5]?) fun o7 =>
 optO (c349[6]?) fun oK =>
 optO (c349[7]?) fun o5 =>
 optO (c349[8]?) fun gt =>
 optO (c349[9]?) fun gx =>
 optO (CV.asI .i64 kA) fun nv =>
 bif (nv != 0) then
 (optO (CV.asI .i64 kA) fun nx =>
 bif (nx != 0) then
 (some (.tup [.agg [.str [], .list true [], .int .i64 0, .list true [], .list true [], .int .i64 0], .int .i64 wC, kA]))
 else
 (booking_Parse_L1 lb n yC  y3 (IntKind.wrap .i64 (wC + 1)) yz yo l157 yB yq l160 yh l162 yA yb))
 else
 (chkO (room (l160.length + 1) 112) (
 optO (C lb n QeA [.agg [gk, oZ, gu, oR, oN, o7, oK, o5, gt, gx]]) fun mL =>
 optO (CV.asS mL) fun gS =>
 optO (CV.asS vJ) fun mD =>
 bif (!(gS == mD)) then
 (some (.tup [.agg [.str [], .list true [], .int .i64 0, .list true [], .list true [], .int .i64 0], .int .i64 wC, .int .i64 3]))
 else
 (booking_Parse_L1 lb n yC  y3 (IntKind.wrap .i64 (wC + 1)) yz yo l157 yB (yq && false) (l160 ++ [[gk, oZ, gu, oR, oN, o7, oK, o5, gt, gx]]) yh l162 yA yb)))))
 else
 (optO (CV.asL yJ) fun vD =>
 chkO (vD.2.all (·.length == 1)) (
 chkO (decide ((0 : Int) ≤ 2 ∧ 2 ≤ (vD.2.length : Int))) (
 optO (C lb n Qdg [.list vD.1 ((vD.2.take ((vD.2.length : Int).toNat)).drop 2)]) fun gn =>
 optO (CV.asT gn) fun nM =>
 optO (nM[0]?) fun gb =>
 optO (CV.asT gn) fun m9 =>
 optO (m9[1]?) fun mz =>
 optO (CV.asB mz) fun mu =>
 bif (!mu) then
 (some (.tup [.agg [.str [], .list true [], .int .i64 0, .list true [], .list true [], .int .i64 0], .int .i64 wC, .int .i64 3]))
 else
 (optO (CV.asL yJ) fun mO =>
 optO (atL mO.2 1) fun c373 =>
 chkO (c373.length == 1) (
 optO (c373[0]?) fun kF =>
 optO (CV.asL gb) fun ny =>
 optO (atL ny.2 0) fun c376 =>
 chkO (c376.length == 1) (
 optO (c376[0]?) fun kU =>
 optO (CV.asL gb) fun n8 =>
 optO (atL n8.2 1) fun c379 =>
 chkO (c379.length == 1) (
 optO (c379[0]?) fun kI =>
 chkO (CV.isCell kF) (
 chkO (CV.isCell kU) (
 chkO (CV.isCell kI) (
 chkO (room (l162.length + 1) 32) (
 optO (C lb n Qfc [.agg [kF, kU, kI]]) fun nH =>
 optO (CV.asS nH) fun nY =>
 optO (CV.asS vJ) fun n4 =>
 bif (!(nY == n4)) then
 (some (.tup [.agg [.str [], .list true [], .int .i64 0, .list true [], .list true [], .int .i64 0], .int .i64 wC, .int .i64 3]))
 else
 (booking_Parse_L1 lb n yC  y3 (IntKind.wrap .i64 (wC + 1)) yz yo l157 yB yq l160 (yh && false) (l162 ++ [[kF, kU, kI]]) yA yb)))))))))))))))))))))))))
 else
 (QhB lb n  vb wC yz yo l157 yB yq l160 yh l162 yA v164) := (Qae _).trans (by kernel_rfl)
theorem QlZ (lb n : Nat) (a1 : LB) :
 top lb n QaF [.str a1] =
 bif (decide ((a1.length : Int) > 65536)) then
 (some (.tup [.agg [.str [], .list true [], .int .i64 0, .list true [], .list true [], .int .i64 0], .int .i64 0, .int .i64 4]))
 else
 (bif (a1 == []) then
 (some (.tup [.agg [.str [], .list true [], .int .i64 0, .list true [], .list true [], .int .i64 0], .int .i64 1, .int .i64 3]))
 else
 (booking_Parse_L1 lb n n  (.str a1) 1 (.str []) true [] (.int .i64 0) true [] true [] (.int .i64 0) (.int .i64 0))) := by kernel_rfl
end Go.Proofs
