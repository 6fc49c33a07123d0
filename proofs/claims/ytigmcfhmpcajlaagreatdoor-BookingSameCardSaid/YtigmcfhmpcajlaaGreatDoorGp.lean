/- Equations of functions, printed by program. Conditions: none. -/
import Derived.Test.YtigmcfhmpcajlaaGreatDoorEv
namespace Go.Proofs
open Go.Am
set_option maxRecDepth 100000
set_option linter.unusedVariables false
noncomputable def booking_Parse_L1 :=
 fun lb n (wP : Nat) w9 wm wQ (wL : Bool) (l157 : LL) wR (wI : Bool) (l160 : LL) (wJ : Bool) (l162 : LL) wS v164 =>
 hold (QaR (E0 lb n 0 992) 0 (Qay (sub (B Qau) [1, 1, 1, 1, 0, 1, 0, 0]) ++ [7, 8, 9, 10]) [] (sub (B Qau) [1, 1, 1, 1, 0, 1, 0, 0]) (QaS 0 (seqK (E0 lb n 0 995) (sub (B Qau) [1, 1, 1, 1, 0]) (sub (B Qau) [1, 1, 1, 1, 1]) (retK Tryz.prog (R Qau) 0 (outK (Qan Tryz.prog Qau))))) wP ⟨fr 56 [(0, vV w9), (2, .ptr 0 2 0), (3, vI 0), (4, vI 0), (5, .ptr 0 5 0), (6, vI wm)], [bx 56 [(2, some [.val (.str []), .lst true true 89 [], vI 0, .lst true true 39 [], .lst true true 70 [], vI 0]), (5, some [.val wQ, .lst true wL 89 l157, .val wR, .lst true wI 39 l160, .lst true wJ 70 l162, .val wS, .val v164])]], KK⟩)
noncomputable def QeT (lb n : Nat) (y5 : CV) (vb : Int) (yi : CV) (yg : Bool) (yu : LL) (yo : CV) (yj : Bool) (yp : LL) (yt : Bool) (ym : LL) (yv y2 : CV) : Option CV :=
 hold (E0 lb n 0 995 (sub (B Qau) [1, 1, 1, 1, 1]) (retK Tryz.prog (R Qau) 0 (outK (Qan Tryz.prog Qau))) ⟨fr 56 [(0, vV y5), (2, .ptr 0 2 0), (3, vI 0), (4, vI 0), (5, .ptr 0 5 0), (6, vI vb)], [bx 56 [(2, some [.val (.str []), .lst true true 89 [], vI 0, .lst true true 39 [], .lst true true 70 [], vI 0]), (5, some [.val yi, .lst true yg 89 yu, .val yo, .lst true yj 39 yp, .lst true yt 70 ym, .val yv, .val y2])]], KK⟩)
theorem QgK (lb n : Nat) (y5 : CV) (vb : Int) (yi : CV) (yg : Bool) (yu : LL) (yo : CV) (yj : Bool) (yp : LL) (yt : Bool) (ym : LL) (yv y2 : CV) :
 QeT lb n y5 vb yi yg yu yo yj yp yt ym yv y2 =
 optO (C lb n Qb6 [.agg [yi, .list yg yu, yo, .list yj yp, .list yt ym, yv]]) fun vA =>
 optO (CV.asL vA) fun oD =>
 bif (decide ((oD.2.length : Int) > 0)) then
 (optO (CV.asL vA) fun gq =>
 optO (atL gq.2 0) fun c399 =>
 chkO (c399.length == 2) (
 optO (c399[0]?) fun mt =>
 some (.tup [.agg [.str [], .list true [], .int .i64 0, .list true [], .list true [], .int .i64 0], .int .i64 0, mt])))
 else
 (some (.tup [.agg [yi, .list yg yu, yo, .list yj yp, .list yt ym, yv], .int .i64 0, .int .i64 0])) := (Qaj _).trans (by kernel_rfl)
theorem QaQ (lb n wP : Nat) (w9 : CV) (wm : Int) (wQ : CV) (wL : Bool) (l157 : LL) (wR : CV) (wI : Bool) (l160 : LL) (wJ : Bool) (l162 : LL) (wS v164 : CV) :
 booking_Parse_L1 lb n (wP + 1) w9 wm wQ wL l157 wR wI l160 wJ l162 wS v164 =
 optO (CV.asS w9) fun kT =>
 bif (!(kT == [])) then
 (optO (C lb n Qbd [w9, .str [10]]) fun yR =>
 optO (CV.asT yR) fun oB =>
 optO (oB[0]?) fun yr =>
 optO (CV.asT yR) fun kM =>
 optO (kM[1]?) fun w6 =>
 optO (CV.asT yR) fun gh =>
 optO (gh[2]?) fun gz =>
 optO (CV.asB gz) fun oX =>
 bif (!oX) then
 (some (.tup [.agg [.str [], .list true [], .int .i64 0, .list true [], .list true [], .int .i64 0], .int .i64 wm, .int .i64 3]))
 else
 (optO (C lb n Qav [yr]) fun kh =>
 optO (CV.asT kh) fun kU =>
 optO (kU[0]?) fun wV =>
 optO (CV.asT kh) fun mC =>
 optO (mC[1]?) fun yY =>
 optO (CV.asI .i64 yY) fun oI =>
 bif (oI != 0) then
 (optO (CV.asI .i64 yY) fun gF =>
 bif (gF != 0) then
 (some (.tup [.agg [.str [], .list true [], .int .i64 0, .list true [], .list true [], .int .i64 0], .int .i64 wm, yY]))
 else
 (booking_Parse_L1 lb n wP  w6 (IntKind.wrap .i64 (wm + 1)) wQ wL l157 wR wI l160 wJ l162 wS v164))
 else
 (optO (CV.asL wV) fun oS =>
 bif ((oS.2.length : Int) == 0) then
 (some (.tup [.agg [.str [], .list true [], .int .i64 0, .list true [], .list true [], .int .i64 0], .int .i64 wm, .int .i64 3]))
 else
 (optO (CV.asL wV) fun kF =>
 optO (atL kF.2 0) fun c293 =>
 chkO (c293.length == 1) (
 optO (c293[0]?) fun kX =>
 optO (C lb n Qbl [.list false [[CV.str [98, 111, 111, 107, 105, 110, 103]], [CV.str [112, 101, 114, 115, 111, 110]], [CV.str [115, 101, 103]], [CV.str [115, 101, 114, 118, 105, 99, 101]]], kX]) fun wA =>
 optO (CV.asI .i64 wA) fun oM =>
 bif (decide (oM < 0)) then
 (some (.tup [.agg [.str [], .list true [], .int .i64 0, .list true [], .list true [], .int .i64 0], .int .i64 wm, .int .i64 3]))
 else
 (optO (CV.asI .i64 wA) fun oj =>
 bif (!((oj == 0) == (wm == 1))) then
 (some (.tup [.agg [.str [], .list true [], .int .i64 0, .list true [], .list true [], .int .i64 0], .int .i64 wm, .int .i64 3]))
 else
 (optO (CV.asI .i64 wA) fun kR =>
 optO (CV.asI .i64 v164) fun gt =>
 bif (decide (kR < gt)) then
 (some (.tup [.agg [.str [], .list true [], .int .i64 0, .list true [], .list true [], .int .i64 0], .int .i64 wm, .int .i64 3]))
 else
 (chkO (CV.isCell wA) (
 optO (CV.asL wV) fun g9 =>
 optO (CV.asN wA) fun gO =>
 optO (atL [[CV.int .i64 4], [CV.int .i64 2], [CV.int .i64 11], [CV.int .i64 4]] gO) fun c302 =>
 chkO (c302.length == 1) (
 optO (c302[0]?) fun kJ =>
 optO (CV.asI .i64 kJ) fun mG =>
 bif ((g9.2.length : Int) != mG) then
 (some (.tup [.agg [.str [], .list true [], .int .i64 0, .list true [], .list true [], .int .i64 0], .int .i64 wm, .int .i64 3]))
 else
 (optO (CV.asI .i64 wA) fun oQ =>
 bif (oQ == 0) then
 (optO (CV.asL wV) fun yq =>
 chkO (yq.2.all (·.length == 1)) (
 chkO (decide ((0 : Int) ≤ 2 ∧ 2 ≤ (yq.2.length : Int))) (
 optO (C lb n Qcd [.list yq.1 ((yq.2.take ((yq.2.length : Int).toNat)).drop 2)]) fun vQ =>
 optO (CV.asT vQ) fun gx =>
 optO (gx[0]?) fun vN =>
 optO (CV.asT vQ) fun oa =>
 optO (oa[1]?) fun gn =>
 optO (CV.asB gn) fun oK =>
 bif (!oK) then
 (some (.tup [.agg [.str [], .list true [], .int .i64 0, .list true [], .list true [], .int .i64 0], .int .i64 wm, .int .i64 3]))
 else
 (optO (CV.asL wV) fun oE =>
 optO (atL oE.2 1) fun c314 =>
 chkO (c314.length == 1) (
 optO (c314[0]?) fun yZ =>
 optO (CV.asL vN) fun mD =>
 optO (atL mD.2 0) fun c317 =>
 chkO (c317.length == 1) (
 optO (c317[0]?) fun y4 =>
 optO (CV.asL vN) fun gj =>
 optO (atL gj.2 1) fun c320 =>
 chkO (c320.length == 1) (
 optO (c320[0]?) fun yV =>
 chkO (CV.isCell yZ) (
 chkO (CV.isCell y4) (
 chkO (CV.isCell yV) (
 optO (C lb n Qef [.agg [yZ, .list wL l157, yV, .list wI l160, .list wJ l162, y4]]) fun mw =>
 optO (CV.asS mw) fun oN =>
 optO (CV.asS yr) fun kP =>
 bif (!(oN == kP)) then
 (some (.tup [.agg [.str [], .list true [], .int .i64 0, .list true [], .list true [], .int .i64 0], .int .i64 wm, .int .i64 3]))
 else
 (booking_Parse_L1 lb n wP  w6 (IntKind.wrap .i64 (wm + 1)) yZ wL l157 yV wI l160 wJ l162 y4 wA)))))))))))
 else
 (optO (CV.asI .i64 wA) fun o4 =>
 bif (o4 == 1) then
 (optO (CV.asL wV) fun gD =>
 optO (atL gD.2 1) fun c327 =>
 chkO (c327.length == 1) (
 optO (c327[0]?) fun og =>
 optO (C lb n Qeq [og]) fun vJ =>
 optO (CV.asT vJ) fun gb =>
 optO (gb[0]?) fun kH =>
 optO (CV.asT vJ) fun gY =>
 optO (gY[1]?) fun yT =>
 optO (CV.asA kH) fun c334 =>
 chkO (c334.length == 3) (
 optO (c334[0]?) fun kj =>
 optO (c334[1]?) fun vP =>
 optO (c334[2]?) fun vC =>
 optO (CV.asI .i64 yT) fun gA =>
 bif (gA != 0) then
 (optO (CV.asI .i64 yT) fun gu =>
 bif (gu != 0) then
 (some (.tup [.agg [.str [], .list true [], .int .i64 0, .list true [], .list true [], .int .i64 0], .int .i64 wm, yT]))
 else
 (booking_Parse_L1 lb n wP  w6 (IntKind.wrap .i64 (wm + 1)) wQ wL l157 wR wI l160 wJ l162 wS wA))
 else
 (chkO (room (l157.length + 1) 48) (
 optO (C lb n Qcs [.agg [kj, vP, vC]]) fun oh =>
 optO (CV.asS oh) fun gQ =>
 optO (CV.asS yr) fun gM =>
 bif (!(gQ == gM)) then
 (some (.tup [.agg [.str [], .list true [], .int .i64 0, .list true [], .list true [], .int .i64 0], .int .i64 wm, .int .i64 3]))
 else
 (booking_Parse_L1 lb n wP  w6 (IntKind.wrap .i64 (wm + 1)) wQ (wL && false) (l157 ++ [[kj, vP, vC]]) wR wI l160 wJ l162 wS wA))))))
 else
 (optO (CV.asI .i64 wA) fun oV =>
 bif (oV == 2) then
 (optO (C lb n Qc1 [wV]) fun vH =>
 optO (CV.asT vH) fun ma =>
 optO (ma[0]?) fun mn =>
 optO (CV.asT vH) fun gR =>
 optO (gR[1]?) fun vc =>
 optO (CV.asA mn) fun c349 =>
 chkO (c349.length == 10) (
 optO (c349[0]?) fun vR =>
 optO (c349[1]?) fun vL =>
 optO (c349[2]?) fun kb =>
 optO (c349[3]?) fun v7 =>
 optO (c349[4]?) fun vM =>
 optO (c349[5]?) fun vD =>
 optO (c349[6]?) fun vG =>
 optO (c349[7]?) fun vW =>
 optO (c349[8]?) fun vw =>
 optO (c349[9]?) fun v8 =>
 optO (CV.asI .i64 vc) fun kY =>
 bif (kY != 0) then
 (optO (CV.asI .i64 vc) fun ot =>
 bif (ot != 0) then
 (some (.tup [.agg [.str [], .list true [], .int .i64 0, .list true [], .list true [], .int .i64 0], .int .i64 wm, vc]))
 else
 (booking_Parse_L1 lb n wP  w6 (IntKind.wrap .i64 (wm + 1)) wQ wL l157 wR wI l160 wJ l162 wS wA))
 else
 (chkO (room (l160.length + 1) 112) (
 optO (C lb n Qc0 [.agg [vR, vL, kb, v7, vM, vD, vG, vW, vw, v8]]) fun oz =>
 optO (CV.asS oz) fun gX =>
 optO (CV.asS yr) fun k8 =>
 bif (!(gX == k8)) then
 (some (.tup [.agg [.str [], .list true [], .int .i64 0, .list true [], .list true [], .int .i64 0], .int .i64 wm, .int .i64 3]))
 else
 (booking_Parse_L1 lb n wP  w6 (IntKind.wrap .i64 (wm + 1)) wQ wL l157 wR (wI && false) (l160 ++ [[vR, vL, kb, v7, vM, vD, vG, vW, vw, v8]]) wJ l162 wS wA)))))
 else
 (optO (CV.asL wV) fun yl =>
 chkO (yl.2.all (·.length == 1)) (
 chkO (decide ((0 : Int) ≤ 2 ∧ 2 ≤ (yl.2.length : Int))) (
 optO (C lb n Qcd [.list yl.1 ((yl.2.take ((yl.2.length : Int).toNat)).drop 2)]) fun ke =>
 optO (CV.asT ke) fun gU =>
 optO (gU[0]?) fun vO =>
 optO (CV.asT ke) fun oC =>
 optO (oC[1]?) fun mF =>
 optO (CV.asB mF) fun gG =>
 bif (!gG) then
 (some (.tup [.agg [.str [], .list true [], .int .i64 0, .list true [], .list true [], .int .i64 0], .int .i64 wm, .int .i64 3]))
 else
 (optO (CV.asL wV) fun mo =>
 optO (atL mo.2 1) fun c373 =>
 chkO (c373.length == 1) (
 optO (c373[0]?) fun y8 =>
 optO (CV.asL vO) fun mh =>
 optO (atL mh.2 0) fun c376 =>
 chkO (c376.length == 1) (
 optO (c376[0]?) fun yW =>
 optO (CV.asL vO) fun oO =>
 optO (atL oO.2 1) fun c379 =>
 chkO (c379.length == 1) (
 optO (c379[0]?) fun y1 =>
 chkO (CV.isCell y8) (
 chkO (CV.isCell yW) (
 chkO (CV.isCell y1) (
 chkO (room (l162.length + 1) 32) (
 optO (C lb n Qdl [.agg [y8, yW, y1]]) fun k0 =>
 optO (CV.asS k0) fun kK =>
 optO (CV.asS yr) fun o9 =>
 bif (!(kK == o9)) then
 (some (.tup [.agg [.str [], .list true [], .int .i64 0, .list true [], .list true [], .int .i64 0], .int .i64 wm, .int .i64 3]))
 else
 (booking_Parse_L1 lb n wP  w6 (IntKind.wrap .i64 (wm + 1)) wQ wL l157 wR wI l160 (wJ && false) (l162 ++ [[y8, yW, y1]]) wS wA)))))))))))))))))))))))))
 else
 (QeT lb n  w9 wm wQ wL l157 wR wI l160 wJ l162 wS v164) := (Qaj _).trans (by kernel_rfl)
theorem Qir (lb n : Nat) (a1 : LB) :
 top lb n Qau [.str a1] =
 bif (decide ((a1.length : Int) > 65536)) then
 (some (.tup [.agg [.str [], .list true [], .int .i64 0, .list true [], .list true [], .int .i64 0], .int .i64 0, .int .i64 4]))
 else
 (bif (a1 == []) then
 (some (.tup [.agg [.str [], .list true [], .int .i64 0, .list true [], .list true [], .int .i64 0], .int .i64 1, .int .i64 3]))
 else
 (booking_Parse_L1 lb n n  (.str a1) 1 (.str []) true [] (.int .i64 0) true [] true [] (.int .i64 0) (.int .i64 0))) := by kernel_rfl
end Go.Proofs
