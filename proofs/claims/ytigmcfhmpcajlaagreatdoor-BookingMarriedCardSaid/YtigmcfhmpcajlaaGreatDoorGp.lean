/- Equations of functions, printed by program. Conditions: none. -/
import Derived.Test.YtigmcfhmpcajlaaGreatDoorEv
namespace Go.Proofs
open Go.Am
set_option maxRecDepth 100000
set_option linter.unusedVariables false
noncomputable def booking_Parse_L1 :=
 fun lb n (va : Nat) vY wR y5 (yI : Bool) (l157 : LL) vc (yK : Bool) (l160 : LL) (yO : Bool) (l162 : LL) y7 v164 =>
 hold (Qau (E0 lb n 0 992) 0 (Qaj (sub (B QaP) [1, 1, 1, 1, 0, 1, 0, 0]) ++ [7, 8, 9, 10]) [] (sub (B QaP) [1, 1, 1, 1, 0, 1, 0, 0]) (Qal 0 (seqK (E0 lb n 0 995) (sub (B QaP) [1, 1, 1, 1, 0]) (sub (B QaP) [1, 1, 1, 1, 1]) (retK Tryz.prog (R QaP) 0 (outK (Qae Tryz.prog QaP))))) va ⟨fr 56 [(0, vV vY), (2, .ptr 0 2 0), (3, vI 0), (4, vI 0), (5, .ptr 0 5 0), (6, vI wR)], [bx 56 [(2, some [.val (.str []), .lst true true 89 [], vI 0, .lst true true 39 [], .lst true true 70 [], vI 0]), (5, some [.val y5, .lst true yI 89 l157, .val vc, .lst true yK 39 l160, .lst true yO 70 l162, .val y7, .val v164])]], KK⟩)
noncomputable def Qit (lb n : Nat) (gb : CV) (oO : Int) (kF : CV) (kp : Bool) (ku : LL) (ko : CV) (kH : Bool) (kj : LL) (kl : Bool) (kB : LL) (kC oP : CV) : Option CV :=
 hold (E0 lb n 0 995 (sub (B QaP) [1, 1, 1, 1, 1]) (retK Tryz.prog (R QaP) 0 (outK (Qae Tryz.prog QaP))) ⟨fr 56 [(0, vV gb), (2, .ptr 0 2 0), (3, vI 0), (4, vI 0), (5, .ptr 0 5 0), (6, vI oO)], [bx 56 [(2, some [.val (.str []), .lst true true 89 [], vI 0, .lst true true 39 [], .lst true true 70 [], vI 0]), (5, some [.val kF, .lst true kp 89 ku, .val ko, .lst true kH 39 kj, .lst true kl 70 kB, .val kC, .val oP])]], KK⟩)
theorem Qlt (lb n : Nat) (gb : CV) (oO : Int) (kF : CV) (kp : Bool) (ku : LL) (ko : CV) (kH : Bool) (kj : LL) (kl : Bool) (kB : LL) (kC oP : CV) :
 Qit lb n gb oO kF kp ku ko kH kj kl kB kC oP =
 optO (C lb n Qac [.agg [kF, .list kp ku, ko, .list kH kj, .list kl kB, kC]]) fun gL =>
 optO (CV.asL gL) fun pJ =>
 bif (decide ((pJ.2.length : Int) > 0)) then
 (optO (CV.asL gL) fun qS =>
 optO (atL qS.2 0) fun c399 =>
 chkO (c399.length == 2) (
 optO (c399[0]?) fun qF =>
 some (.tup [.agg [.str [], .list true [], .int .i64 0, .list true [], .list true [], .int .i64 0], .int .i64 0, qF])))
 else
 (some (.tup [.agg [kF, .list kp ku, ko, .list kH kj, .list kl kB, kC], .int .i64 0, .int .i64 0])) := (Qaf _).trans (by kernel_rfl)
theorem Qbu (lb n va : Nat) (vY : CV) (wR : Int) (y5 : CV) (yI : Bool) (l157 : LL) (vc : CV) (yK : Bool) (l160 : LL) (yO : Bool) (l162 : LL) (y7 v164 : CV) :
 booking_Parse_L1 lb n (va + 1) vY wR y5 yI l157 vc yK l160 yO l162 y7 v164 =
 optO (CV.asS vY) fun pc =>
 bif (!(pc == [])) then
 (optO (C lb n Qb4 [vY, .str [10]]) fun gm =>
 optO (CV.asT gm) fun qV =>
 optO (qV[0]?) fun vk =>
 optO (CV.asT gm) fun p7 =>
 optO (p7[1]?) fun vN =>
 optO (CV.asT gm) fun qG =>
 optO (qG[2]?) fun pX =>
 optO (CV.asB pX) fun pk =>
 bif (!pk) then
 (some (.tup [.agg [.str [], .list true [], .int .i64 0, .list true [], .list true [], .int .i64 0], .int .i64 wR, .int .i64 3]))
 else
 (optO (C lb n QaU [vk]) fun mV =>
 optO (CV.asT mV) fun oN =>
 optO (oN[0]?) fun yY =>
 optO (CV.asT mV) fun nG =>
 optO (nG[1]?) fun gh =>
 optO (CV.asI .i64 gh) fun qi =>
 bif (qi != 0) then
 (optO (CV.asI .i64 gh) fun qO =>
 bif (qO != 0) then
 (some (.tup [.agg [.str [], .list true [], .int .i64 0, .list true [], .list true [], .int .i64 0], .int .i64 wR, gh]))
 else
 (booking_Parse_L1 lb n va  vN (IntKind.wrap .i64 (wR + 1)) y5 yI l157 vc yK l160 yO l162 y7 v164))
 else
 (optO (CV.asL yY) fun qh =>
 bif ((qh.2.length : Int) == 0) then
 (some (.tup [.agg [.str [], .list true [], .int .i64 0, .list true [], .list true [], .int .i64 0], .int .i64 wR, .int .i64 3]))
 else
 (optO (CV.asL yY) fun sf =>
 optO (atL sf.2 0) fun c293 =>
 chkO (c293.length == 1) (
 optO (c293[0]?) fun nR =>
 optO (C lb n Qcd [.list false [[CV.str [98, 111, 111, 107, 105, 110, 103]], [CV.str [112, 101, 114, 115, 111, 110]], [CV.str [115, 101, 103]], [CV.str [115, 101, 114, 118, 105, 99, 101]]], nR]) fun yD =>
 optO (CV.asI .i64 yD) fun q8 =>
 bif (decide (q8 < 0)) then
 (some (.tup [.agg [.str [], .list true [], .int .i64 0, .list true [], .list true [], .int .i64 0], .int .i64 wR, .int .i64 3]))
 else
 (optO (CV.asI .i64 yD) fun qj =>
 bif (!((qj == 0) == (wR == 1))) then
 (some (.tup [.agg [.str [], .list true [], .int .i64 0, .list true [], .list true [], .int .i64 0], .int .i64 wR, .int .i64 3]))
 else
 (optO (CV.asI .i64 yD) fun pV =>
 optO (CV.asI .i64 v164) fun nC =>
 bif (decide (pV < nC)) then
 (some (.tup [.agg [.str [], .list true [], .int .i64 0, .list true [], .list true [], .int .i64 0], .int .i64 wR, .int .i64 3]))
 else
 (chkO (CV.isCell yD) (
 optO (CV.asL yY) fun nH =>
 optO (CV.asN yD) fun qC =>
 optO (atL [[CV.int .i64 4], [CV.int .i64 2], [CV.int .i64 11], [CV.int .i64 4]] qC) fun c302 =>
 chkO (c302.length == 1) (
 optO (c302[0]?) fun qZ =>
 optO (CV.asI .i64 qZ) fun qx =>
 bif ((nH.2.length : Int) != qx) then
 (some (.tup [.agg [.str [], .list true [], .int .i64 0, .list true [], .list true [], .int .i64 0], .int .i64 wR, .int .i64 3]))
 else
 (optO (CV.asI .i64 yD) fun pC =>
 bif (pC == 0) then
 (optO (CV.asL yY) fun kK =>
 chkO (kK.2.all (·.length == 1)) (
 chkO (decide ((0 : Int) ≤ 2 ∧ 2 ≤ (kK.2.length : Int))) (
 optO (C lb n QdV [.list kK.1 ((kK.2.take ((kK.2.length : Int).toNat)).drop 2)]) fun gW =>
 optO (CV.asT gW) fun qB =>
 optO (qB[0]?) fun mU =>
 optO (CV.asT gW) fun qP =>
 optO (qP[1]?) fun qE =>
 optO (CV.asB qE) fun pf =>
 bif (!pf) then
 (some (.tup [.agg [.str [], .list true [], .int .i64 0, .list true [], .list true [], .int .i64 0], .int .i64 wR, .int .i64 3]))
 else
 (optO (CV.asL yY) fun pB =>
 optO (atL pB.2 1) fun c314 =>
 chkO (c314.length == 1) (
 optO (c314[0]?) fun oQ =>
 optO (CV.asL mU) fun qq =>
 optO (atL qq.2 0) fun c317 =>
 chkO (c317.length == 1) (
 optO (c317[0]?) fun oM =>
 optO (CV.asL mU) fun qz =>
 optO (atL qz.2 1) fun c320 =>
 chkO (c320.length == 1) (
 optO (c320[0]?) fun gg =>
 chkO (CV.isCell oQ) (
 chkO (CV.isCell oM) (
 chkO (CV.isCell gg) (
 optO (C lb n QhD [.agg [oQ, .list yI l157, gg, .list yK l160, .list yO l162, oM]]) fun qW =>
 optO (CV.asS qW) fun n3 =>
 optO (CV.asS vk) fun si =>
 bif (!(n3 == si)) then
 (some (.tup [.agg [.str [], .list true [], .int .i64 0, .list true [], .list true [], .int .i64 0], .int .i64 wR, .int .i64 3]))
 else
 (booking_Parse_L1 lb n va  vN (IntKind.wrap .i64 (wR + 1)) oQ yI l157 gg yK l160 yO l162 oM yD)))))))))))
 else
 (optO (CV.asI .i64 yD) fun qy =>
 bif (qy == 1) then
 (optO (CV.asL yY) fun qu =>
 optO (atL qu.2 1) fun c327 =>
 chkO (c327.length == 1) (
 optO (c327[0]?) fun nZ =>
 optO (C lb n QhZ [nZ]) fun gM =>
 optO (CV.asT gM) fun sd =>
 optO (sd[0]?) fun sk =>
 optO (CV.asT gM) fun su =>
 optO (su[1]?) fun oY =>
 optO (CV.asA sk) fun c334 =>
 chkO (c334.length == 3) (
 optO (c334[0]?) fun mi =>
 optO (c334[1]?) fun mo =>
 optO (c334[2]?) fun mu =>
 optO (CV.asI .i64 oY) fun qv =>
 bif (qv != 0) then
 (optO (CV.asI .i64 oY) fun nT =>
 bif (nT != 0) then
 (some (.tup [.agg [.str [], .list true [], .int .i64 0, .list true [], .list true [], .int .i64 0], .int .i64 wR, oY]))
 else
 (booking_Parse_L1 lb n va  vN (IntKind.wrap .i64 (wR + 1)) y5 yI l157 vc yK l160 yO l162 y7 yD))
 else
 (chkO (room (l157.length + 1) 48) (
 optO (C lb n Qef [.agg [mi, mo, mu]]) fun nE =>
 optO (CV.asS nE) fun qK =>
 optO (CV.asS vk) fun qb =>
 bif (!(qK == qb)) then
 (some (.tup [.agg [.str [], .list true [], .int .i64 0, .list true [], .list true [], .int .i64 0], .int .i64 wR, .int .i64 3]))
 else
 (booking_Parse_L1 lb n va  vN (IntKind.wrap .i64 (wR + 1)) y5 (yI && false) (l157 ++ [[mi, mo, mu]]) vc yK l160 yO l162 y7 yD))))))
 else
 (optO (CV.asI .i64 yD) fun pP =>
 bif (pP == 2) then
 (optO (C lb n Qfm [yY]) fun mE =>
 optO (CV.asT mE) fun n4 =>
 optO (n4[0]?) fun qo =>
 optO (CV.asT mE) fun nF =>
 optO (nF[1]?) fun gc =>
 optO (CV.asA qo) fun c349 =>
 chkO (c349.length == 10) (
 optO (c349[0]?) fun gS =>
 optO (c349[1]?) fun mM =>
 optO (c349[2]?) fun mj =>
 optO (c349[3]?) fun mn =>
 optO (c349[4]?) fun mW =>
 optO (c349[5]?) fun gO =>
 optO (c349[6]?) fun mK =>
 optO (c349[7]?) fun mO =>
 optO (c349[8]?) fun mQ =>
 optO (c349[9]?) fun mA =>
 optO (CV.asI .i64 gc) fun pE =>
 bif (pE != 0) then
 (optO (CV.asI .i64 gc) fun qt =>
 bif (qt != 0) then
 (some (.tup [.agg [.str [], .list true [], .int .i64 0, .list true [], .list true [], .int .i64 0], .int .i64 wR, gc]))
 else
 (booking_Parse_L1 lb n va  vN (IntKind.wrap .i64 (wR + 1)) y5 yI l157 vc yK l160 yO l162 y7 yD))
 else
 (chkO (room (l160.length + 1) 112) (
 optO (C lb n Qfq [.agg [gS, mM, mj, mn, mW, gO, mK, mO, mQ, mA]]) fun q9 =>
 optO (CV.asS q9) fun ph =>
 optO (CV.asS vk) fun n8 =>
 bif (!(ph == n8)) then
 (some (.tup [.agg [.str [], .list true [], .int .i64 0, .list true [], .list true [], .int .i64 0], .int .i64 wR, .int .i64 3]))
 else
 (booking_Parse_L1 lb n va  vN (IntKind.wrap .i64 (wR + 1)) y5 yI l157 vc (yK && false) (l160 ++ [[gS, mM, mj, mn, mW, gO, mK, mO, mQ, mA]]) yO l162 y7 yD)))))
 else
 (optO (CV.asL yY) fun ki =>
 chkO (ki.2.all (·.length == 1)) (
 chkO (decide ((0 : Int) ≤ 2 ∧ 2 ≤ (ki.2.length : Int))) (
 optO (C lb n QdV [.list ki.1 ((ki.2.take ((ki.2.length : Int).toNat)).drop 2)]) fun gJ =>
 optO (CV.asT gJ) fun qH =>
 optO (qH[0]?) fun gZ =>
 optO (CV.asT gJ) fun nK =>
 optO (nK[1]?) fun qU =>
 optO (CV.asB qU) fun nN =>
 bif (!nN) then
 (some (.tup [.agg [.str [], .list true [], .int .i64 0, .list true [], .list true [], .int .i64 0], .int .i64 wR, .int .i64 3]))
 else
 (optO (CV.asL yY) fun nL =>
 optO (atL nL.2 1) fun c373 =>
 chkO (c373.length == 1) (
 optO (c373[0]?) fun o9 =>
 optO (CV.asL gZ) fun qL =>
 optO (atL qL.2 0) fun c376 =>
 chkO (c376.length == 1) (
 optO (c376[0]?) fun o8 =>
 optO (CV.asL gZ) fun pN =>
 optO (atL pN.2 1) fun c379 =>
 chkO (c379.length == 1) (
 optO (c379[0]?) fun oK =>
 chkO (CV.isCell o9) (
 chkO (CV.isCell o8) (
 chkO (CV.isCell oK) (
 chkO (room (l162.length + 1) 32) (
 optO (C lb n Qf9 [.agg [o9, o8, oK]]) fun qf =>
 optO (CV.asS qf) fun nD =>
 optO (CV.asS vk) fun qT =>
 bif (!(nD == qT)) then
 (some (.tup [.agg [.str [], .list true [], .int .i64 0, .list true [], .list true [], .int .i64 0], .int .i64 wR, .int .i64 3]))
 else
 (booking_Parse_L1 lb n va  vN (IntKind.wrap .i64 (wR + 1)) y5 yI l157 vc yK l160 (yO && false) (l162 ++ [[o9, o8, oK]]) y7 yD)))))))))))))))))))))))))
 else
 (Qit lb n  vY wR y5 yI l157 vc yK l160 yO l162 y7 v164) := (Qaf _).trans (by kernel_rfl)
theorem QnW (lb n : Nat) (a1 : LB) :
 top lb n QaP [.str a1] =
 bif (decide ((a1.length : Int) > 65536)) then
 (some (.tup [.agg [.str [], .list true [], .int .i64 0, .list true [], .list true [], .int .i64 0], .int .i64 0, .int .i64 4]))
 else
 (bif (a1 == []) then
 (some (.tup [.agg [.str [], .list true [], .int .i64 0, .list true [], .list true [], .int .i64 0], .int .i64 1, .int .i64 3]))
 else
 (booking_Parse_L1 lb n n  (.str a1) 1 (.str []) true [] (.int .i64 0) true [] true [] (.int .i64 0) (.int .i64 0))) := by kernel_rfl
end Go.Proofs
