/- Equations of functions, printed by program. Conditions: none. -/
import Derived.Test.YtdcpdknginpohaaGreatDoorEv
namespace Go.Proofs
open Go.Am
set_option maxRecDepth 100000
set_option linter.unusedVariables false
noncomputable def flight_leg_J1 :=
 fun lb n (ja : Bool) (aair2 : LL) (jb : Bool) (adis4 : LL) (jy : Bool) (b6 : LL) c7 wV wN (c9 : List CV) we wI wH wX yO y0 w5 yW wz wC x23 yf wn w8 wY yF yN yE yU (o6 : Bool) (l42 : LL) =>
 hold (E0 lb n 0 994 (sub (B QbZ) [1, 1, 1, 1, 1, 1]) (retK Tryz.prog (R QbZ) 0 (outK (Qaf Tryz.prog QbZ))) ⟨fr 68 [(0, .val (.agg [.list ja aair2, .list jb adis4])), (1, .val (.list jy b6)), (2, vI c7), (3, .ptr 0 3 0), (6, .lst true true 36 []), (7, .lst true o6 36 l42), (8, .ptr 0 8 0), (9, .ptr 0 9 0), (10, vV wV), (11, .ptr 0 11 0), (12, vV wN), (13, .val (.list jy b6)), (14, vI c7), (15, .cptr c9 0), (16, .val (.agg [we, wI, wH, wX, yO])), (17, vV y0), (18, .val (.agg [.list ja aair2, .list jb adis4])), (19, .ptr 0 8 0), (20, vV we), (21, vV y0), (22, vV w5), (23, vV wV), (24, vV yW), (25, .val (.agg [.list ja aair2, .list jb adis4])), (26, .ptr 0 8 1), (27, vV wI), (28, vV yW), (29, vV wz), (30, vV wN)], [bx 68 [(3, some [.val (.list ja aair2), .val (.list jb adis4)]), (8, some [.val we, .val wI, .val wH, .val wX, .val yO]), (9, some [.val wC, .val x23, .val yf, .val wn, .val w8]), (11, some [.val wY, .val yF, .val yN, .val yE, .val yU])]], KK⟩)
noncomputable def Qfb (lb n : Nat) (ja : Bool) (aair2 : LL) (jb : Bool) (adis4 : LL) (jy : Bool) (b6 : LL) (c7 : Int) (wV wN : CV) (c9 : List CV) (we wI wH wX yO y0 w5 yW wz wC x23 yf wn w8 wY yF yN yE yU : CV) (kK : Bool) (l45 : LL) : Option CV :=
 hold (E0 lb n 0 993 (sub (B QbZ) [1, 1, 1, 1, 1, 1, 1]) (retK Tryz.prog (R QbZ) 0 (outK (Qaf Tryz.prog QbZ))) ⟨fr 68 [(0, .val (.agg [.list ja aair2, .list jb adis4])), (1, .val (.list jy b6)), (2, vI c7), (3, .ptr 0 3 0), (6, .lst true true 36 []), (7, .lst true kK 36 l45), (8, .ptr 0 8 0), (9, .ptr 0 9 0), (10, vV wV), (11, .ptr 0 11 0), (12, vV wN), (13, .val (.list jy b6)), (14, vI c7), (15, .cptr c9 0), (16, .val (.agg [we, wI, wH, wX, yO])), (17, vV y0), (18, .val (.agg [.list ja aair2, .list jb adis4])), (19, .ptr 0 8 0), (20, vV we), (21, vV y0), (22, vV w5), (23, vV wV), (24, vV yW), (25, .val (.agg [.list ja aair2, .list jb adis4])), (26, .ptr 0 8 1), (27, vV wI), (28, vV yW), (29, vV wz), (30, vV wN)], [bx 68 [(3, some [.val (.list ja aair2), .val (.list jb adis4)]), (8, some [.val we, .val wI, .val wH, .val wX, .val yO]), (9, some [.val wC, .val x23, .val yf, .val wn, .val w8]), (11, some [.val wY, .val yF, .val yN, .val yE, .val yU])]], KK⟩)
noncomputable def Qfc (lb n : Nat) (ja : Bool) (aair2 : LL) (jb : Bool) (adis4 : LL) (jy : Bool) (b6 : LL) (c7 : Int) (wV wN : CV) (c9 : List CV) (we wI wH wX yO y0 w5 yW wz wC x23 yf wn w8 wY yF yN yE yU : CV) (mD : Bool) (l49 : LL) : Option CV :=
 hold (E0 lb n 0 992 (sub (B QbZ) [1, 1, 1, 1, 1, 1, 1, 1]) (retK Tryz.prog (R QbZ) 0 (outK (Qaf Tryz.prog QbZ))) ⟨fr 68 [(0, .val (.agg [.list ja aair2, .list jb adis4])), (1, .val (.list jy b6)), (2, vI c7), (3, .ptr 0 3 0), (6, .lst true true 36 []), (7, .lst true mD 36 l49), (8, .ptr 0 8 0), (9, .ptr 0 9 0), (10, vV wV), (11, .ptr 0 11 0), (12, vV wN), (13, .val (.list jy b6)), (14, vI c7), (15, .cptr c9 0), (16, .val (.agg [we, wI, wH, wX, yO])), (17, vV y0), (18, .val (.agg [.list ja aair2, .list jb adis4])), (19, .ptr 0 8 0), (20, vV we), (21, vV y0), (22, vV w5), (23, vV wV), (24, vV yW), (25, .val (.agg [.list ja aair2, .list jb adis4])), (26, .ptr 0 8 1), (27, vV wI), (28, vV yW), (29, vV wz), (30, vV wN)], [bx 68 [(3, some [.val (.list ja aair2), .val (.list jb adis4)]), (8, some [.val we, .val wI, .val wH, .val wX, .val yO]), (9, some [.val wC, .val x23, .val yf, .val wn, .val w8]), (11, some [.val wY, .val yF, .val yN, .val yE, .val yU])]], KK⟩)
theorem Qpx (lb n : Nat) (ja : Bool) (aair2 : LL) (jb : Bool) (adis4 : LL) (jy : Bool) (b6 : LL) (c7 : Int) (wV wN : CV) (c9 : List CV) (we wI wH wX yO y0 w5 yW wz wC x23 yf wn w8 wY yF yN yE yU : CV) (mD : Bool) (l49 : LL) :
 Qfc lb n ja aair2 jb adis4 jy b6 c7 wV wN c9 we wI wH wX yO y0 w5 yW wz wC x23 yf wn w8 wY yF yN yE yU mD l49 =
 optO (C lb n QbJ [wH]) fun lW =>
 optO (CV.asB lW) fun rA =>
 bif (!rA) then
 (chkO (room (l49.length + 1) 8) (
 some (.list (mD && false) (l49 ++ [[CV.int .i64 2]]))))
 else
 (optO (C lb n QbJ [wX]) fun rM =>
 optO (CV.asB rM) fun lJ =>
 bif (!lJ) then
 (chkO (room (l49.length + 1) 8) (
 some (.list (mD && false) (l49 ++ [[CV.int .i64 2]]))))
 else
 (some (.list mD l49))) := (Qac _).trans (by kernel_rfl)
theorem Qpl (lb n : Nat) (ja : Bool) (aair2 : LL) (jb : Bool) (adis4 : LL) (jy : Bool) (b6 : LL) (c7 : Int) (wV wN : CV) (c9 : List CV) (we wI wH wX yO y0 w5 yW wz wC x23 yf wn w8 wY yF yN yE yU : CV) (kK : Bool) (l45 : LL) :
 Qfb lb n ja aair2 jb adis4 jy b6 c7 wV wN c9 we wI wH wX yO y0 w5 yW wz wC x23 yf wn w8 wY yF yN yE yU kK l45 =
 optO (C lb n QaV [.list jy b6, .int .i64 c7]) fun rI =>
 optO (CV.asB rI) fun ot =>
 bif (!ot) then
 (chkO (room (l45.length + 1) 8) (
 Qfc lb n ja aair2 jb adis4 jy b6 c7 wV wN c9 we wI wH wX yO y0 w5 yW wz wC x23 yf wn w8 wY yF yN yE yU (kK && false) (l45 ++ [[CV.int .i64 15]])))
 else
 (Qfc lb n ja aair2 jb adis4 jy b6 c7 wV wN c9 we wI wH wX yO y0 w5 yW wz wC x23 yf wn w8 wY yF yN yE yU kK l45) := (Qac _).trans (by kernel_rfl)
theorem Qpk (lb n : Nat) (ja : Bool) (aair2 : LL) (jb : Bool) (adis4 : LL) (jy : Bool) (b6 : LL) (c7 : Int) (wV wN : CV) (c9 : List CV) (we wI wH wX yO y0 w5 yW wz wC x23 yf wn w8 wY yF yN yE yU : CV) (o6 : Bool) (l42 : LL) :
 flight_leg_J1 lb n ja aair2 jb adis4 jy b6 c7 wV wN c9 we wI wH wX yO y0 w5 yW wz wC x23 yf wn w8 wY yF yN yE yU o6 l42 =
 optO (CV.asB wV) fun qQ =>
 bif (!qQ) then
 (chkO (room (l42.length + 1) 8) (
 Qfb lb n ja aair2 jb adis4 jy b6 c7 wV wN c9 we wI wH wX yO y0 w5 yW wz wC x23 yf wn w8 wY yF yN yE yU (o6 && false) (l42 ++ [[CV.int .i64 14]])))
 else
 (optO (CV.asB wN) fun tB =>
 bif (!tB) then
 (chkO (room (l42.length + 1) 8) (
 Qfb lb n ja aair2 jb adis4 jy b6 c7 wV wN c9 we wI wH wX yO y0 w5 yW wz wC x23 yf wn w8 wY yF yN yE yU (o6 && false) (l42 ++ [[CV.int .i64 14]])))
 else
 (Qfb lb n ja aair2 jb adis4 jy b6 c7 wV wN c9 we wI wH wX yO y0 w5 yW wz wC x23 yf wn w8 wY yF yN yE yU o6 l42)) := (Qac _).trans (by kernel_rfl)
theorem QsT (lb n : Nat) (ja : Bool) (aair2 : LL) (jb : Bool) (adis4 : LL) (jy : Bool) (b6 : LL) (c7 : Int) :
 top lb n QbZ [.agg [.list ja aair2, .list jb adis4], .list jy b6, .int .i64 c7] =
 optO (atL b6 c7) fun c9 =>
 chkO (c9.length == 5) (
 optO (c9[0]?) fun we =>
 optO (c9[1]?) fun wI =>
 optO (c9[2]?) fun wH =>
 optO (c9[3]?) fun wX =>
 optO (c9[4]?) fun yO =>
 optO (C lb n Qbk [.agg [.list ja aair2, .list jb adis4], we]) fun y0 =>
 optO (CV.asT y0) fun tz =>
 optO (tz[0]?) fun w5 =>
 optO (CV.asT y0) fun lS =>
 optO (lS[1]?) fun wV =>
 optO (CV.asA w5) fun c21 =>
 chkO (c21.length == 5) (
 optO (c21[0]?) fun wC =>
 optO (c21[1]?) fun x23 =>
 optO (c21[2]?) fun yf =>
 optO (c21[3]?) fun wn =>
 optO (c21[4]?) fun w8 =>
 optO (C lb n Qbk [.agg [.list ja aair2, .list jb adis4], wI]) fun yW =>
 optO (CV.asT yW) fun rQ =>
 optO (rQ[0]?) fun wz =>
 optO (CV.asT yW) fun rk =>
 optO (rk[1]?) fun wN =>
 optO (CV.asA wz) fun c33 =>
 chkO (c33.length == 5) (
 optO (c33[0]?) fun wY =>
 optO (c33[1]?) fun yF =>
 optO (c33[2]?) fun yN =>
 optO (c33[3]?) fun yE =>
 optO (c33[4]?) fun yU =>
 optO (C lb n QhV [yO, .int .i64 3, .int .i64 3]) fun lP =>
 optO (CV.asB lP) fun rJ =>
 bif (!rJ) then
 (flight_leg_J1 lb n ja aair2 jb adis4 jy b6 c7 wV wN c9 we wI wH wX yO y0 w5 yW wz wC x23 yf wn w8 wY yF yN yE yU false [[CV.int .i64 5]])
 else
 (flight_leg_J1 lb n ja aair2 jb adis4 jy b6 c7 wV wN c9 we wI wH wX yO y0 w5 yW wz wC x23 yf wn w8 wY yF yN yE yU true [])))) := by kernel_rfl
noncomputable def QcZ (lb n pX : Nat) (wb : Bool) (a2 : LL) (b3 kN : Int) : Option CV :=
 hold (Qar (E2 lb n 2 995) 2 (Qad (sub (B Qbl) [1, 0, 1, 0, 0]) ++ [5]) [] (sub (B Qbl) [1, 0, 1, 0, 0]) (Qaj 0 (seqK (E2 lb n 2 998) (sub (B Qbl) [1, 0]) (sub (B Qbl) [1, 1]) (retK Tryz.prog (R Qbl) 2 (inlK (opAt (QaE (sub (B QaH) [1, 0])) 2) ⟨fr 9 [(0, .val (.list wb ((a2.take ((IntKind.wrap .i64 (b3 + 1)).toNat)).drop 0))), (1, .clo QbV [.ptr 0 2 0, .ptr 0 3 0]), (4, vB false), (5, .val (.list wb ((a2.take ((IntKind.wrap .i64 (b3 + 1)).toNat)).drop 0))), (6, .clo QbV [.ptr 0 2 0, .ptr 0 3 0])], [bx 28 [(2, some [.val (.list wb a2)]), (3, some [vI b3])], bx 9 []], KK⟩ (opsK Tryz.prog (C lb n) (I8 lb n) 1 (QaE (sub (B QaH) [1, 0])) ((QaE (sub (B QaH) [1, 0])).drop 3) ((seqK (E1 lb n 1 998) (sub (B QaH) [1, 0]) (sub (B QaH) [1, 1]) (retK Tryz.prog (R QaH) 1 (inlK (opAt (QaE (sub (B QaV) [1, 1, 0])) 5) ⟨fr 28 [(0, .val (.list wb a2)), (1, vI b3), (2, .ptr 0 2 0), (3, .ptr 0 3 0), (4, vB false), (21, .val (.list wb a2)), (22, vI b3), (23, .val (.int .i64 (IntKind.wrap .i64 (b3 + 1)))), (24, .val (.list wb ((a2.take ((IntKind.wrap .i64 (b3 + 1)).toNat)).drop 0))), (25, .clo QbV [.ptr 0 2 0, .ptr 0 3 0])], [bx 28 [(2, some [.val (.list wb a2)]), (3, some [vI b3])]], KK⟩ (opsK Tryz.prog (C lb n) (I9 lb n) 0 (QaE (sub (B QaV) [1, 1, 0])) ((QaE (sub (B QaV) [1, 1, 0])).drop 6) ((seqK (E0 lb n 0 997) (sub (B QaV) [1, 1, 0]) (sub (B QaV) [1, 1, 1]) (retK Tryz.prog (R QaV) 0 (outK (Qaf Tryz.prog QaV)))) .normal))))) .normal)))))) pX ⟨fr 19 [(0, .val (.list wb ((a2.take ((IntKind.wrap .i64 (b3 + 1)).toNat)).drop 0))), (1, .clo QbV [.ptr 0 2 0, .ptr 0 3 0]), (4, vI 0), (6, .val (.list wb ((a2.take ((IntKind.wrap .i64 (b3 + 1)).toNat)).drop 0))), (7, .val (.int .i64 (((a2.take ((IntKind.wrap .i64 (b3 + 1)).toNat)).drop 0).length : Int))), (8, vI kN)], [bx 28 [(2, some [.val (.list wb a2)]), (3, some [vI b3])], bx 9 [], bx 19 []], KK⟩)
noncomputable def Qiw (lb n : Nat) (wb : Bool) (a2 : LL) (b3 : Int) : Option CV :=
 hold (E2 lb n 2 998 (sub (B Qbl) [1, 1]) (retK Tryz.prog (R Qbl) 2 (inlK (opAt (QaE (sub (B QaH) [1, 0])) 2) ⟨fr 9 [(0, .val (.list wb ((a2.take ((IntKind.wrap .i64 (b3 + 1)).toNat)).drop 0))), (1, .clo QbV [.ptr 0 2 0, .ptr 0 3 0]), (4, vB false), (5, .val (.list wb ((a2.take ((IntKind.wrap .i64 (b3 + 1)).toNat)).drop 0))), (6, .clo QbV [.ptr 0 2 0, .ptr 0 3 0])], [bx 28 [(2, some [.val (.list wb a2)]), (3, some [vI b3])], bx 9 []], KK⟩ (opsK Tryz.prog (C lb n) (I8 lb n) 1 (QaE (sub (B QaH) [1, 0])) ((QaE (sub (B QaH) [1, 0])).drop 3) ((seqK (E1 lb n 1 998) (sub (B QaH) [1, 0]) (sub (B QaH) [1, 1]) (retK Tryz.prog (R QaH) 1 (inlK (opAt (QaE (sub (B QaV) [1, 1, 0])) 5) ⟨fr 28 [(0, .val (.list wb a2)), (1, vI b3), (2, .ptr 0 2 0), (3, .ptr 0 3 0), (4, vB false), (21, .val (.list wb a2)), (22, vI b3), (23, .val (.int .i64 (IntKind.wrap .i64 (b3 + 1)))), (24, .val (.list wb ((a2.take ((IntKind.wrap .i64 (b3 + 1)).toNat)).drop 0))), (25, .clo QbV [.ptr 0 2 0, .ptr 0 3 0])], [bx 28 [(2, some [.val (.list wb a2)]), (3, some [vI b3])]], KK⟩ (opsK Tryz.prog (C lb n) (I9 lb n) 0 (QaE (sub (B QaV) [1, 1, 0])) ((QaE (sub (B QaV) [1, 1, 0])).drop 6) ((seqK (E0 lb n 0 997) (sub (B QaV) [1, 1, 0]) (sub (B QaV) [1, 1, 1]) (retK Tryz.prog (R QaV) 0 (outK (Qaf Tryz.prog QaV)))) .normal))))) .normal)))) ⟨fr 19 [(0, .val (.list wb ((a2.take ((IntKind.wrap .i64 (b3 + 1)).toNat)).drop 0))), (1, .clo QbV [.ptr 0 2 0, .ptr 0 3 0]), (4, vI 0)], [bx 28 [(2, some [.val (.list wb a2)]), (3, some [vI b3])], bx 9 [], bx 19 []], KK⟩)
theorem QlF (lb n : Nat) (wb : Bool) (a2 : LL) (b3 : Int) :
 Qiw lb n wb a2 b3 =
 some (.bool true) := (Qac _).trans (by kernel_rfl)
theorem Qf9 (lb n pX : Nat) (wb : Bool) (a2 : LL) (b3 kN : Int) :
 QcZ lb n (pX + 1) wb a2 b3 kN =
 bif (decide (kN < (((a2.take ((IntKind.wrap .i64 (b3 + 1)).toNat)).drop 0).length : Int))) then
 (optO (atL ((a2.take ((IntKind.wrap .i64 (b3 + 1)).toNat)).drop 0) kN) fun c35 =>
 chkO (c35.length == 5) (
 optO (c35[0]?) fun yN =>
 optO (c35[1]?) fun yE =>
 optO (c35[2]?) fun yU =>
 optO (c35[3]?) fun mE =>
 optO (c35[4]?) fun o5 =>
 optO (atL a2 b3) fun c41 =>
 chkO (c41.length == 5) (
 optO (c41[1]?) fun mw =>
 optO (CV.asS yN) fun tH =>
 optO (CV.asS mw) fun s44 =>
 bif (tH == s44) then
 (some (.bool (!(decide (kN ≥ 0)))))
 else
 (QcZ lb n pX wb a2 b3 (IntKind.wrap .i64 (kN + 1))))))
 else
 (Qiw lb n wb a2 b3 ) := (Qac _).trans (by kernel_rfl)
theorem Qog (lb n : Nat) (wb : Bool) (a2 : LL) (b3 : Int) :
 top lb n QaV [.list wb a2, .int .i64 b3] =
 bif (decide (b3 > 0)) then
 (optO (atL a2 b3) fun c4 =>
 chkO (c4.length == 5) (
 optO (c4[0]?) fun x5 =>
 optO (atL a2 (IntKind.wrap .i64 (b3 - 1))) fun c6 =>
 chkO (c6.length == 5) (
 optO (c6[1]?) fun x7 =>
 optO (CV.asS x5) fun s9 =>
 optO (CV.asS x7) fun qM =>
 bif (!(s9 == qM)) then
 (some (.bool false))
 else
 (chkO (a2.all (·.length == 5)) (
 chkO (decide ((0 : Int) ≤ (IntKind.wrap .i64 (b3 + 1)) ∧ (IntKind.wrap .i64 (b3 + 1)) ≤ (a2.length : Int))) (
 QcZ lb n n wb a2 b3 0))))))
 else
 (chkO (a2.all (·.length == 5)) (
 chkO (decide ((0 : Int) ≤ (IntKind.wrap .i64 (b3 + 1)) ∧ (IntKind.wrap .i64 (b3 + 1)) ≤ (a2.length : Int))) (
 QcZ lb n n wb a2 b3 0))) := by kernel_rfl
noncomputable def QdX (lb n pR : Nat) (wb : Bool) (a2 : LL) (b3 yG : Int) : Option CV :=
 hold (Qar (E0 lb n 0 994) 0 (Qad (sub (B QbF) [1, 1, 0, 1, 0, 0]) ++ []) [] (sub (B QbF) [1, 1, 0, 1, 0, 0]) (Qaj 0 (seqK (E0 lb n 0 997) (sub (B QbF) [1, 1, 0]) (sub (B QbF) [1, 1, 1]) (retK Tryz.prog (R QbF) 0 (outK (Qaf Tryz.prog QbF))))) pR ⟨fr 38 [(0, .val (.list wb a2)), (1, vI b3), (4, vB false), (5, vI yG)], [bx 38 []], KK⟩)
noncomputable def Qmk (lb n : Nat) (wb : Bool) (a2 : LL) (b3 qB : Int) : Option CV :=
 hold (E0 lb n 0 997 (sub (B QbF) [1, 1, 1]) (retK Tryz.prog (R QbF) 0 (outK (Qaf Tryz.prog QbF))) ⟨fr 38 [(0, .val (.list wb a2)), (1, vI b3), (4, vB false), (5, vI qB)], [bx 38 []], KK⟩)
theorem QpA (lb n : Nat) (wb : Bool) (a2 : LL) (b3 qB : Int) :
 Qmk lb n wb a2 b3 qB =
 some (.bool false) := (Qac _).trans (by kernel_rfl)
theorem Qic (lb n pR : Nat) (wb : Bool) (a2 : LL) (b3 yG : Int) :
 QdX lb n (pR + 1) wb a2 b3 yG =
 bif (decide (yG ≤ b3)) then
 (optO (atL a2 yG) fun c26 =>
 chkO (c26.length == 5) (
 optO (c26[0]?) fun wA =>
 optO (atL a2 b3) fun c28 =>
 chkO (c28.length == 5) (
 optO (c28[1]?) fun wz =>
 optO (CV.asS wA) fun gZ =>
 optO (CV.asS wz) fun ry =>
 bif (gZ == ry) then
 (some (.bool true))
 else
 (QdX lb n pR wb a2 b3 (IntKind.wrap .i64 (yG + 1))))))
 else
 (Qmk lb n wb a2 b3 yG) := (Qac _).trans (by kernel_rfl)
theorem Qs3 (lb n : Nat) (wb : Bool) (a2 : LL) (b3 : Int) :
 top lb n QbF [.list wb a2, .int .i64 b3] =
 bif (decide (b3 > 0)) then
 (optO (atL a2 b3) fun c4 =>
 chkO (c4.length == 5) (
 optO (c4[0]?) fun x5 =>
 optO (atL a2 (IntKind.wrap .i64 (b3 - 1))) fun c6 =>
 chkO (c6.length == 5) (
 optO (c6[1]?) fun x7 =>
 optO (CV.asS x5) fun s9 =>
 optO (CV.asS x7) fun qM =>
 bif (!(s9 == qM)) then
 (some (.bool true))
 else
 (QdX lb n n wb a2 b3 0))))
 else
 (QdX lb n n wb a2 b3 0) := by kernel_rfl
noncomputable def QkH (lb n : Nat) (js : LB) (jr jh jj ji : Int) (jq : Bool) (aleg7 : LL) (gK : Bool) (l12 : LL) : Option CV :=
 hold (E0 lb n 0 997 (sub (B QcR) [1, 1, 1]) (QjE (R QcR) 83) ⟨fr 50 [(0, .val (.agg [.str js, .int .i64 jr, .int .i64 jh, .int .i64 jj, .int .i64 ji, .list jq aleg7])), (1, .ptr 0 1 0), (2, .lst true true 83 []), (3, .lst true gK 83 l12)], [bx 50 [(1, some [vS js, vI jr, vI jh, vI jj, vI ji, .val (.list jq aleg7)])]], KK⟩)
noncomputable def QhU (lb n : Nat) (js : LB) (jr jh jj ji : Int) (jq : Bool) (aleg7 : LL) (kU : Bool) (l14 : LL) : Option CV :=
 hold (E0 lb n 0 996 (sub (B QcR) [1, 1, 1, 1]) (QjE (R QcR) 83) ⟨fr 50 [(0, .val (.agg [.str js, .int .i64 jr, .int .i64 jh, .int .i64 jj, .int .i64 ji, .list jq aleg7])), (1, .ptr 0 1 0), (2, .lst true true 83 []), (3, .lst true kU 83 l14)], [bx 50 [(1, some [vS js, vI jr, vI jh, vI jj, vI ji, .val (.list jq aleg7)])]], KK⟩)
noncomputable def Qkt (lb n : Nat) (js : LB) (jr jh jj ji : Int) (jq : Bool) (aleg7 : LL) (mG : Bool) (l20 : LL) : Option CV :=
 hold (E0 lb n 0 995 (sub (B QcR) [1, 1, 1, 1, 1]) (QjE (R QcR) 83) ⟨fr 50 [(0, .val (.agg [.str js, .int .i64 jr, .int .i64 jh, .int .i64 jj, .int .i64 ji, .list jq aleg7])), (1, .ptr 0 1 0), (2, .lst true true 83 []), (3, .lst true mG 83 l20)], [bx 50 [(1, some [vS js, vI jr, vI jh, vI jj, vI ji, .val (.list jq aleg7)])]], KK⟩)
theorem Qrh (lb n : Nat) (js : LB) (jr jh jj ji : Int) (jq : Bool) (aleg7 : LL) (mG : Bool) (l20 : LL) :
 Qkt lb n js jr jh jj ji jq aleg7 mG l20 =
 bif (decide ((aleg7.length : Int) < 1)) then
 (chkO (room (l20.length + 1) 24) (
 some (.list (mG && false) (l20 ++ [[CV.int .i64 4, CV.str [108, 101, 103, 115]]]))))
 else
 (bif (decide ((aleg7.length : Int) > 6)) then
 (chkO (room (l20.length + 1) 24) (
 some (.list (mG && false) (l20 ++ [[CV.int .i64 4, CV.str [108, 101, 103, 115]]]))))
 else
 (some (.list mG l20))) := (Qac _).trans (by kernel_rfl)
theorem QrM (lb n : Nat) (js : LB) (jr jh jj ji : Int) (jq : Bool) (aleg7 : LL) (kU : Bool) (l14 : LL) :
 QhU lb n js jr jh jj ji jq aleg7 kU l14 =
 optO (C lb n Qdk [.agg [.int .i64 jh, .int .i64 jj, .int .i64 ji]]) fun y0 =>
 optO (CV.asI .i64 y0) fun yC =>
 bif (yC != 0) then
 (optO (C lb n Qdk [.agg [.int .i64 jh, .int .i64 jj, .int .i64 ji]]) fun mB =>
 chkO (CV.isCell mB) (
 chkO (room (l14.length + 1) 24) (
 Qkt lb n js jr jh jj ji jq aleg7 (kU && false) (l14 ++ [[mB, CV.str [112, 101, 114, 105, 111, 100]]]))))
 else
 (Qkt lb n js jr jh jj ji jq aleg7 kU l14) := (Qac _).trans (by kernel_rfl)
theorem QrI (lb n : Nat) (js : LB) (jr jh jj ji : Int) (jq : Bool) (aleg7 : LL) (gK : Bool) (l12 : LL) :
 QkH lb n js jr jh jj ji jq aleg7 gK l12 =
 bif (decide (jr < 1)) then
 (chkO (room (l12.length + 1) 24) (
 QhU lb n js jr jh jj ji jq aleg7 (gK && false) (l12 ++ [[CV.int .i64 2, CV.str [110, 117, 109, 98, 101, 114]]])))
 else
 (bif (decide (jr > 9999)) then
 (chkO (room (l12.length + 1) 24) (
 QhU lb n js jr jh jj ji jq aleg7 (gK && false) (l12 ++ [[CV.int .i64 2, CV.str [110, 117, 109, 98, 101, 114]]])))
 else
 (QhU lb n js jr jh jj ji jq aleg7 gK l12)) := (Qac _).trans (by kernel_rfl)
theorem QvF (lb n : Nat) (js : LB) (jr jh jj ji : Int) (jq : Bool) (aleg7 : LL) :
 top lb n QcR [.agg [.str js, .int .i64 jr, .int .i64 jh, .int .i64 jj, .int .i64 ji, .list jq aleg7]] =
 optO (C lb n Qiu [.str js]) fun r9 =>
 optO (CV.asB r9) fun rl =>
 bif (!rl) then
 (QkH lb n js jr jh jj ji jq aleg7 false [[CV.int .i64 5, CV.str [99, 97, 114, 114, 105, 101, 114]]])
 else
 (QkH lb n js jr jh jj ji jq aleg7 true []) := by kernel_rfl
noncomputable def Qce (lb n yn : Nat) (ja : Bool) (aair2 : LL) (jb : Bool) (adis4 : LL) (bcar5 : LB) (jg jd jf jc : Int) (je : Bool) (bleg12 : LL) (wW : Bool × LL) (gI : Bool) (l242 : LL) (w6 : Int) : Option CV :=
 hold (Qar (E0 lb n 0 993) 0 (Qad (sub (B Qam) [1, 1, 1, 0, 1, 0, 0]) ++ [8, 10, 12]) [7, 9, 11] (sub (B Qam) [1, 1, 1, 0, 1, 0, 0]) (Qaj 0 (seqK (E0 lb n 0 996) (sub (B Qam) [1, 1, 1, 0]) (sub (B Qam) [1, 1, 1, 1]) (retK Tryz.prog (R Qam) 0 (outK (Qaf Tryz.prog Qam))))) yn ⟨fr 133 [(0, .val (.agg [.list ja aair2, .list jb adis4])), (1, .val (.agg [.str bcar5, .int .i64 jg, .int .i64 jd, .int .i64 jf, .int .i64 jc, .list je bleg12])), (2, .ptr 0 2 0), (3, .ptr 0 3 0), (4, .lst true true 83 []), (5, .lst true gI 83 l242), (6, vI w6), (15, .val (.agg [.str bcar5, .int .i64 jg, .int .i64 jd, .int .i64 jf, .int .i64 jc, .list je bleg12])), (16, .val (.list wW.1 wW.2))], [bx 133 [(2, some [.val (.list ja aair2), .val (.list jb adis4)]), (3, some [vS bcar5, vI jg, vI jd, vI jf, vI jc, .val (.list je bleg12)])]], KK⟩)
noncomputable def QgR (lb n yn : Nat) (ja : Bool) (aair2 : LL) (jb : Bool) (adis4 : LL) (bcar5 : LB) (jg jd jf jc : Int) (je : Bool) (bleg12 : LL) (w6 : Int) (s370 : LB) (wW : Bool × LL) (c363 : List CV) (yA yy yw yx yL yS : CV) (gF : Bool) (l374 : LL) : Option CV :=
 hold (E0 lb n 0 987 (sub (B Qam) [1, 1, 1, 0, 1, 0, 0, 1, 0, 0, 1, 1, 1]) (Qaj 1 (seqK (E0 lb n 0 991) (sub (B Qam) [1, 1, 1, 0, 1, 0, 0, 1, 0]) (sub (B Qam) [1, 1, 1, 0, 1, 0, 0, 1, 1]) (QbK 0 (Qad (sub (B Qam) [1, 1, 1, 0, 1, 0, 0]) ++ [8, 10, 12]) [7, 9, 11] (Qar (E0 lb n 0 993) 0 (Qad (sub (B Qam) [1, 1, 1, 0, 1, 0, 0]) ++ [8, 10, 12]) [7, 9, 11] (sub (B Qam) [1, 1, 1, 0, 1, 0, 0]) (Qaj 0 (seqK (E0 lb n 0 996) (sub (B Qam) [1, 1, 1, 0]) (sub (B Qam) [1, 1, 1, 1]) (retK Tryz.prog (R Qam) 0 (outK (Qaf Tryz.prog Qam))))) yn) (Qaj 0 (seqK (E0 lb n 0 996) (sub (B Qam) [1, 1, 1, 0]) (sub (B Qam) [1, 1, 1, 1]) (retK Tryz.prog (R Qam) 0 (outK (Qaf Tryz.prog Qam)))))))) ⟨fr 133 [(0, .val (.agg [.list ja aair2, .list jb adis4])), (1, .val (.agg [.str bcar5, .int .i64 jg, .int .i64 jd, .int .i64 jf, .int .i64 jc, .list je bleg12])), (2, .ptr 0 2 0), (3, .ptr 0 3 0), (4, .lst true true 83 []), (5, .lst true gF 83 l374), (6, vI w6), (7, .ptr 0 7 0), (8, .val (.str (([108, 101, 103, 32] : LB) ++ s370))), (15, .val (.agg [.str bcar5, .int .i64 jg, .int .i64 jd, .int .i64 jf, .int .i64 jc, .list je bleg12])), (16, .val (.list wW.1 wW.2)), (35, .ptr 0 3 5), (36, .val (.list je bleg12)), (37, vI w6), (38, .cptr c363 0), (39, .val (.agg [yA, yy, yw, yx, yL])), (40, vI w6), (41, vV yS), (42, .val (.str (([108, 101, 103, 32] : LB) ++ s370)))], [bx 133 [(2, some [.val (.list ja aair2), .val (.list jb adis4)]), (3, some [vS bcar5, vI jg, vI jd, vI jf, vI jc, .val (.list je bleg12)]), (7, some [.val yA, .val yy, .val yw, .val yx, .val yL])]], KK⟩)
noncomputable def Qfz (lb n yn : Nat) (ja : Bool) (aair2 : LL) (jb : Bool) (adis4 : LL) (bcar5 : LB) (jg jd jf jc : Int) (je : Bool) (bleg12 : LL) (w6 : Int) (s370 : LB) (vo vr : CV) (wW : Bool × LL) (c363 : List CV) (yA yy yw yx yL yS vl vG vk vF vP vZ vU vY vX vM vT vN vQ vO : CV) (g8 : Bool) (l399 : LL) : Option CV :=
 hold (E0 lb n 0 984 (sub (B Qam) [1, 1, 1, 0, 1, 0, 0, 1, 0, 0, 1, 1, 1, 1, 1, 1]) (Qaj 1 (seqK (E0 lb n 0 991) (sub (B Qam) [1, 1, 1, 0, 1, 0, 0, 1, 0]) (sub (B Qam) [1, 1, 1, 0, 1, 0, 0, 1, 1]) (QbK 0 (Qad (sub (B Qam) [1, 1, 1, 0, 1, 0, 0]) ++ [8, 10, 12]) [7, 9, 11] (Qar (E0 lb n 0 993) 0 (Qad (sub (B Qam) [1, 1, 1, 0, 1, 0, 0]) ++ [8, 10, 12]) [7, 9, 11] (sub (B Qam) [1, 1, 1, 0, 1, 0, 0]) (Qaj 0 (seqK (E0 lb n 0 996) (sub (B Qam) [1, 1, 1, 0]) (sub (B Qam) [1, 1, 1, 1]) (retK Tryz.prog (R Qam) 0 (outK (Qaf Tryz.prog Qam))))) yn) (Qaj 0 (seqK (E0 lb n 0 996) (sub (B Qam) [1, 1, 1, 0]) (sub (B Qam) [1, 1, 1, 1]) (retK Tryz.prog (R Qam) 0 (outK (Qaf Tryz.prog Qam)))))))) ⟨fr 133 [(0, .val (.agg [.list ja aair2, .list jb adis4])), (1, .val (.agg [.str bcar5, .int .i64 jg, .int .i64 jd, .int .i64 jf, .int .i64 jc, .list je bleg12])), (2, .ptr 0 2 0), (3, .ptr 0 3 0), (4, .lst true true 83 []), (5, .lst true g8 83 l399), (6, vI w6), (7, .ptr 0 7 0), (8, .val (.str (([108, 101, 103, 32] : LB) ++ s370))), (9, .ptr 0 9 0), (10, vV vo), (11, .ptr 0 11 0), (12, vV vr), (15, .val (.agg [.str bcar5, .int .i64 jg, .int .i64 jd, .int .i64 jf, .int .i64 jc, .list je bleg12])), (16, .val (.list wW.1 wW.2)), (35, .ptr 0 3 5), (36, .val (.list je bleg12)), (37, vI w6), (38, .cptr c363 0), (39, .val (.agg [yA, yy, yw, yx, yL])), (40, vI w6), (41, vV yS), (42, .val (.str (([108, 101, 103, 32] : LB) ++ s370))), (52, vV vl), (53, .val (.agg [.list ja aair2, .list jb adis4])), (54, .ptr 0 7 0), (55, vV yA), (56, vV vl), (57, vV vG), (58, vV vo), (59, vV vk), (60, .val (.agg [.list ja aair2, .list jb adis4])), (61, .ptr 0 7 1), (62, vV yy), (63, vV vk), (64, vV vF), (65, vV vr)], [bx 133 [(2, some [.val (.list ja aair2), .val (.list jb adis4)]), (3, some [vS bcar5, vI jg, vI jd, vI jf, vI jc, .val (.list je bleg12)]), (7, some [.val yA, .val yy, .val yw, .val yx, .val yL]), (9, some [.val vP, .val vZ, .val vU, .val vY, .val vX]), (11, some [.val vM, .val vT, .val vN, .val vQ, .val vO])]], KK⟩)
noncomputable def Qg7 (lb n yn : Nat) (ja : Bool) (aair2 : LL) (jb : Bool) (adis4 : LL) (bcar5 : LB) (jg jd jf jc : Int) (je : Bool) (bleg12 : LL) (w6 : Int) (s370 : LB) (vo vr : CV) (wW : Bool × LL) (c363 : List CV) (yA yy yw yx yL yS vl vG vk vF vP vZ vU vY vX vM vT vN vQ vO : CV) (gG : Bool) (l403 : LL) : Option CV :=
 hold (E0 lb n 0 983 (sub (B Qam) [1, 1, 1, 0, 1, 0, 0, 1, 0, 0, 1, 1, 1, 1, 1, 1, 1]) (Qaj 1 (seqK (E0 lb n 0 991) (sub (B Qam) [1, 1, 1, 0, 1, 0, 0, 1, 0]) (sub (B Qam) [1, 1, 1, 0, 1, 0, 0, 1, 1]) (QbK 0 (Qad (sub (B Qam) [1, 1, 1, 0, 1, 0, 0]) ++ [8, 10, 12]) [7, 9, 11] (Qar (E0 lb n 0 993) 0 (Qad (sub (B Qam) [1, 1, 1, 0, 1, 0, 0]) ++ [8, 10, 12]) [7, 9, 11] (sub (B Qam) [1, 1, 1, 0, 1, 0, 0]) (Qaj 0 (seqK (E0 lb n 0 996) (sub (B Qam) [1, 1, 1, 0]) (sub (B Qam) [1, 1, 1, 1]) (retK Tryz.prog (R Qam) 0 (outK (Qaf Tryz.prog Qam))))) yn) (Qaj 0 (seqK (E0 lb n 0 996) (sub (B Qam) [1, 1, 1, 0]) (sub (B Qam) [1, 1, 1, 1]) (retK Tryz.prog (R Qam) 0 (outK (Qaf Tryz.prog Qam)))))))) ⟨fr 133 [(0, .val (.agg [.list ja aair2, .list jb adis4])), (1, .val (.agg [.str bcar5, .int .i64 jg, .int .i64 jd, .int .i64 jf, .int .i64 jc, .list je bleg12])), (2, .ptr 0 2 0), (3, .ptr 0 3 0), (4, .lst true true 83 []), (5, .lst true gG 83 l403), (6, vI w6), (7, .ptr 0 7 0), (8, .val (.str (([108, 101, 103, 32] : LB) ++ s370))), (9, .ptr 0 9 0), (10, vV vo), (11, .ptr 0 11 0), (12, vV vr), (15, .val (.agg [.str bcar5, .int .i64 jg, .int .i64 jd, .int .i64 jf, .int .i64 jc, .list je bleg12])), (16, .val (.list wW.1 wW.2)), (35, .ptr 0 3 5), (36, .val (.list je bleg12)), (37, vI w6), (38, .cptr c363 0), (39, .val (.agg [yA, yy, yw, yx, yL])), (40, vI w6), (41, vV yS), (42, .val (.str (([108, 101, 103, 32] : LB) ++ s370))), (52, vV vl), (53, .val (.agg [.list ja aair2, .list jb adis4])), (54, .ptr 0 7 0), (55, vV yA), (56, vV vl), (57, vV vG), (58, vV vo), (59, vV vk), (60, .val (.agg [.list ja aair2, .list jb adis4])), (61, .ptr 0 7 1), (62, vV yy), (63, vV vk), (64, vV vF), (65, vV vr)], [bx 133 [(2, some [.val (.list ja aair2), .val (.list jb adis4)]), (3, some [vS bcar5, vI jg, vI jd, vI jf, vI jc, .val (.list je bleg12)]), (7, some [.val yA, .val yy, .val yw, .val yx, .val yL]), (9, some [.val vP, .val vZ, .val vU, .val vY, .val vX]), (11, some [.val vM, .val vT, .val vN, .val vQ, .val vO])]], KK⟩)
theorem QqU (lb n yn : Nat) (ja : Bool) (aair2 : LL) (jb : Bool) (adis4 : LL) (bcar5 : LB) (jg jd jf jc : Int) (je : Bool) (bleg12 : LL) (w6 : Int) (s370 : LB) (vo vr : CV) (wW : Bool × LL) (c363 : List CV) (yA yy yw yx yL yS vl vG vk vF vP vZ vU vY vX vM vT vN vQ vO : CV) (gG : Bool) (l403 : LL) :
 Qg7 lb n yn ja aair2 jb adis4 bcar5 jg jd jf jc je bleg12 w6 s370 vo vr wW c363 yA yy yw yx yL yS vl vG vk vF vP vZ vU vY vX vM vT vN vQ vO gG l403 =
 optO (C lb n QdM [yw]) fun la =>
 optO (CV.asB la) fun s5 =>
 bif s5 then
 (chkO (room (l403.length + 1) 24) (
 Qce lb n yn ja aair2 jb adis4 bcar5 jg jd jf jc je bleg12 wW (gG && false) (l403 ++ [[CV.int .i64 2, CV.str (([108, 101, 103, 32] : LB) ++ s370)]]) (IntKind.wrap .i64 (w6 + 1))))
 else
 (optO (C lb n QdM [yx]) fun zE =>
 optO (CV.asB zE) fun ld =>
 bif ld then
 (chkO (room (l403.length + 1) 24) (
 Qce lb n yn ja aair2 jb adis4 bcar5 jg jd jf jc je bleg12 wW (gG && false) (l403 ++ [[CV.int .i64 2, CV.str (([108, 101, 103, 32] : LB) ++ s370)]]) (IntKind.wrap .i64 (w6 + 1))))
 else
 (Qce lb n yn ja aair2 jb adis4 bcar5 jg jd jf jc je bleg12 wW gG l403 (IntKind.wrap .i64 (w6 + 1)))) := (Qac _).trans (by kernel_rfl)
theorem Qrd (lb n yn : Nat) (ja : Bool) (aair2 : LL) (jb : Bool) (adis4 : LL) (bcar5 : LB) (jg jd jf jc : Int) (je : Bool) (bleg12 : LL) (w6 : Int) (s370 : LB) (vo vr : CV) (wW : Bool × LL) (c363 : List CV) (yA yy yw yx yL yS vl vG vk vF vP vZ vU vY vX vM vT vN vQ vO : CV) (g8 : Bool) (l399 : LL) :
 Qfz lb n yn ja aair2 jb adis4 bcar5 jg jd jf jc je bleg12 w6 s370 vo vr wW c363 yA yy yw yx yL yS vl vG vk vF vP vZ vU vY vX vM vT vN vQ vO g8 l399 =
 optO (C lb n QbF [.list je bleg12, .int .i64 w6]) fun sg =>
 optO (CV.asB sg) fun zV =>
 bif zV then
 (chkO (room (l399.length + 1) 24) (
 Qg7 lb n yn ja aair2 jb adis4 bcar5 jg jd jf jc je bleg12 w6 s370 vo vr wW c363 yA yy yw yx yL yS vl vG vk vF vP vZ vU vY vX vM vT vN vQ vO (g8 && false) (l399 ++ [[CV.int .i64 15, CV.str (([108, 101, 103, 32] : LB) ++ s370)]])))
 else
 (Qg7 lb n yn ja aair2 jb adis4 bcar5 jg jd jf jc je bleg12 w6 s370 vo vr wW c363 yA yy yw yx yL yS vl vG vk vF vP vZ vU vY vX vM vT vN vQ vO g8 l399) := (Qac _).trans (by kernel_rfl)
theorem Qqj (lb n yn : Nat) (ja : Bool) (aair2 : LL) (jb : Bool) (adis4 : LL) (bcar5 : LB) (jg jd jf jc : Int) (je : Bool) (bleg12 : LL) (w6 : Int) (s370 : LB) (wW : Bool × LL) (c363 : List CV) (yA yy yw yx yL yS : CV) (gF : Bool) (l374 : LL) :
 QgR lb n yn ja aair2 jb adis4 bcar5 jg jd jf jc je bleg12 w6 s370 wW c363 yA yy yw yx yL yS gF l374 =
 optO (C lb n QbN [.agg [.list ja aair2, .list jb adis4], yA]) fun vl =>
 optO (CV.asT vl) fun sZ =>
 optO (sZ[0]?) fun vG =>
 optO (CV.asT vl) fun zS =>
 optO (zS[1]?) fun vo =>
 optO (CV.asA vG) fun c380 =>
 chkO (c380.length == 5) (
 optO (c380[0]?) fun vP =>
 optO (c380[1]?) fun vZ =>
 optO (c380[2]?) fun vU =>
 optO (c380[3]?) fun vY =>
 optO (c380[4]?) fun vX =>
 optO (C lb n QbN [.agg [.list ja aair2, .list jb adis4], yy]) fun vk =>
 optO (CV.asT vk) fun sK =>
 optO (sK[0]?) fun vF =>
 optO (CV.asT vk) fun zx =>
 optO (zx[1]?) fun vr =>
 optO (CV.asA vF) fun c391 =>
 chkO (c391.length == 5) (
 optO (c391[0]?) fun vM =>
 optO (c391[1]?) fun vT =>
 optO (c391[2]?) fun vN =>
 optO (c391[3]?) fun vQ =>
 optO (c391[4]?) fun vO =>
 optO (CV.asB vo) fun z7 =>
 bif (!z7) then
 (chkO (room (l374.length + 1) 24) (
 Qfz lb n yn ja aair2 jb adis4 bcar5 jg jd jf jc je bleg12 w6 s370 vo vr wW c363 yA yy yw yx yL yS vl vG vk vF vP vZ vU vY vX vM vT vN vQ vO (gF && false) (l374 ++ [[CV.int .i64 14, CV.str (([108, 101, 103, 32] : LB) ++ s370)]])))
 else
 (optO (CV.asB vr) fun lD =>
 bif (!lD) then
 (chkO (room (l374.length + 1) 24) (
 Qfz lb n yn ja aair2 jb adis4 bcar5 jg jd jf jc je bleg12 w6 s370 vo vr wW c363 yA yy yw yx yL yS vl vG vk vF vP vZ vU vY vX vM vT vN vQ vO (gF && false) (l374 ++ [[CV.int .i64 14, CV.str (([108, 101, 103, 32] : LB) ++ s370)]])))
 else
 (Qfz lb n yn ja aair2 jb adis4 bcar5 jg jd jf jc je bleg12 w6 s370 vo vr wW c363 yA yy yw yx yL yS vl vG vk vF vP vZ vU vY vX vM vT vN vQ vO gF l374)))) := (Qac _).trans (by kernel_rfl)
noncomputable def Qnc (lb n : Nat) (ja : Bool) (aair2 : LL) (jb : Bool) (adis4 : LL) (bcar5 : LB) (jg jd jf jc : Int) (je : Bool) (bleg12 : LL) (wW : Bool × LL) (mX : Bool) (nr : LL) (vC : Int) : Option CV :=
 hold (E0 lb n 0 996 (sub (B Qam) [1, 1, 1, 1]) (retK Tryz.prog (R Qam) 0 (outK (Qaf Tryz.prog Qam))) ⟨fr 133 [(0, .val (.agg [.list ja aair2, .list jb adis4])), (1, .val (.agg [.str bcar5, .int .i64 jg, .int .i64 jd, .int .i64 jf, .int .i64 jc, .list je bleg12])), (2, .ptr 0 2 0), (3, .ptr 0 3 0), (4, .lst true true 83 []), (5, .lst true mX 83 nr), (6, vI vC), (15, .val (.agg [.str bcar5, .int .i64 jg, .int .i64 jd, .int .i64 jf, .int .i64 jc, .list je bleg12])), (16, .val (.list wW.1 wW.2))], [bx 133 [(2, some [.val (.list ja aair2), .val (.list jb adis4)]), (3, some [vS bcar5, vI jg, vI jd, vI jf, vI jc, .val (.list je bleg12)])]], KK⟩)
noncomputable def QdT (lb n mh : Nat) (ja : Bool) (aair2 : LL) (jb : Bool) (adis4 : LL) (bcar5 : LB) (jg jd jf jc : Int) (je : Bool) (bleg12 : LL) (vC : Int) (vJ : CV) (wW : Bool × LL) (gb : Bool) (l429 : LL) (om : Int) : Option CV :=
 hold (Qar (E0 lb n 0 991) 0 (Qad (sub (B Qam) [1, 1, 1, 1, 1, 0, 1, 0, 0]) ++ []) [] (sub (B Qam) [1, 1, 1, 1, 1, 0, 1, 0, 0]) (Qaj 2 (seqK (E0 lb n 0 994) (sub (B Qam) [1, 1, 1, 1, 1, 0]) (sub (B Qam) [1, 1, 1, 1, 1, 1]) (retK Tryz.prog (R Qam) 0 (outK (Qaf Tryz.prog Qam))))) mh ⟨fr 133 [(0, .val (.agg [.list ja aair2, .list jb adis4])), (1, .val (.agg [.str bcar5, .int .i64 jg, .int .i64 jd, .int .i64 jf, .int .i64 jc, .list je bleg12])), (2, .ptr 0 2 0), (3, .ptr 0 3 0), (4, .lst true true 83 []), (5, .lst true gb 83 l429), (6, vI vC), (13, vV vJ), (14, vI om), (15, .val (.agg [.str bcar5, .int .i64 jg, .int .i64 jd, .int .i64 jf, .int .i64 jc, .list je bleg12])), (16, .val (.list wW.1 wW.2)), (99, .ptr 0 3 2), (100, .val (.agg [.int .i64 jd, .int .i64 jf, .int .i64 jc])), (101, vV vJ)], [bx 133 [(2, some [.val (.list ja aair2), .val (.list jb adis4)]), (3, some [vS bcar5, vI jg, vI jd, vI jf, vI jc, .val (.list je bleg12)])]], KK⟩)
noncomputable def Qje (lb n : Nat) (ja : Bool) (aair2 : LL) (jb : Bool) (adis4 : LL) (bcar5 : LB) (jg jd jf jc : Int) (je : Bool) (bleg12 : LL) (vC : Int) (vJ : CV) (wW : Bool × LL) (mP : Bool) (mY : LL) (pq : Int) : Option CV :=
 hold (E0 lb n 0 994 (sub (B Qam) [1, 1, 1, 1, 1, 1]) (retK Tryz.prog (R Qam) 0 (outK (Qaf Tryz.prog Qam))) ⟨fr 133 [(0, .val (.agg [.list ja aair2, .list jb adis4])), (1, .val (.agg [.str bcar5, .int .i64 jg, .int .i64 jd, .int .i64 jf, .int .i64 jc, .list je bleg12])), (2, .ptr 0 2 0), (3, .ptr 0 3 0), (4, .lst true true 83 []), (5, .lst true mP 83 mY), (6, vI vC), (13, vV vJ), (14, vI pq), (15, .val (.agg [.str bcar5, .int .i64 jg, .int .i64 jd, .int .i64 jf, .int .i64 jc, .list je bleg12])), (16, .val (.list wW.1 wW.2)), (99, .ptr 0 3 2), (100, .val (.agg [.int .i64 jd, .int .i64 jf, .int .i64 jc])), (101, vV vJ)], [bx 133 [(2, some [.val (.list ja aair2), .val (.list jb adis4)]), (3, some [vS bcar5, vI jg, vI jd, vI jf, vI jc, .val (.list je bleg12)])]], KK⟩)
theorem QgU (lb n : Nat) (ja : Bool) (aair2 : LL) (jb : Bool) (adis4 : LL) (bcar5 : LB) (jg jd jf jc : Int) (je : Bool) (bleg12 : LL) (vC : Int) (vJ : CV) (wW : Bool × LL) (mP : Bool) (mY : LL) (pq : Int) :
 Qje lb n ja aair2 jb adis4 bcar5 jg jd jf jc je bleg12 vC vJ wW mP mY pq =
 some (.list mP mY) := (Qac _).trans (by kernel_rfl)
theorem Qep (lb n mh : Nat) (ja : Bool) (aair2 : LL) (jb : Bool) (adis4 : LL) (bcar5 : LB) (jg jd jf jc : Int) (je : Bool) (bleg12 : LL) (vC : Int) (vJ : CV) (wW : Bool × LL) (gb : Bool) (l429 : LL) (om : Int) :
 QdT lb n (mh + 1) ja aair2 jb adis4 bcar5 jg jd jf jc je bleg12 vC vJ wW gb l429 om =
 bif ((l429.length : Int) == 0) then
 (optO (CV.asL vJ) fun lw =>
 bif (decide (om < (lw.2.length : Int))) then
 (optO (CV.asL vJ) fun lE =>
 optO (atL lE.2 om) fun c446 =>
 chkO (c446.length == 1) (
 optO (c446[0]?) fun zp =>
 optO (C lb n Qcr [.agg [.list ja aair2, .list jb adis4], .agg [.str bcar5, .int .i64 jg, .int .i64 jd, .int .i64 jf, .int .i64 jc, .list je bleg12], zp]) fun zY =>
 optO (C lb n Qby [zY]) fun zm =>
 optO (CV.asB zm) fun sB =>
 bif (!sB) then
 (optO (CV.asL vJ) fun zW =>
 optO (atL zW.2 om) fun c452 =>
 chkO (c452.length == 1) (
 optO (c452[0]?) fun zN =>
 optO (C lb n Qh6 [zN]) fun zL =>
 optO (CV.asS zL) fun s455 =>
 chkO (decide (([100, 97, 121, 32] : LB).length + s455.length ≤ 9223372036854775807)) (
 chkO (room (l429.length + 1) 24) (
 QdT lb n mh ja aair2 jb adis4 bcar5 jg jd jf jc je bleg12 vC vJ wW (gb && false) (l429 ++ [[CV.int .i64 13, CV.str (([100, 97, 121, 32] : LB) ++ s455)]]) (IntKind.wrap .i64 (om + 1))))))
 else
 (QdT lb n mh ja aair2 jb adis4 bcar5 jg jd jf jc je bleg12 vC vJ wW gb l429 (IntKind.wrap .i64 (om + 1)))))
 else
 (Qje lb n ja aair2 jb adis4 bcar5 jg jd jf jc je bleg12 vC vJ wW gb l429 om))
 else
 (Qje lb n ja aair2 jb adis4 bcar5 jg jd jf jc je bleg12 vC vJ wW gb l429 om) := (Qac _).trans (by kernel_rfl)
theorem Qp1 (lb n : Nat) (ja : Bool) (aair2 : LL) (jb : Bool) (adis4 : LL) (bcar5 : LB) (jg jd jf jc : Int) (je : Bool) (bleg12 : LL) (wW : Bool × LL) (mX : Bool) (nr : LL) (vC : Int) :
 Qnc lb n ja aair2 jb adis4 bcar5 jg jd jf jc je bleg12 wW mX nr vC =
 optO (C lb n Qb5 [.agg [.int .i64 jd, .int .i64 jf, .int .i64 jc]]) fun vJ =>
 QdT lb n n ja aair2 jb adis4 bcar5 jg jd jf jc je bleg12 vC vJ wW mX nr 0 := (Qac _).trans (by kernel_rfl)
theorem QiG (lb n yn : Nat) (ja : Bool) (aair2 : LL) (jb : Bool) (adis4 : LL) (bcar5 : LB) (jg jd jf jc : Int) (je : Bool) (bleg12 : LL) (wW : Bool × LL) (gI : Bool) (l242 : LL) (w6 : Int) :
 Qce lb n (yn + 1) ja aair2 jb adis4 bcar5 jg jd jf jc je bleg12 wW gI l242 w6 =
 bif (decide (w6 < (bleg12.length : Int))) then
 (optO (atL bleg12 w6) fun c363 =>
 chkO (c363.length == 5) (
 optO (c363[0]?) fun yA =>
 optO (c363[1]?) fun yy =>
 optO (c363[2]?) fun yw =>
 optO (c363[3]?) fun yx =>
 optO (c363[4]?) fun yL =>
 optO (C lb n Qd1 [.int .i64 w6]) fun yS =>
 optO (CV.asS yS) fun s370 =>
 chkO (decide (([108, 101, 103, 32] : LB).length + s370.length ≤ 9223372036854775807)) (
 optO (C lb n Qcq [yL, .int .i64 3, .int .i64 3]) fun lj =>
 optO (CV.asB lj) fun sX =>
 bif (!sX) then
 (chkO (room (l242.length + 1) 24) (
 QgR lb n yn ja aair2 jb adis4 bcar5 jg jd jf jc je bleg12 w6 s370 wW c363 yA yy yw yx yL yS (gI && false) (l242 ++ [[CV.int .i64 5, CV.str (([108, 101, 103, 32] : LB) ++ s370)]])))
 else
 (QgR lb n yn ja aair2 jb adis4 bcar5 jg jd jf jc je bleg12 w6 s370 wW c363 yA yy yw yx yL yS gI l242))))
 else
 (Qnc lb n ja aair2 jb adis4 bcar5 jg jd jf jc je bleg12 wW gI l242 w6) := (Qac _).trans (by kernel_rfl)
theorem Qud (lb n : Nat) (ja : Bool) (aair2 : LL) (jb : Bool) (adis4 : LL) (bcar5 : LB) (jg jd jf jc : Int) (je : Bool) (bleg12 : LL) :
 top lb n Qam [.agg [.list ja aair2, .list jb adis4], .agg [.str bcar5, .int .i64 jg, .int .i64 jd, .int .i64 jf, .int .i64 jc, .list je bleg12]] =
 optO (C lb n QcR [.agg [.str bcar5, .int .i64 jg, .int .i64 jd, .int .i64 jf, .int .i64 jc, .list je bleg12]]) fun oM =>
 optO (CV.asL oM) fun wW =>
 bif (decide ((bleg12.length : Int) < 1)) then
 (some (.list wW.1 wW.2))
 else
 (bif (decide ((bleg12.length : Int) > 6)) then
 (some (.list wW.1 wW.2))
 else
 (Qce lb n n ja aair2 jb adis4 bcar5 jg jd jf jc je bleg12 wW wW.1 wW.2 0)) := by kernel_rfl
noncomputable def QgV (lb n : Nat) (ja : Bool) (aair2 : LL) (jb : Bool) (adis4 : LL) (bcar5 : LB) (jg jd jf jc : Int) (je : Bool) (bleg12 : LL) (yT : Bool) (l17 : LL) : Option CV :=
 hold (E0 lb n 0 996 (sub (B Qai) [1, 1, 1, 1]) (retK Tryz.prog (R Qai) 0 (outK (Qaf Tryz.prog Qai))) ⟨fr 100 [(0, .val (.agg [.list ja aair2, .list jb adis4])), (1, .val (.agg [.str bcar5, .int .i64 jg, .int .i64 jd, .int .i64 jf, .int .i64 jc, .list je bleg12])), (2, .ptr 0 2 0), (3, .ptr 0 3 0), (4, .lst true true 83 []), (5, .ptr 0 5 0), (6, .clo QaP [.ptr 0 5 0]), (13, .clo QaP [.ptr 0 5 0])], [bx 100 [(2, some [.val (.list ja aair2), .val (.list jb adis4)]), (3, some [vS bcar5, vI jg, vI jd, vI jf, vI jc, .val (.list je bleg12)]), (5, some [.lst true yT 83 l17])]], KK⟩)
noncomputable def Qfo (lb n : Nat) (ja : Bool) (aair2 : LL) (jb : Bool) (adis4 : LL) (bcar5 : LB) (jg jd jf jc : Int) (je : Bool) (bleg12 : LL) (n9 : Bool) (l19 : LL) : Option CV :=
 hold (E0 lb n 0 995 (sub (B Qai) [1, 1, 1, 1, 1]) (retK Tryz.prog (R Qai) 0 (outK (Qaf Tryz.prog Qai))) ⟨fr 100 [(0, .val (.agg [.list ja aair2, .list jb adis4])), (1, .val (.agg [.str bcar5, .int .i64 jg, .int .i64 jd, .int .i64 jf, .int .i64 jc, .list je bleg12])), (2, .ptr 0 2 0), (3, .ptr 0 3 0), (4, .lst true true 83 []), (5, .ptr 0 5 0), (6, .clo QaP [.ptr 0 5 0]), (13, .clo QaP [.ptr 0 5 0])], [bx 100 [(2, some [.val (.list ja aair2), .val (.list jb adis4)]), (3, some [vS bcar5, vI jg, vI jd, vI jf, vI jc, .val (.list je bleg12)]), (5, some [.lst true n9 83 l19])]], KK⟩)
noncomputable def Qfl (lb n : Nat) (ja : Bool) (aair2 : LL) (jb : Bool) (adis4 : LL) (bcar5 : LB) (jg jd jf jc : Int) (je : Bool) (bleg12 : LL) (w9 : CV) (oj : Bool) (l24 : LL) : Option CV :=
 hold (E0 lb n 0 994 (sub (B Qai) [1, 1, 1, 1, 1, 1]) (retK Tryz.prog (R Qai) 0 (outK (Qaf Tryz.prog Qai))) ⟨fr 100 [(0, .val (.agg [.list ja aair2, .list jb adis4])), (1, .val (.agg [.str bcar5, .int .i64 jg, .int .i64 jd, .int .i64 jf, .int .i64 jc, .list je bleg12])), (2, .ptr 0 2 0), (3, .ptr 0 3 0), (4, .lst true true 83 []), (5, .ptr 0 5 0), (6, .clo QaP [.ptr 0 5 0]), (7, vV w9), (13, .clo QaP [.ptr 0 5 0])], [bx 100 [(2, some [.val (.list ja aair2), .val (.list jb adis4)]), (3, some [vS bcar5, vI jg, vI jd, vI jf, vI jc, .val (.list je bleg12)]), (5, some [.lst true oj 83 l24])]], KK⟩)
noncomputable def Qdw (lb n og : Nat) (ja : Bool) (aair2 : LL) (jb : Bool) (adis4 : LL) (bcar5 : LB) (jg jd jf jc : Int) (je : Bool) (bleg12 : LL) (w9 : CV) (i46 : Int) (ot : Bool) (oY : LL) : Option CV :=
 hold (Qar (E0 lb n 0 989) 0 (Qad (sub (B Qai) [1, 1, 1, 1, 1, 1, 1, 0, 1, 0, 0]) ++ [8, 10]) [] (sub (B Qai) [1, 1, 1, 1, 1, 1, 1, 0, 1, 0, 0]) (Qaj 0 (seqK (E0 lb n 0 992) (sub (B Qai) [1, 1, 1, 1, 1, 1, 1, 0]) (sub (B Qai) [1, 1, 1, 1, 1, 1, 1, 1]) (retK Tryz.prog (R Qai) 0 (outK (Qaf Tryz.prog Qai))))) og ⟨fr 100 [(0, .val (.agg [.list ja aair2, .list jb adis4])), (1, .val (.agg [.str bcar5, .int .i64 jg, .int .i64 jd, .int .i64 jf, .int .i64 jc, .list je bleg12])), (2, .ptr 0 2 0), (3, .ptr 0 3 0), (4, .lst true true 83 []), (5, .ptr 0 5 0), (6, .clo QaP [.ptr 0 5 0]), (7, vV w9), (13, .clo QaP [.ptr 0 5 0]), (51, .ptr 0 3 5), (52, .val (.list je bleg12)), (53, .val (.int .i64 (bleg12.length : Int))), (54, vI i46)], [bx 100 [(2, some [.val (.list ja aair2), .val (.list jb adis4)]), (3, some [vS bcar5, vI jg, vI jd, vI jf, vI jc, .val (.list je bleg12)]), (5, some [.lst true ot 83 oY])]], KK⟩)
noncomputable def Qfr (lb n pU og : Nat) (ja : Bool) (aair2 : LL) (jb : Bool) (adis4 : LL) (bcar5 : LB) (jg jd jf jc : Int) (je : Bool) (bleg12 : LL) (w9 : CV) (i46 : Int) (gL : CV) (go : Bool × LL) (gU : Int) (va : Bool) (l80 : LL) : Option CV :=
 hold (Qar (E0 lb n 0 981) 0 (Qad (sub (B Qai) [1, 1, 1, 1, 1, 1, 1, 0, 1, 0, 0, 1, 1, 0, 0, 1, 1, 0, 0]) ++ [10]) [] (sub (B Qai) [1, 1, 1, 1, 1, 1, 1, 0, 1, 0, 0, 1, 1, 0, 0, 1, 1, 0, 0]) (Qaj 2 (Qaj 1 (seqK (E0 lb n 0 986) (sub (B Qai) [1, 1, 1, 1, 1, 1, 1, 0, 1, 0, 0, 1, 1, 0]) (sub (B Qai) [1, 1, 1, 1, 1, 1, 1, 0, 1, 0, 0, 1, 1, 1]) (QbK 0 (Qad (sub (B Qai) [1, 1, 1, 1, 1, 1, 1, 0, 1, 0, 0]) ++ [8, 10]) [] (Qar (E0 lb n 0 989) 0 (Qad (sub (B Qai) [1, 1, 1, 1, 1, 1, 1, 0, 1, 0, 0]) ++ [8, 10]) [] (sub (B Qai) [1, 1, 1, 1, 1, 1, 1, 0, 1, 0, 0]) (Qaj 0 (seqK (E0 lb n 0 992) (sub (B Qai) [1, 1, 1, 1, 1, 1, 1, 0]) (sub (B Qai) [1, 1, 1, 1, 1, 1, 1, 1]) (retK Tryz.prog (R Qai) 0 (outK (Qaf Tryz.prog Qai))))) og) (Qaj 0 (seqK (E0 lb n 0 992) (sub (B Qai) [1, 1, 1, 1, 1, 1, 1, 0]) (sub (B Qai) [1, 1, 1, 1, 1, 1, 1, 1]) (retK Tryz.prog (R Qai) 0 (outK (Qaf Tryz.prog Qai))))))))) pU ⟨fr 100 [(0, .val (.agg [.list ja aair2, .list jb adis4])), (1, .val (.agg [.str bcar5, .int .i64 jg, .int .i64 jd, .int .i64 jf, .int .i64 jc, .list je bleg12])), (2, .ptr 0 2 0), (3, .ptr 0 3 0), (4, .lst true true 83 []), (5, .ptr 0 5 0), (6, .clo QaP [.ptr 0 5 0]), (7, vV w9), (8, vI i46), (13, .clo QaP [.ptr 0 5 0]), (51, .ptr 0 3 5), (52, .val (.list je bleg12)), (53, .val (.int .i64 (bleg12.length : Int))), (54, vI i46), (55, .val (.bool (decide (i46 < (bleg12.length : Int))))), (56, vI i46), (57, .val (.agg [.list ja aair2, .list jb adis4])), (58, .ptr 0 3 5), (59, .val (.list je bleg12)), (60, vI i46), (61, vV gL), (62, .val (.int .i64 (go.2.length : Int))), (63, vI gU)], [bx 100 [(2, some [.val (.list ja aair2), .val (.list jb adis4)]), (3, some [vS bcar5, vI jg, vI jd, vI jf, vI jc, .val (.list je bleg12)]), (5, some [.lst true va 83 l80])]], KK⟩)
noncomputable def QjQ (lb n og : Nat) (ja : Bool) (aair2 : LL) (jb : Bool) (adis4 : LL) (bcar5 : LB) (jg jd jf jc : Int) (je : Bool) (bleg12 : LL) (w9 : CV) (i46 qE : Int) (nK : Bool) (qd : LL) : Option CV :=
 hold (E0 lb n 0 986 (sub (B Qai) [1, 1, 1, 1, 1, 1, 1, 0, 1, 0, 0, 1, 1, 1]) (QbK 0 (Qad (sub (B Qai) [1, 1, 1, 1, 1, 1, 1, 0, 1, 0, 0]) ++ [8, 10]) [] (Qar (E0 lb n 0 989) 0 (Qad (sub (B Qai) [1, 1, 1, 1, 1, 1, 1, 0, 1, 0, 0]) ++ [8, 10]) [] (sub (B Qai) [1, 1, 1, 1, 1, 1, 1, 0, 1, 0, 0]) (Qaj 0 (seqK (E0 lb n 0 992) (sub (B Qai) [1, 1, 1, 1, 1, 1, 1, 0]) (sub (B Qai) [1, 1, 1, 1, 1, 1, 1, 1]) (retK Tryz.prog (R Qai) 0 (outK (Qaf Tryz.prog Qai))))) og) (Qaj 0 (seqK (E0 lb n 0 992) (sub (B Qai) [1, 1, 1, 1, 1, 1, 1, 0]) (sub (B Qai) [1, 1, 1, 1, 1, 1, 1, 1]) (retK Tryz.prog (R Qai) 0 (outK (Qaf Tryz.prog Qai)))))) ⟨fr 100 [(0, .val (.agg [.list ja aair2, .list jb adis4])), (1, .val (.agg [.str bcar5, .int .i64 jg, .int .i64 jd, .int .i64 jf, .int .i64 jc, .list je bleg12])), (2, .ptr 0 2 0), (3, .ptr 0 3 0), (4, .lst true true 83 []), (5, .ptr 0 5 0), (6, .clo QaP [.ptr 0 5 0]), (7, vV w9), (8, vI qE), (13, .clo QaP [.ptr 0 5 0]), (51, .ptr 0 3 5), (52, .val (.list je bleg12)), (53, .val (.int .i64 (bleg12.length : Int))), (54, vI i46), (55, .val (.bool (decide (i46 < (bleg12.length : Int)))))], [bx 100 [(2, some [.val (.list ja aair2), .val (.list jb adis4)]), (3, some [vS bcar5, vI jg, vI jd, vI jf, vI jc, .val (.list je bleg12)]), (5, some [.lst true nK 83 qd])]], KK⟩)
theorem QmH (lb n og : Nat) (ja : Bool) (aair2 : LL) (jb : Bool) (adis4 : LL) (bcar5 : LB) (jg jd jf jc : Int) (je : Bool) (bleg12 : LL) (w9 : CV) (i46 qE : Int) (nK : Bool) (qd : LL) :
 QjQ lb n og ja aair2 jb adis4 bcar5 jg jd jf jc je bleg12 w9 i46 qE nK qd =
 Qdw lb n og ja aair2 jb adis4 bcar5 jg jd jf jc je bleg12 w9 (IntKind.wrap .i64 (i46 + 1)) nK qd := (Qac _).trans (by kernel_rfl)
theorem QgM (lb n pU og : Nat) (ja : Bool) (aair2 : LL) (jb : Bool) (adis4 : LL) (bcar5 : LB) (jg jd jf jc : Int) (je : Bool) (bleg12 : LL) (w9 : CV) (i46 : Int) (gL : CV) (go : Bool × LL) (gU : Int) (va : Bool) (l80 : LL) :
 Qfr lb n (pU + 1) og ja aair2 jb adis4 bcar5 jg jd jf jc je bleg12 w9 i46 gL go gU va l80 =
 bif (decide (gU < (go.2.length : Int))) then
 (optO (CV.asL gL) fun tJ =>
 optO (atL tJ.2 gU) fun c88 =>
 chkO (c88.length == 1) (
 optO (c88[0]?) fun qZ =>
 optO (C lb n QhG [.int .i64 i46]) fun qs =>
 optO (CV.asS qs) fun s91 =>
 chkO (decide (([108, 101, 103, 32] : LB).length + s91.length ≤ 9223372036854775807)) (
 chkO (CV.isCell qZ) (
 chkO (room (l80.length + 1) 24) (
 Qfr lb n pU og ja aair2 jb adis4 bcar5 jg jd jf jc je bleg12 w9 i46 gL go (IntKind.wrap .i64 (gU + 1)) (va && false) (l80 ++ [[qZ, CV.str (([108, 101, 103, 32] : LB) ++ s91)]]))))))
 else
 (QjQ lb n og ja aair2 jb adis4 bcar5 jg jd jf jc je bleg12 w9 i46 i46 va l80) := (Qac _).trans (by kernel_rfl)
noncomputable def QjL (lb n : Nat) (ja : Bool) (aair2 : LL) (jb : Bool) (adis4 : LL) (bcar5 : LB) (jg jd jf jc : Int) (je : Bool) (bleg12 : LL) (w9 : CV) (kQ : Bool) (l96 : LL) : Option CV :=
 hold (E0 lb n 0 992 (sub (B Qai) [1, 1, 1, 1, 1, 1, 1, 1]) (retK Tryz.prog (R Qai) 0 (outK (Qaf Tryz.prog Qai))) ⟨fr 100 [(0, .val (.agg [.list ja aair2, .list jb adis4])), (1, .val (.agg [.str bcar5, .int .i64 jg, .int .i64 jd, .int .i64 jf, .int .i64 jc, .list je bleg12])), (2, .ptr 0 2 0), (3, .ptr 0 3 0), (4, .lst true true 83 []), (5, .ptr 0 5 0), (6, .clo QaP [.ptr 0 5 0]), (7, vV w9), (13, .clo QaP [.ptr 0 5 0])], [bx 100 [(2, some [.val (.list ja aair2), .val (.list jb adis4)]), (3, some [vS bcar5, vI jg, vI jd, vI jf, vI jc, .val (.list je bleg12)]), (5, some [.lst true kQ 83 l96])]], KK⟩)
noncomputable def Qd6 (lb n nd : Nat) (ja : Bool) (aair2 : LL) (jb : Bool) (adis4 : LL) (bcar5 : LB) (jg jd jf jc : Int) (je : Bool) (bleg12 : LL) (w9 gQ : CV) (mc : Bool × LL) (kQ : Bool) (l96 : LL) (gD : Int) : Option CV :=
 hold (Qar (E0 lb n 0 987) 0 (Qad (sub (B Qai) [1, 1, 1, 1, 1, 1, 1, 1, 1, 0, 1, 0, 0]) ++ [12]) [] (sub (B Qai) [1, 1, 1, 1, 1, 1, 1, 1, 1, 0, 1, 0, 0]) (Qaj 4 (seqK (E0 lb n 0 990) (sub (B Qai) [1, 1, 1, 1, 1, 1, 1, 1, 1, 0]) (sub (B Qai) [1, 1, 1, 1, 1, 1, 1, 1, 1, 1]) (retK Tryz.prog (R Qai) 0 (outK (Qaf Tryz.prog Qai))))) nd ⟨fr 100 [(0, .val (.agg [.list ja aair2, .list jb adis4])), (1, .val (.agg [.str bcar5, .int .i64 jg, .int .i64 jd, .int .i64 jf, .int .i64 jc, .list je bleg12])), (2, .ptr 0 2 0), (3, .ptr 0 3 0), (4, .lst true true 83 []), (5, .ptr 0 5 0), (6, .clo QaP [.ptr 0 5 0]), (7, vV w9), (13, .clo QaP [.ptr 0 5 0]), (79, .ptr 0 3 2), (80, .val (.agg [.int .i64 jd, .int .i64 jf, .int .i64 jc])), (81, vV gQ), (82, .val (.int .i64 (mc.2.length : Int))), (83, vI gD)], [bx 100 [(2, some [.val (.list ja aair2), .val (.list jb adis4)]), (3, some [vS bcar5, vI jg, vI jd, vI jf, vI jc, .val (.list je bleg12)]), (5, some [.lst true kQ 83 l96])]], KK⟩)
noncomputable def Qj9 (lb n : Nat) (ja : Bool) (aair2 : LL) (jb : Bool) (adis4 : LL) (bcar5 : LB) (jg jd jf jc : Int) (je : Bool) (bleg12 : LL) (w9 pt : CV) (nB : Bool) (nu : LL) : Option CV :=
 hold (E0 lb n 0 990 (sub (B Qai) [1, 1, 1, 1, 1, 1, 1, 1, 1, 1]) (retK Tryz.prog (R Qai) 0 (outK (Qaf Tryz.prog Qai))) ⟨fr 100 [(0, .val (.agg [.list ja aair2, .list jb adis4])), (1, .val (.agg [.str bcar5, .int .i64 jg, .int .i64 jd, .int .i64 jf, .int .i64 jc, .list je bleg12])), (2, .ptr 0 2 0), (3, .ptr 0 3 0), (4, .lst true true 83 []), (5, .ptr 0 5 0), (6, .clo QaP [.ptr 0 5 0]), (7, vV w9), (12, vV pt), (13, .clo QaP [.ptr 0 5 0])], [bx 100 [(2, some [.val (.list ja aair2), .val (.list jb adis4)]), (3, some [vS bcar5, vI jg, vI jd, vI jf, vI jc, .val (.list je bleg12)]), (5, some [.lst true nB 83 nu])]], KK⟩)
theorem Qnp (lb n : Nat) (ja : Bool) (aair2 : LL) (jb : Bool) (adis4 : LL) (bcar5 : LB) (jg jd jf jc : Int) (je : Bool) (bleg12 : LL) (w9 pt : CV) (nB : Bool) (nu : LL) :
 Qj9 lb n ja aair2 jb adis4 bcar5 jg jd jf jc je bleg12 w9 pt nB nu =
 some (.list nB nu) := (Qac _).trans (by kernel_rfl)
noncomputable def QjI (lb n : Nat) (ja : Bool) (aair2 : LL) (jb : Bool) (adis4 : LL) (bcar5 : LB) (jg jd jf jc : Int) (je : Bool) (bleg12 : LL) (w9 : CV) (kQ : Bool) (l96 : LL) : Option CV :=
 hold (E0 lb n 0 990 (sub (B Qai) [1, 1, 1, 1, 1, 1, 1, 1, 1, 1]) (retK Tryz.prog (R Qai) 0 (outK (Qaf Tryz.prog Qai))) ⟨fr 100 [(0, .val (.agg [.list ja aair2, .list jb adis4])), (1, .val (.agg [.str bcar5, .int .i64 jg, .int .i64 jd, .int .i64 jf, .int .i64 jc, .list je bleg12])), (2, .ptr 0 2 0), (3, .ptr 0 3 0), (4, .lst true true 83 []), (5, .ptr 0 5 0), (6, .clo QaP [.ptr 0 5 0]), (7, vV w9), (13, .clo QaP [.ptr 0 5 0])], [bx 100 [(2, some [.val (.list ja aair2), .val (.list jb adis4)]), (3, some [vS bcar5, vI jg, vI jd, vI jf, vI jc, .val (.list je bleg12)]), (5, some [.lst true kQ 83 l96])]], KK⟩)
theorem Qmx (lb n : Nat) (ja : Bool) (aair2 : LL) (jb : Bool) (adis4 : LL) (bcar5 : LB) (jg jd jf jc : Int) (je : Bool) (bleg12 : LL) (w9 : CV) (kQ : Bool) (l96 : LL) :
 QjI lb n ja aair2 jb adis4 bcar5 jg jd jf jc je bleg12 w9 kQ l96 =
 some (.list kQ l96) := (Qac _).trans (by kernel_rfl)
theorem Qhe (lb n nd : Nat) (ja : Bool) (aair2 : LL) (jb : Bool) (adis4 : LL) (bcar5 : LB) (jg jd jf jc : Int) (je : Bool) (bleg12 : LL) (w9 gQ : CV) (mc : Bool × LL) (kQ : Bool) (l96 : LL) (gD : Int) :
 Qd6 lb n (nd + 1) ja aair2 jb adis4 bcar5 jg jd jf jc je bleg12 w9 gQ mc kQ l96 gD =
 bif (decide (gD < (mc.2.length : Int))) then
 (optO (CV.asL gQ) fun zM =>
 optO (atL zM.2 gD) fun c116 =>
 chkO (c116.length == 1) (
 optO (c116[0]?) fun pf =>
 optO (C lb n Qbg [.agg [.list ja aair2, .list jb adis4], .list je bleg12, pf]) fun sY =>
 optO (CV.asB sY) fun zR =>
 bif (!zR) then
 (optO (C lb n QeW [pf]) fun sN =>
 optO (CV.asS sN) fun s121 =>
 chkO (decide (([100, 97, 121, 32] : LB).length + s121.length ≤ 9223372036854775807)) (
 chkO (room (l96.length + 1) 24) (
 Qj9 lb n ja aair2 jb adis4 bcar5 jg jd jf jc je bleg12 w9 pf (kQ && false) (l96 ++ [[CV.int .i64 13, CV.str (([100, 97, 121, 32] : LB) ++ s121)]]))))
 else
 (Qd6 lb n nd ja aair2 jb adis4 bcar5 jg jd jf jc je bleg12 w9 gQ mc kQ l96 (IntKind.wrap .i64 (gD + 1)))))
 else
 (QjI lb n ja aair2 jb adis4 bcar5 jg jd jf jc je bleg12 w9 kQ l96 ) := (Qac _).trans (by kernel_rfl)
theorem Qm3 (lb n : Nat) (ja : Bool) (aair2 : LL) (jb : Bool) (adis4 : LL) (bcar5 : LB) (jg jd jf jc : Int) (je : Bool) (bleg12 : LL) (w9 : CV) (kQ : Bool) (l96 : LL) :
 QjL lb n ja aair2 jb adis4 bcar5 jg jd jf jc je bleg12 w9 kQ l96 =
 bif (decide ((l96.length : Int) > 0)) then
 (some (.list kQ l96))
 else
 (optO (C lb n Qgm [.agg [.int .i64 jd, .int .i64 jf, .int .i64 jc]]) fun gQ =>
 optO (CV.asL gQ) fun mc =>
 Qd6 lb n n ja aair2 jb adis4 bcar5 jg jd jf jc je bleg12 w9 gQ mc kQ l96 0) := (Qac _).trans (by kernel_rfl)
theorem QgP (lb n og : Nat) (ja : Bool) (aair2 : LL) (jb : Bool) (adis4 : LL) (bcar5 : LB) (jg jd jf jc : Int) (je : Bool) (bleg12 : LL) (w9 : CV) (i46 : Int) (ot : Bool) (oY : LL) :
 Qdw lb n (og + 1) ja aair2 jb adis4 bcar5 jg jd jf jc je bleg12 w9 i46 ot oY =
 bif (decide (i46 < (bleg12.length : Int))) then
 (optO (C lb n QbZ [.agg [.list ja aair2, .list jb adis4], .list je bleg12, .int .i64 i46]) fun gL =>
 optO (CV.asL gL) fun go =>
 Qfr lb n n og ja aair2 jb adis4 bcar5 jg jd jf jc je bleg12 w9 i46 gL go 0 ot oY)
 else
 (QjL lb n ja aair2 jb adis4 bcar5 jg jd jf jc je bleg12 w9 ot oY) := (Qac _).trans (by kernel_rfl)
theorem Qii (lb n : Nat) (ja : Bool) (aair2 : LL) (jb : Bool) (adis4 : LL) (bcar5 : LB) (jg jd jf jc : Int) (je : Bool) (bleg12 : LL) (w9 : CV) (oj : Bool) (l24 : LL) :
 Qfl lb n ja aair2 jb adis4 bcar5 jg jd jf jc je bleg12 w9 oj l24 =
 bif ((bleg12.length : Int) == 0) then
 (chkO (room (l24.length + 1) 24) (
 some (.list (oj && false) (l24 ++ [[CV.int .i64 4, CV.str [108, 101, 103, 115]]]))))
 else
 (bif (decide ((bleg12.length : Int) > 6)) then
 (chkO (room (l24.length + 1) 24) (
 some (.list (oj && false) (l24 ++ [[CV.int .i64 4, CV.str [108, 101, 103, 115]]]))))
 else
 (Qdw lb n n ja aair2 jb adis4 bcar5 jg jd jf jc je bleg12 w9 0 oj l24)) := (Qac _).trans (by kernel_rfl)
theorem Qnj (lb n : Nat) (ja : Bool) (aair2 : LL) (jb : Bool) (adis4 : LL) (bcar5 : LB) (jg jd jf jc : Int) (je : Bool) (bleg12 : LL) (n9 : Bool) (l19 : LL) :
 Qfo lb n ja aair2 jb adis4 bcar5 jg jd jf jc je bleg12 n9 l19 =
 optO (C lb n QbA [.agg [.int .i64 jd, .int .i64 jf, .int .i64 jc]]) fun wZ =>
 optO (CV.asI .i64 wZ) fun i21 =>
 bif (i21 != 0) then
 (chkO (CV.isCell wZ) (
 chkO (room (l19.length + 1) 24) (
 Qfl lb n ja aair2 jb adis4 bcar5 jg jd jf jc je bleg12 wZ (n9 && false) (l19 ++ [[wZ, CV.str [112, 101, 114, 105, 111, 100]]]))))
 else
 (Qfl lb n ja aair2 jb adis4 bcar5 jg jd jf jc je bleg12 wZ n9 l19) := (Qac _).trans (by kernel_rfl)
theorem QmG (lb n : Nat) (ja : Bool) (aair2 : LL) (jb : Bool) (adis4 : LL) (bcar5 : LB) (jg jd jf jc : Int) (je : Bool) (bleg12 : LL) (yT : Bool) (l17 : LL) :
 QgV lb n ja aair2 jb adis4 bcar5 jg jd jf jc je bleg12 yT l17 =
 bif (decide (jg < 1)) then
 (chkO (room (l17.length + 1) 24) (
 Qfo lb n ja aair2 jb adis4 bcar5 jg jd jf jc je bleg12 (yT && false) (l17 ++ [[CV.int .i64 2, CV.str [110, 117, 109, 98, 101, 114]]])))
 else
 (bif (decide (jg > 9999)) then
 (chkO (room (l17.length + 1) 24) (
 Qfo lb n ja aair2 jb adis4 bcar5 jg jd jf jc je bleg12 (yT && false) (l17 ++ [[CV.int .i64 2, CV.str [110, 117, 109, 98, 101, 114]]])))
 else
 (Qfo lb n ja aair2 jb adis4 bcar5 jg jd jf jc je bleg12 yT l17)) := (Qac _).trans (by kernel_rfl)
theorem QpU (lb n : Nat) (ja : Bool) (aair2 : LL) (jb : Bool) (adis4 : LL) (bcar5 : LB) (jg jd jf jc : Int) (je : Bool) (bleg12 : LL) :
 top lb n Qai [.agg [.list ja aair2, .list jb adis4], .agg [.str bcar5, .int .i64 jg, .int .i64 jd, .int .i64 jf, .int .i64 jc, .list je bleg12]] =
 optO (C lb n Qhy [.str bcar5]) fun oM =>
 optO (CV.asB oM) fun kg =>
 bif (!kg) then
 (QgV lb n ja aair2 jb adis4 bcar5 jg jd jf jc je bleg12 false [[CV.int .i64 5, CV.str [99, 97, 114, 114, 105, 101, 114]]])
 else
 (QgV lb n ja aair2 jb adis4 bcar5 jg jd jf jc je bleg12 true []) := by kernel_rfl
theorem Qn8 (lb n : Nat) (a1 : Int) :
 top lb n QeW [.int .i64 a1] =
 optO (C lb n QaS [.int .i64 a1]) fun r2 =>
 optO (CV.asT r2) fun t3 =>
 optO (t3[0]?) fun x4 =>
 optO (CV.asT r2) fun t5 =>
 optO (t5[1]?) fun x6 =>
 optO (CV.asT r2) fun t7 =>
 optO (t7[2]?) fun x9 =>
 optO (CV.asI .i64 x4) fun kp =>
 bif (kp == 0) then
 (some (.str []))
 else
 (optO (CV.asI .i64 x4) fun vt =>
 optO (C lb n QdP [.int .i64 (IntKind.wrap .i64 (Int.tdiv vt 100))]) fun yJ =>
 optO (CV.asI .i64 x4) fun ke =>
 optO (C lb n QdP [.int .i64 (Int.tmod ke 100)]) fun ks =>
 optO (CV.asS yJ) fun s15 =>
 optO (CV.asS ks) fun s17 =>
 chkO (decide (s15.length + s17.length ≤ 9223372036854775807)) (
 chkO (decide ((s15 ++ s17).length + [45].length ≤ 9223372036854775807)) (
 optO (C lb n QdP [x6]) fun mB =>
 optO (CV.asS mB) fun s19 =>
 chkO (decide (((s15 ++ s17) ++ [45]).length + s19.length ≤ 9223372036854775807)) (
 chkO (decide ((((s15 ++ s17) ++ [45]) ++ s19).length + [45].length ≤ 9223372036854775807)) (
 optO (C lb n QdP [x9]) fun wZ =>
 optO (CV.asS wZ) fun s21 =>
 chkO (decide (((((s15 ++ s17) ++ [45]) ++ s19) ++ [45]).length + s21.length ≤ 9223372036854775807)) (
 some (.str (((((s15 ++ s17) ++ [45]) ++ s19) ++ [45]) ++ s21)))))))) := by kernel_rfl
noncomputable def QeZ (lb n k7 : Nat) (a1 i4 : Int) : Option CV :=
 hold (Qar (E0 lb n 0 994) 0 (Qad (sub (B QaS) [1, 1, 1, 0, 0, 0]) ++ []) [] (sub (B QaS) [1, 1, 1, 0, 0, 0]) (Qaj 0 (seqK (E0 lb n 0 996) (sub (B QaS) [1, 1, 1, 0]) (sub (B QaS) [1, 1, 1, 1]) (retK Tryz.prog (R QaS) 0 (outK (Qaf Tryz.prog QaS))))) k7 ⟨fr 48 [(0, vI a1), (2, vI 0), (3, vI 0), (4, vI 0), (5, vI i4), (15, vI a1), (16, .val (.int .i64 (IntKind.wrap .i64 (Int.tdiv a1 366)))), (17, .val (.int .i64 (IntKind.wrap .i64 (2000 + (IntKind.wrap .i64 (Int.tdiv a1 366))))))], [bx 48 []], KK⟩)
noncomputable def Qjs (lb n : Nat) (a1 vt : Int) : Option CV :=
 hold (E0 lb n 0 996 (sub (B QaS) [1, 1, 1, 1]) (retK Tryz.prog (R QaS) 0 (outK (Qaf Tryz.prog QaS))) ⟨fr 48 [(0, vI a1), (2, vI 0), (3, vI 0), (4, vI 0), (5, vI vt), (15, vI a1), (16, .val (.int .i64 (IntKind.wrap .i64 (Int.tdiv a1 366)))), (17, .val (.int .i64 (IntKind.wrap .i64 (2000 + (IntKind.wrap .i64 (Int.tdiv a1 366))))))], [bx 48 []], KK⟩)
noncomputable def QeT (lb n gh : Nat) (a1 vt : Int) (yJ : CV) (ke yG vA : Int) : Option CV :=
 hold (Qar (E0 lb n 0 991) 0 (Qad (sub (B QaS) [1, 1, 1, 1, 1, 0, 1, 0, 0]) ++ [7, 8]) [] (sub (B QaS) [1, 1, 1, 1, 1, 0, 1, 0, 0]) (Qaj 2 (seqK (E0 lb n 0 994) (sub (B QaS) [1, 1, 1, 1, 1, 0]) (sub (B QaS) [1, 1, 1, 1, 1, 1]) (retK Tryz.prog (R QaS) 0 (outK (Qaf Tryz.prog QaS))))) gh ⟨fr 48 [(0, vI a1), (2, vI 0), (3, vI 0), (4, vI 0), (5, vI vt), (6, vI yG), (15, vI a1), (16, .val (.int .i64 (IntKind.wrap .i64 (Int.tdiv a1 366)))), (17, .val (.int .i64 (IntKind.wrap .i64 (2000 + (IntKind.wrap .i64 (Int.tdiv a1 366)))))), (25, vI a1), (26, vI vt), (27, vV yJ), (28, .val (.int .i64 (IntKind.wrap .i64 (a1 - ke)))), (29, vI vA)], [bx 48 []], KK⟩)
noncomputable def QpI (lb n : Nat) (a1 vt : Int) (yJ : CV) (ke gp : Int) : Option CV :=
 hold (E0 lb n 0 994 (sub (B QaS) [1, 1, 1, 1, 1, 1]) (retK Tryz.prog (R QaS) 0 (outK (Qaf Tryz.prog QaS))) ⟨fr 48 [(0, vI a1), (2, vI 0), (3, vI 0), (4, vI 0), (5, vI vt), (6, vI gp), (15, vI a1), (16, .val (.int .i64 (IntKind.wrap .i64 (Int.tdiv a1 366)))), (17, .val (.int .i64 (IntKind.wrap .i64 (2000 + (IntKind.wrap .i64 (Int.tdiv a1 366)))))), (25, vI a1), (26, vI vt), (27, vV yJ), (28, .val (.int .i64 (IntKind.wrap .i64 (a1 - ke))))], [bx 48 []], KK⟩)
theorem QgF (lb n gh : Nat) (a1 vt : Int) (yJ : CV) (ke yG vA : Int) :
 QeT lb n (gh + 1) a1 vt yJ ke yG vA =
 bif (decide (vA < 12)) then
 (optO (C lb n Qem [.int .i64 vt, .int .i64 (IntKind.wrap .i64 (vA + 1))]) fun kt =>
 optO (CV.asI .i64 kt) fun gq =>
 bif (decide (yG < gq)) then
 (some (.tup [.int .i64 vt, .int .i64 (IntKind.wrap .i64 (vA + 1)), .int .i64 (IntKind.wrap .i64 (yG + 1))]))
 else
 (optO (CV.asI .i64 kt) fun kX =>
 QeT lb n gh a1 vt yJ ke (IntKind.wrap .i64 (yG - kX)) (IntKind.wrap .i64 (vA + 1))))
 else
 (QpI lb n a1 vt yJ ke yG) := (Qac _).trans (by kernel_rfl)
theorem Qmr (lb n : Nat) (a1 vt : Int) :
 Qjs lb n a1 vt =
 optO (C lb n QeS [.int .i64 vt]) fun yJ =>
 optO (CV.asI .i64 yJ) fun ke =>
 QeT lb n n a1 vt yJ ke (IntKind.wrap .i64 (a1 - ke)) 0 := (Qac _).trans (by kernel_rfl)
theorem QgJ (lb n k7 : Nat) (a1 i4 : Int) :
 QeZ lb n (k7 + 1) a1 i4 =
 optO (C lb n QeS [.int .i64 (IntKind.wrap .i64 (i4 + 1))]) fun r9 =>
 optO (CV.asI .i64 r9) fun kp =>
 bif (decide (kp ≤ a1)) then
 (QeZ lb n k7 a1 (IntKind.wrap .i64 (i4 + 1)))
 else
 (Qjs lb n a1 i4) := (Qac _).trans (by kernel_rfl)
theorem QpG (lb n : Nat) (a1 : Int) :
 top lb n QaS [.int .i64 a1] =
 bif (decide (a1 < 0)) then
 (some (.tup [.int .i64 0, .int .i64 0, .int .i64 0]))
 else
 (bif (decide (a1 ≥ 36525)) then
 (some (.tup [.int .i64 0, .int .i64 0, .int .i64 0]))
 else
 (QeZ lb n n a1 (IntKind.wrap .i64 (2000 + (IntKind.wrap .i64 (Int.tdiv a1 366)))))) := by kernel_rfl
theorem QqM (lb n : Nat) (a1 : Int) :
 top lb n QdP [.int .i64 a1] =
 optO (bytesOf [[CV.int .u8 (IntKind.wrap .u8 (IntKind.wrap .i64 (48 + (IntKind.wrap .i64 (Int.tdiv a1 10)))))], [CV.int .u8 (IntKind.wrap .u8 (IntKind.wrap .i64 (48 + (Int.tmod a1 10))))]]) fun s2 =>
 some (.str s2) := by kernel_rfl
theorem Qoi (lb n : Nat) (a1 : Int) :
 top lb n QeS [.int .i64 a1] =
 some (.int .i64 (IntKind.wrap .i64 ((IntKind.wrap .i64 (365 * (IntKind.wrap .i64 (a1 - 2000)))) + (IntKind.wrap .i64 (Int.tdiv (IntKind.wrap .i64 ((IntKind.wrap .i64 (a1 - 2000)) + 3)) 4))))) := by kernel_rfl
theorem QuT (lb n : Nat) (a1 : Int) :
 top lb n Qh6 [.int .i64 a1] =
 optO (C lb n QcB [.int .i64 a1]) fun r2 =>
 optO (CV.asT r2) fun t3 =>
 optO (t3[0]?) fun x4 =>
 optO (CV.asT r2) fun t5 =>
 optO (t5[1]?) fun x6 =>
 optO (CV.asT r2) fun t7 =>
 optO (t7[2]?) fun x9 =>
 optO (CV.asI .i64 x4) fun kp =>
 bif (kp == 0) then
 (some (.str []))
 else
 (optO (CV.asI .i64 x4) fun vt =>
 optO (C lb n QgG [.int .i64 (IntKind.wrap .i64 (Int.tdiv vt 100))]) fun yJ =>
 optO (CV.asI .i64 x4) fun ke =>
 optO (C lb n QgG [.int .i64 (Int.tmod ke 100)]) fun ks =>
 optO (CV.asS yJ) fun s15 =>
 optO (CV.asS ks) fun s17 =>
 chkO (decide (s15.length + s17.length ≤ 9223372036854775807)) (
 chkO (decide ((s15 ++ s17).length + [45].length ≤ 9223372036854775807)) (
 optO (C lb n QgG [x6]) fun mB =>
 optO (CV.asS mB) fun s19 =>
 chkO (decide (((s15 ++ s17) ++ [45]).length + s19.length ≤ 9223372036854775807)) (
 chkO (decide ((((s15 ++ s17) ++ [45]) ++ s19).length + [45].length ≤ 9223372036854775807)) (
 optO (C lb n QgG [x9]) fun wZ =>
 optO (CV.asS wZ) fun s21 =>
 chkO (decide (((((s15 ++ s17) ++ [45]) ++ s19) ++ [45]).length + s21.length ≤ 9223372036854775807)) (
 some (.str (((((s15 ++ s17) ++ [45]) ++ s19) ++ [45]) ++ s21)))))))) := by kernel_rfl
noncomputable def Qf8 (lb n o4 : Nat) (yC yG vA : Int) : Option CV :=
 hold (Qar (E0 lb n 0 994) 0 (Qad (sub (B QcB) [1, 1, 1, 0, 0, 0]) ++ []) [] (sub (B QcB) [1, 1, 1, 0, 0, 0]) (Qaj 0 (seqK (E0 lb n 0 996) (sub (B QcB) [1, 1, 1, 0]) (sub (B QcB) [1, 1, 1, 1]) (retK Tryz.prog (R QcB) 0 (outK (Qaf Tryz.prog QcB))))) o4 ⟨fr 33 [(0, vI yC), (2, vI 0), (3, vI 0), (4, vI 0), (5, vI yG), (6, vI vA)], [bx 33 []], KK⟩)
noncomputable def QoC (lb n : Nat) (oi gO vg : Int) : Option CV :=
 hold (E0 lb n 0 996 (sub (B QcB) [1, 1, 1, 1]) (retK Tryz.prog (R QcB) 0 (outK (Qaf Tryz.prog QcB))) ⟨fr 33 [(0, vI oi), (2, vI 0), (3, vI 0), (4, vI 0), (5, vI gO), (6, vI vg)], [bx 33 []], KK⟩)
theorem Qr3 (lb n : Nat) (oi gO vg : Int) :
 QoC lb n oi gO vg =
 some (.tup [.int .i64 gO, .int .i64 vg, .int .i64 (IntKind.wrap .i64 (oi + 1))]) := (Qac _).trans (by kernel_rfl)
theorem Qgx (lb n o4 : Nat) (yC yG vA : Int) :
 Qf8 lb n (o4 + 1) yC yG vA =
 optO (C lb n QcQ [.int .i64 yG, .int .i64 vA]) fun n4 =>
 optO (CV.asI .i64 n4) fun kX =>
 bif (decide (yC ≥ kX)) then
 (optO (C lb n QcQ [.int .i64 yG, .int .i64 vA]) fun yW =>
 optO (CV.asI .i64 yW) fun vf =>
 bif ((IntKind.wrap .i64 (vA + 1)) == 13) then
 (Qf8 lb n o4  (IntKind.wrap .i64 (yC - vf)) (IntKind.wrap .i64 (yG + 1)) 1)
 else
 (Qf8 lb n o4  (IntKind.wrap .i64 (yC - vf)) yG (IntKind.wrap .i64 (vA + 1))))
 else
 (QoC lb n  yC yG vA) := (Qac _).trans (by kernel_rfl)
theorem QvJ (lb n : Nat) (a1 : Int) :
 top lb n QcB [.int .i64 a1] =
 bif (decide (a1 < 0)) then
 (some (.tup [.int .i64 0, .int .i64 0, .int .i64 0]))
 else
 (bif (decide (a1 ≥ 36525)) then
 (some (.tup [.int .i64 0, .int .i64 0, .int .i64 0]))
 else
 (Qf8 lb n n  a1 2000 1)) := by kernel_rfl
theorem Qws (lb n : Nat) (a1 : Int) :
 top lb n QgG [.int .i64 a1] =
 optO (bytesOf [[CV.int .u8 (IntKind.wrap .u8 (IntKind.wrap .i64 (48 + (IntKind.wrap .i64 (Int.tdiv a1 10)))))], [CV.int .u8 (IntKind.wrap .u8 (IntKind.wrap .i64 (48 + (Int.tmod a1 10))))]]) fun s2 =>
 some (.str s2) := by kernel_rfl
noncomputable def Qfa (lb n : Nat) (a1 b2 : Int) (b3 : Bool) : Option CV :=
 hold (E0 lb n 0 995 (sub (B QcQ) [1, 0, 1, 0, 1]) (Qaj 0 (seqK (E0 lb n 0 998) (sub (B QcQ) [1, 0]) (sub (B QcQ) [1, 1]) (retK Tryz.prog (R QcQ) 0 (outK (Qaf Tryz.prog QcQ))))) ⟨fr 16 [(0, vI a1), (1, vI b2), (4, vI 0), (5, vI b2), (6, vB b3)], [bx 16 []], KK⟩)
theorem Qpq (lb n : Nat) (a1 b2 : Int) (b3 : Bool) :
 Qfa lb n a1 b2 b3 =
 bif b3 then
 (some (.int .i64 30))
 else
 (bif (b2 == 2) then
 (bif ((Int.tmod a1 4) == 0) then
 (some (.int .i64 29))
 else
 (some (.int .i64 28)))
 else
 (some (.int .i64 31))) := (Qac _).trans (by kernel_rfl)
theorem Qs0 (lb n : Nat) (a1 b2 : Int) :
 top lb n QcQ [.int .i64 a1, .int .i64 b2] =
 bif (b2 == 4) then
 (Qfa lb n a1 b2 (b2 == 4))
 else
 (bif (b2 == 6) then
 (Qfa lb n a1 b2 (b2 == 6))
 else
 (bif (b2 == 9) then
 (Qfa lb n a1 b2 (b2 == 9))
 else
 (Qfa lb n a1 b2 (b2 == 11)))) := by kernel_rfl
end Go.Proofs
