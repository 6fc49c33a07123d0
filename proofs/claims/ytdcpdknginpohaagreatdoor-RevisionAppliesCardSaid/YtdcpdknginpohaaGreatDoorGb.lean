/- Equations of functions, printed by program. Conditions: none. -/
import Derived.Test.YtdcpdknginpohaaGreatDoorEv
namespace Go.Proofs
open Go.Am
set_option maxRecDepth 100000
set_option linter.unusedVariables false
noncomputable def flight_leg_J1 :=
 fun lb n (ja : Bool) (aair2 : LL) (jb : Bool) (adis4 : LL) (jA : Bool) (b6 : LL) c7 wV wN (c9 : List CV) we wI wH wX yM yX w5 yV wz wC x23 yf wn w8 wY yC yL yE yR (oX : Bool) (l42 : LL) =>
 hold (E0 lb n 0 994 (sub (B QbX) [1, 1, 1, 1, 1, 1]) (retK Tryz.prog (R QbX) 0 (outK (Qaf Tryz.prog QbX))) ⟨fr 68 [(0, .val (.agg [.list ja aair2, .list jb adis4])), (1, .val (.list jA b6)), (2, vI c7), (3, .ptr 0 3 0), (6, .lst true true 36 []), (7, .lst true oX 36 l42), (8, .ptr 0 8 0), (9, .ptr 0 9 0), (10, vV wV), (11, .ptr 0 11 0), (12, vV wN), (13, .val (.list jA b6)), (14, vI c7), (15, .cptr c9 0), (16, .val (.agg [we, wI, wH, wX, yM])), (17, vV yX), (18, .val (.agg [.list ja aair2, .list jb adis4])), (19, .ptr 0 8 0), (20, vV we), (21, vV yX), (22, vV w5), (23, vV wV), (24, vV yV), (25, .val (.agg [.list ja aair2, .list jb adis4])), (26, .ptr 0 8 1), (27, vV wI), (28, vV yV), (29, vV wz), (30, vV wN)], [bx 68 [(3, some [.val (.list ja aair2), .val (.list jb adis4)]), (8, some [.val we, .val wI, .val wH, .val wX, .val yM]), (9, some [.val wC, .val x23, .val yf, .val wn, .val w8]), (11, some [.val wY, .val yC, .val yL, .val yE, .val yR])]], KK⟩)
noncomputable def Qe0 (lb n : Nat) (ja : Bool) (aair2 : LL) (jb : Bool) (adis4 : LL) (jA : Bool) (b6 : LL) (c7 : Int) (wV wN : CV) (c9 : List CV) (we wI wH wX yM yX w5 yV wz wC x23 yf wn w8 wY yC yL yE yR : CV) (kH : Bool) (l45 : LL) : Option CV :=
 hold (E0 lb n 0 993 (sub (B QbX) [1, 1, 1, 1, 1, 1, 1]) (retK Tryz.prog (R QbX) 0 (outK (Qaf Tryz.prog QbX))) ⟨fr 68 [(0, .val (.agg [.list ja aair2, .list jb adis4])), (1, .val (.list jA b6)), (2, vI c7), (3, .ptr 0 3 0), (6, .lst true true 36 []), (7, .lst true kH 36 l45), (8, .ptr 0 8 0), (9, .ptr 0 9 0), (10, vV wV), (11, .ptr 0 11 0), (12, vV wN), (13, .val (.list jA b6)), (14, vI c7), (15, .cptr c9 0), (16, .val (.agg [we, wI, wH, wX, yM])), (17, vV yX), (18, .val (.agg [.list ja aair2, .list jb adis4])), (19, .ptr 0 8 0), (20, vV we), (21, vV yX), (22, vV w5), (23, vV wV), (24, vV yV), (25, .val (.agg [.list ja aair2, .list jb adis4])), (26, .ptr 0 8 1), (27, vV wI), (28, vV yV), (29, vV wz), (30, vV wN)], [bx 68 [(3, some [.val (.list ja aair2), .val (.list jb adis4)]), (8, some [.val we, .val wI, .val wH, .val wX, .val yM]), (9, some [.val wC, .val x23, .val yf, .val wn, .val w8]), (11, some [.val wY, .val yC, .val yL, .val yE, .val yR])]], KK⟩)
noncomputable def QeY (lb n : Nat) (ja : Bool) (aair2 : LL) (jb : Bool) (adis4 : LL) (jA : Bool) (b6 : LL) (c7 : Int) (wV wN : CV) (c9 : List CV) (we wI wH wX yM yX w5 yV wz wC x23 yf wn w8 wY yC yL yE yR : CV) (mr : Bool) (l49 : LL) : Option CV :=
 hold (E0 lb n 0 992 (sub (B QbX) [1, 1, 1, 1, 1, 1, 1, 1]) (retK Tryz.prog (R QbX) 0 (outK (Qaf Tryz.prog QbX))) ⟨fr 68 [(0, .val (.agg [.list ja aair2, .list jb adis4])), (1, .val (.list jA b6)), (2, vI c7), (3, .ptr 0 3 0), (6, .lst true true 36 []), (7, .lst true mr 36 l49), (8, .ptr 0 8 0), (9, .ptr 0 9 0), (10, vV wV), (11, .ptr 0 11 0), (12, vV wN), (13, .val (.list jA b6)), (14, vI c7), (15, .cptr c9 0), (16, .val (.agg [we, wI, wH, wX, yM])), (17, vV yX), (18, .val (.agg [.list ja aair2, .list jb adis4])), (19, .ptr 0 8 0), (20, vV we), (21, vV yX), (22, vV w5), (23, vV wV), (24, vV yV), (25, .val (.agg [.list ja aair2, .list jb adis4])), (26, .ptr 0 8 1), (27, vV wI), (28, vV yV), (29, vV wz), (30, vV wN)], [bx 68 [(3, some [.val (.list ja aair2), .val (.list jb adis4)]), (8, some [.val we, .val wI, .val wH, .val wX, .val yM]), (9, some [.val wC, .val x23, .val yf, .val wn, .val w8]), (11, some [.val wY, .val yC, .val yL, .val yE, .val yR])]], KK⟩)
theorem Qpo (lb n : Nat) (ja : Bool) (aair2 : LL) (jb : Bool) (adis4 : LL) (jA : Bool) (b6 : LL) (c7 : Int) (wV wN : CV) (c9 : List CV) (we wI wH wX yM yX w5 yV wz wC x23 yf wn w8 wY yC yL yE yR : CV) (mr : Bool) (l49 : LL) :
 QeY lb n ja aair2 jb adis4 jA b6 c7 wV wN c9 we wI wH wX yM yX w5 yV wz wC x23 yf wn w8 wY yC yL yE yR mr l49 =
 optO (C lb n QbG [wH]) fun lK =>
 optO (CV.asB lK) fun lm =>
 bif (!lm) then
 (chkO (room (l49.length + 1) 8) (
 some (.list (mr && false) (l49 ++ [[CV.int .i64 2]]))))
 else
 (optO (C lb n QbG [wX]) fun rr =>
 optO (CV.asB rr) fun rK =>
 bif (!rK) then
 (chkO (room (l49.length + 1) 8) (
 some (.list (mr && false) (l49 ++ [[CV.int .i64 2]]))))
 else
 (some (.list mr l49))) := (Qac _).trans (by kernel_rfl)
theorem Qpp (lb n : Nat) (ja : Bool) (aair2 : LL) (jb : Bool) (adis4 : LL) (jA : Bool) (b6 : LL) (c7 : Int) (wV wN : CV) (c9 : List CV) (we wI wH wX yM yX w5 yV wz wC x23 yf wn w8 wY yC yL yE yR : CV) (kH : Bool) (l45 : LL) :
 Qe0 lb n ja aair2 jb adis4 jA b6 c7 wV wN c9 we wI wH wX yM yX w5 yV wz wC x23 yf wn w8 wY yC yL yE yR kH l45 =
 optO (C lb n QaU [.list jA b6, .int .i64 c7]) fun lV =>
 optO (CV.asB lV) fun oj =>
 bif (!oj) then
 (chkO (room (l45.length + 1) 8) (
 QeY lb n ja aair2 jb adis4 jA b6 c7 wV wN c9 we wI wH wX yM yX w5 yV wz wC x23 yf wn w8 wY yC yL yE yR (kH && false) (l45 ++ [[CV.int .i64 15]])))
 else
 (QeY lb n ja aair2 jb adis4 jA b6 c7 wV wN c9 we wI wH wX yM yX w5 yV wz wC x23 yf wn w8 wY yC yL yE yR kH l45) := (Qac _).trans (by kernel_rfl)
theorem Qpt (lb n : Nat) (ja : Bool) (aair2 : LL) (jb : Bool) (adis4 : LL) (jA : Bool) (b6 : LL) (c7 : Int) (wV wN : CV) (c9 : List CV) (we wI wH wX yM yX w5 yV wz wC x23 yf wn w8 wY yC yL yE yR : CV) (oX : Bool) (l42 : LL) :
 flight_leg_J1 lb n ja aair2 jb adis4 jA b6 c7 wV wN c9 we wI wH wX yM yX w5 yV wz wC x23 yf wn w8 wY yC yL yE yR oX l42 =
 optO (CV.asB wV) fun pZ =>
 bif (!pZ) then
 (chkO (room (l42.length + 1) 8) (
 Qe0 lb n ja aair2 jb adis4 jA b6 c7 wV wN c9 we wI wH wX yM yX w5 yV wz wC x23 yf wn w8 wY yC yL yE yR (oX && false) (l42 ++ [[CV.int .i64 14]])))
 else
 (optO (CV.asB wN) fun rO =>
 bif (!rO) then
 (chkO (room (l42.length + 1) 8) (
 Qe0 lb n ja aair2 jb adis4 jA b6 c7 wV wN c9 we wI wH wX yM yX w5 yV wz wC x23 yf wn w8 wY yC yL yE yR (oX && false) (l42 ++ [[CV.int .i64 14]])))
 else
 (Qe0 lb n ja aair2 jb adis4 jA b6 c7 wV wN c9 we wI wH wX yM yX w5 yV wz wC x23 yf wn w8 wY yC yL yE yR oX l42)) := (Qac _).trans (by kernel_rfl)
theorem QsM (lb n : Nat) (ja : Bool) (aair2 : LL) (jb : Bool) (adis4 : LL) (jA : Bool) (b6 : LL) (c7 : Int) :
 top lb n QbX [.agg [.list ja aair2, .list jb adis4], .list jA b6, .int .i64 c7] =
 optO (atL b6 c7) fun c9 =>
 chkO (c9.length == 5) (
 optO (c9[0]?) fun we =>
 optO (c9[1]?) fun wI =>
 optO (c9[2]?) fun wH =>
 optO (c9[3]?) fun wX =>
 optO (c9[4]?) fun yM =>
 optO (C lb n Qbj [.agg [.list ja aair2, .list jb adis4], we]) fun yX =>
 optO (CV.asT yX) fun lP =>
 optO (lP[0]?) fun w5 =>
 optO (CV.asT yX) fun tp =>
 optO (tp[1]?) fun wV =>
 optO (CV.asA w5) fun c21 =>
 chkO (c21.length == 5) (
 optO (c21[0]?) fun wC =>
 optO (c21[1]?) fun x23 =>
 optO (c21[2]?) fun yf =>
 optO (c21[3]?) fun wn =>
 optO (c21[4]?) fun w8 =>
 optO (C lb n Qbj [.agg [.list ja aair2, .list jb adis4], wI]) fun yV =>
 optO (CV.asT yV) fun qi =>
 optO (qi[0]?) fun wz =>
 optO (CV.asT yV) fun rz =>
 optO (rz[1]?) fun wN =>
 optO (CV.asA wz) fun c33 =>
 chkO (c33.length == 5) (
 optO (c33[0]?) fun wY =>
 optO (c33[1]?) fun yC =>
 optO (c33[2]?) fun yL =>
 optO (c33[3]?) fun yE =>
 optO (c33[4]?) fun yR =>
 optO (C lb n Qh0 [yM, .int .i64 3, .int .i64 3]) fun rU =>
 optO (CV.asB rU) fun lw =>
 bif (!lw) then
 (flight_leg_J1 lb n ja aair2 jb adis4 jA b6 c7 wV wN c9 we wI wH wX yM yX w5 yV wz wC x23 yf wn w8 wY yC yL yE yR false [[CV.int .i64 5]])
 else
 (flight_leg_J1 lb n ja aair2 jb adis4 jA b6 c7 wV wN c9 we wI wH wX yM yX w5 yV wz wC x23 yf wn w8 wY yC yL yE yR true [])))) := by kernel_rfl
noncomputable def QcW (lb n pE : Nat) (wb : Bool) (a2 : LL) (b3 kM : Int) : Option CV :=
 hold (Qas (E2 lb n 2 995) 2 (Qad (sub (B Qbk) [1, 0, 1, 0, 0]) ++ [5]) [] (sub (B Qbk) [1, 0, 1, 0, 0]) (Qak 0 (seqK (E2 lb n 2 998) (sub (B Qbk) [1, 0]) (sub (B Qbk) [1, 1]) (retK Tryz.prog (R Qbk) 2 (inlK (opAt (QaE (sub (B QaG) [1, 0])) 2) ⟨fr 9 [(0, .val (.list wb ((a2.take ((IntKind.wrap .i64 (b3 + 1)).toNat)).drop 0))), (1, .clo QbS [.ptr 0 2 0, .ptr 0 3 0]), (4, vB false), (5, .val (.list wb ((a2.take ((IntKind.wrap .i64 (b3 + 1)).toNat)).drop 0))), (6, .clo QbS [.ptr 0 2 0, .ptr 0 3 0])], [bx 28 [(2, some [.val (.list wb a2)]), (3, some [vI b3])], bx 9 []], KK⟩ (opsK Tryz.prog (C lb n) (I8 lb n) 1 (QaE (sub (B QaG) [1, 0])) ((QaE (sub (B QaG) [1, 0])).drop 3) ((seqK (E1 lb n 1 998) (sub (B QaG) [1, 0]) (sub (B QaG) [1, 1]) (retK Tryz.prog (R QaG) 1 (inlK (opAt (QaE (sub (B QaU) [1, 1, 0])) 5) ⟨fr 28 [(0, .val (.list wb a2)), (1, vI b3), (2, .ptr 0 2 0), (3, .ptr 0 3 0), (4, vB false), (21, .val (.list wb a2)), (22, vI b3), (23, .val (.int .i64 (IntKind.wrap .i64 (b3 + 1)))), (24, .val (.list wb ((a2.take ((IntKind.wrap .i64 (b3 + 1)).toNat)).drop 0))), (25, .clo QbS [.ptr 0 2 0, .ptr 0 3 0])], [bx 28 [(2, some [.val (.list wb a2)]), (3, some [vI b3])]], KK⟩ (opsK Tryz.prog (C lb n) (I9 lb n) 0 (QaE (sub (B QaU) [1, 1, 0])) ((QaE (sub (B QaU) [1, 1, 0])).drop 6) ((seqK (E0 lb n 0 997) (sub (B QaU) [1, 1, 0]) (sub (B QaU) [1, 1, 1]) (retK Tryz.prog (R QaU) 0 (outK (Qaf Tryz.prog QaU)))) .normal))))) .normal)))))) pE ⟨fr 19 [(0, .val (.list wb ((a2.take ((IntKind.wrap .i64 (b3 + 1)).toNat)).drop 0))), (1, .clo QbS [.ptr 0 2 0, .ptr 0 3 0]), (4, vI 0), (6, .val (.list wb ((a2.take ((IntKind.wrap .i64 (b3 + 1)).toNat)).drop 0))), (7, .val (.int .i64 (((a2.take ((IntKind.wrap .i64 (b3 + 1)).toNat)).drop 0).length : Int))), (8, vI kM)], [bx 28 [(2, some [.val (.list wb a2)]), (3, some [vI b3])], bx 9 [], bx 19 []], KK⟩)
noncomputable def QiD (lb n : Nat) (wb : Bool) (a2 : LL) (b3 : Int) : Option CV :=
 hold (E2 lb n 2 998 (sub (B Qbk) [1, 1]) (retK Tryz.prog (R Qbk) 2 (inlK (opAt (QaE (sub (B QaG) [1, 0])) 2) ⟨fr 9 [(0, .val (.list wb ((a2.take ((IntKind.wrap .i64 (b3 + 1)).toNat)).drop 0))), (1, .clo QbS [.ptr 0 2 0, .ptr 0 3 0]), (4, vB false), (5, .val (.list wb ((a2.take ((IntKind.wrap .i64 (b3 + 1)).toNat)).drop 0))), (6, .clo QbS [.ptr 0 2 0, .ptr 0 3 0])], [bx 28 [(2, some [.val (.list wb a2)]), (3, some [vI b3])], bx 9 []], KK⟩ (opsK Tryz.prog (C lb n) (I8 lb n) 1 (QaE (sub (B QaG) [1, 0])) ((QaE (sub (B QaG) [1, 0])).drop 3) ((seqK (E1 lb n 1 998) (sub (B QaG) [1, 0]) (sub (B QaG) [1, 1]) (retK Tryz.prog (R QaG) 1 (inlK (opAt (QaE (sub (B QaU) [1, 1, 0])) 5) ⟨fr 28 [(0, .val (.list wb a2)), (1, vI b3), (2, .ptr 0 2 0), (3, .ptr 0 3 0), (4, vB false), (21, .val (.list wb a2)), (22, vI b3), (23, .val (.int .i64 (IntKind.wrap .i64 (b3 + 1)))), (24, .val (.list wb ((a2.take ((IntKind.wrap .i64 (b3 + 1)).toNat)).drop 0))), (25, .clo QbS [.ptr 0 2 0, .ptr 0 3 0])], [bx 28 [(2, some [.val (.list wb a2)]), (3, some [vI b3])]], KK⟩ (opsK Tryz.prog (C lb n) (I9 lb n) 0 (QaE (sub (B QaU) [1, 1, 0])) ((QaE (sub (B QaU) [1, 1, 0])).drop 6) ((seqK (E0 lb n 0 997) (sub (B QaU) [1, 1, 0]) (sub (B QaU) [1, 1, 1]) (retK Tryz.prog (R QaU) 0 (outK (Qaf Tryz.prog QaU)))) .normal))))) .normal)))) ⟨fr 19 [(0, .val (.list wb ((a2.take ((IntKind.wrap .i64 (b3 + 1)).toNat)).drop 0))), (1, .clo QbS [.ptr 0 2 0, .ptr 0 3 0]), (4, vI 0)], [bx 28 [(2, some [.val (.list wb a2)]), (3, some [vI b3])], bx 9 [], bx 19 []], KK⟩)
theorem QlI (lb n : Nat) (wb : Bool) (a2 : LL) (b3 : Int) :
 QiD lb n wb a2 b3 =
 some (.bool true) := (Qac _).trans (by kernel_rfl)
theorem Qf5 (lb n pE : Nat) (wb : Bool) (a2 : LL) (b3 kM : Int) :
 QcW lb n (pE + 1) wb a2 b3 kM =
 bif (decide (kM < (((a2.take ((IntKind.wrap .i64 (b3 + 1)).toNat)).drop 0).length : Int))) then
 (optO (atL ((a2.take ((IntKind.wrap .i64 (b3 + 1)).toNat)).drop 0) kM) fun c35 =>
 chkO (c35.length == 5) (
 optO (c35[0]?) fun yL =>
 optO (c35[1]?) fun yE =>
 optO (c35[2]?) fun yR =>
 optO (c35[3]?) fun mt =>
 optO (c35[4]?) fun oY =>
 optO (atL a2 b3) fun c41 =>
 chkO (c41.length == 5) (
 optO (c41[1]?) fun gR =>
 optO (CV.asS yL) fun rH =>
 optO (CV.asS gR) fun s44 =>
 bif (rH == s44) then
 (some (.bool (!(decide (kM ≥ 0)))))
 else
 (QcW lb n pE wb a2 b3 (IntKind.wrap .i64 (kM + 1))))))
 else
 (QiD lb n wb a2 b3 ) := (Qac _).trans (by kernel_rfl)
theorem Qn9 (lb n : Nat) (wb : Bool) (a2 : LL) (b3 : Int) :
 top lb n QaU [.list wb a2, .int .i64 b3] =
 bif (decide (b3 > 0)) then
 (optO (atL a2 b3) fun c4 =>
 chkO (c4.length == 5) (
 optO (c4[0]?) fun x5 =>
 optO (atL a2 (IntKind.wrap .i64 (b3 - 1))) fun c6 =>
 chkO (c6.length == 5) (
 optO (c6[1]?) fun x7 =>
 optO (CV.asS x5) fun s9 =>
 optO (CV.asS x7) fun qm =>
 bif (!(s9 == qm)) then
 (some (.bool false))
 else
 (chkO (a2.all (·.length == 5)) (
 chkO (decide ((0 : Int) ≤ (IntKind.wrap .i64 (b3 + 1)) ∧ (IntKind.wrap .i64 (b3 + 1)) ≤ (a2.length : Int))) (
 QcW lb n n wb a2 b3 0))))))
 else
 (chkO (a2.all (·.length == 5)) (
 chkO (decide ((0 : Int) ≤ (IntKind.wrap .i64 (b3 + 1)) ∧ (IntKind.wrap .i64 (b3 + 1)) ≤ (a2.length : Int))) (
 QcW lb n n wb a2 b3 0))) := by kernel_rfl
noncomputable def QdU (lb n pO : Nat) (wb : Bool) (a2 : LL) (b3 yG : Int) : Option CV :=
 hold (Qas (E0 lb n 0 994) 0 (Qad (sub (B QbF) [1, 1, 0, 1, 0, 0]) ++ []) [] (sub (B QbF) [1, 1, 0, 1, 0, 0]) (Qak 0 (seqK (E0 lb n 0 997) (sub (B QbF) [1, 1, 0]) (sub (B QbF) [1, 1, 1]) (retK Tryz.prog (R QbF) 0 (outK (Qaf Tryz.prog QbF))))) pO ⟨fr 38 [(0, .val (.list wb a2)), (1, vI b3), (4, vB false), (5, vI yG)], [bx 38 []], KK⟩)
noncomputable def Ql0 (lb n : Nat) (wb : Bool) (a2 : LL) (b3 qz : Int) : Option CV :=
 hold (E0 lb n 0 997 (sub (B QbF) [1, 1, 1]) (retK Tryz.prog (R QbF) 0 (outK (Qaf Tryz.prog QbF))) ⟨fr 38 [(0, .val (.list wb a2)), (1, vI b3), (4, vB false), (5, vI qz)], [bx 38 []], KK⟩)
theorem Qo4 (lb n : Nat) (wb : Bool) (a2 : LL) (b3 qz : Int) :
 Ql0 lb n wb a2 b3 qz =
 some (.bool false) := (Qac _).trans (by kernel_rfl)
theorem Qh7 (lb n pO : Nat) (wb : Bool) (a2 : LL) (b3 yG : Int) :
 QdU lb n (pO + 1) wb a2 b3 yG =
 bif (decide (yG ≤ b3)) then
 (optO (atL a2 yG) fun c26 =>
 chkO (c26.length == 5) (
 optO (c26[0]?) fun wA =>
 optO (atL a2 b3) fun c28 =>
 chkO (c28.length == 5) (
 optO (c28[1]?) fun wz =>
 optO (CV.asS wA) fun gO =>
 optO (CV.asS wz) fun lH =>
 bif (gO == lH) then
 (some (.bool true))
 else
 (QdU lb n pO wb a2 b3 (IntKind.wrap .i64 (yG + 1))))))
 else
 (Ql0 lb n wb a2 b3 yG) := (Qac _).trans (by kernel_rfl)
theorem QsI (lb n : Nat) (wb : Bool) (a2 : LL) (b3 : Int) :
 top lb n QbF [.list wb a2, .int .i64 b3] =
 bif (decide (b3 > 0)) then
 (optO (atL a2 b3) fun c4 =>
 chkO (c4.length == 5) (
 optO (c4[0]?) fun x5 =>
 optO (atL a2 (IntKind.wrap .i64 (b3 - 1))) fun c6 =>
 chkO (c6.length == 5) (
 optO (c6[1]?) fun x7 =>
 optO (CV.asS x5) fun s9 =>
 optO (CV.asS x7) fun qm =>
 bif (!(s9 == qm)) then
 (some (.bool true))
 else
 (QdU lb n n wb a2 b3 0))))
 else
 (QdU lb n n wb a2 b3 0) := by kernel_rfl
noncomputable def Qkd (lb n : Nat) (jt : LB) (js jh jl ji : Int) (jq : Bool) (aleg7 : LL) (mu : Bool) (l12 : LL) : Option CV :=
 hold (E0 lb n 0 997 (sub (B QcR) [1, 1, 1]) (Qi7 (R QcR) 83) ⟨fr 50 [(0, .val (.agg [.str jt, .int .i64 js, .int .i64 jh, .int .i64 jl, .int .i64 ji, .list jq aleg7])), (1, .ptr 0 1 0), (2, .lst true true 83 []), (3, .lst true mu 83 l12)], [bx 50 [(1, some [vS jt, vI js, vI jh, vI jl, vI ji, .val (.list jq aleg7)])]], KK⟩)
noncomputable def QhS (lb n : Nat) (jt : LB) (js jh jl ji : Int) (jq : Bool) (aleg7 : LL) (kN : Bool) (l14 : LL) : Option CV :=
 hold (E0 lb n 0 996 (sub (B QcR) [1, 1, 1, 1]) (Qi7 (R QcR) 83) ⟨fr 50 [(0, .val (.agg [.str jt, .int .i64 js, .int .i64 jh, .int .i64 jl, .int .i64 ji, .list jq aleg7])), (1, .ptr 0 1 0), (2, .lst true true 83 []), (3, .lst true kN 83 l14)], [bx 50 [(1, some [vS jt, vI js, vI jh, vI jl, vI ji, .val (.list jq aleg7)])]], KK⟩)
noncomputable def Qkm (lb n : Nat) (jt : LB) (js jh jl ji : Int) (jq : Bool) (aleg7 : LL) (ml : Bool) (l20 : LL) : Option CV :=
 hold (E0 lb n 0 995 (sub (B QcR) [1, 1, 1, 1, 1]) (Qi7 (R QcR) 83) ⟨fr 50 [(0, .val (.agg [.str jt, .int .i64 js, .int .i64 jh, .int .i64 jl, .int .i64 ji, .list jq aleg7])), (1, .ptr 0 1 0), (2, .lst true true 83 []), (3, .lst true ml 83 l20)], [bx 50 [(1, some [vS jt, vI js, vI jh, vI jl, vI ji, .val (.list jq aleg7)])]], KK⟩)
theorem Qro (lb n : Nat) (jt : LB) (js jh jl ji : Int) (jq : Bool) (aleg7 : LL) (ml : Bool) (l20 : LL) :
 Qkm lb n jt js jh jl ji jq aleg7 ml l20 =
 bif (decide ((aleg7.length : Int) < 1)) then
 (chkO (room (l20.length + 1) 24) (
 some (.list (ml && false) (l20 ++ [[CV.int .i64 4, CV.str [108, 101, 103, 115]]]))))
 else
 (bif (decide ((aleg7.length : Int) > 6)) then
 (chkO (room (l20.length + 1) 24) (
 some (.list (ml && false) (l20 ++ [[CV.int .i64 4, CV.str [108, 101, 103, 115]]]))))
 else
 (some (.list ml l20))) := (Qac _).trans (by kernel_rfl)
theorem Qrt (lb n : Nat) (jt : LB) (js jh jl ji : Int) (jq : Bool) (aleg7 : LL) (kN : Bool) (l14 : LL) :
 QhS lb n jt js jh jl ji jq aleg7 kN l14 =
 optO (C lb n Qdb [.agg [.int .i64 jh, .int .i64 jl, .int .i64 ji]]) fun yX =>
 optO (CV.asI .i64 yX) fun yD =>
 bif (yD != 0) then
 (optO (C lb n Qdb [.agg [.int .i64 jh, .int .i64 jl, .int .i64 ji]]) fun mg =>
 chkO (CV.isCell mg) (
 chkO (room (l14.length + 1) 24) (
 Qkm lb n jt js jh jl ji jq aleg7 (kN && false) (l14 ++ [[mg, CV.str [112, 101, 114, 105, 111, 100]]]))))
 else
 (Qkm lb n jt js jh jl ji jq aleg7 kN l14) := (Qac _).trans (by kernel_rfl)
theorem QrC (lb n : Nat) (jt : LB) (js jh jl ji : Int) (jq : Bool) (aleg7 : LL) (mu : Bool) (l12 : LL) :
 Qkd lb n jt js jh jl ji jq aleg7 mu l12 =
 bif (decide (js < 1)) then
 (chkO (room (l12.length + 1) 24) (
 QhS lb n jt js jh jl ji jq aleg7 (mu && false) (l12 ++ [[CV.int .i64 2, CV.str [110, 117, 109, 98, 101, 114]]])))
 else
 (bif (decide (js > 9999)) then
 (chkO (room (l12.length + 1) 24) (
 QhS lb n jt js jh jl ji jq aleg7 (mu && false) (l12 ++ [[CV.int .i64 2, CV.str [110, 117, 109, 98, 101, 114]]])))
 else
 (QhS lb n jt js jh jl ji jq aleg7 mu l12)) := (Qac _).trans (by kernel_rfl)
theorem Qva (lb n : Nat) (jt : LB) (js jh jl ji : Int) (jq : Bool) (aleg7 : LL) :
 top lb n QcR [.agg [.str jt, .int .i64 js, .int .i64 jh, .int .i64 jl, .int .i64 ji, .list jq aleg7]] =
 optO (C lb n Qin [.str jt]) fun r9 =>
 optO (CV.asB r9) fun lk =>
 bif (!lk) then
 (Qkd lb n jt js jh jl ji jq aleg7 false [[CV.int .i64 5, CV.str [99, 97, 114, 114, 105, 101, 114]]])
 else
 (Qkd lb n jt js jh jl ji jq aleg7 true []) := by kernel_rfl
noncomputable def Qcc (lb n yo : Nat) (ja : Bool) (aair2 : LL) (jb : Bool) (adis4 : LL) (bcar5 : LB) (jg jd jf jc : Int) (je : Bool) (bleg12 : LL) (wW : Bool × LL) (gx : Bool) (l242 : LL) (w7 : Int) : Option CV :=
 hold (Qas (E0 lb n 0 993) 0 (Qad (sub (B Qam) [1, 1, 1, 0, 1, 0, 0]) ++ [8, 10, 12]) [7, 9, 11] (sub (B Qam) [1, 1, 1, 0, 1, 0, 0]) (Qak 0 (seqK (E0 lb n 0 996) (sub (B Qam) [1, 1, 1, 0]) (sub (B Qam) [1, 1, 1, 1]) (retK Tryz.prog (R Qam) 0 (outK (Qaf Tryz.prog Qam))))) yo ⟨fr 133 [(0, .val (.agg [.list ja aair2, .list jb adis4])), (1, .val (.agg [.str bcar5, .int .i64 jg, .int .i64 jd, .int .i64 jf, .int .i64 jc, .list je bleg12])), (2, .ptr 0 2 0), (3, .ptr 0 3 0), (4, .lst true true 83 []), (5, .lst true gx 83 l242), (6, vI w7), (15, .val (.agg [.str bcar5, .int .i64 jg, .int .i64 jd, .int .i64 jf, .int .i64 jc, .list je bleg12])), (16, .val (.list wW.1 wW.2))], [bx 133 [(2, some [.val (.list ja aair2), .val (.list jb adis4)]), (3, some [vS bcar5, vI jg, vI jd, vI jf, vI jc, .val (.list je bleg12)])]], KK⟩)
noncomputable def Qg8 (lb n yo : Nat) (ja : Bool) (aair2 : LL) (jb : Bool) (adis4 : LL) (bcar5 : LB) (jg jd jf jc : Int) (je : Bool) (bleg12 : LL) (w7 : Int) (s370 : LB) (wW : Bool × LL) (c363 : List CV) (yA yz yx yw yI yU : CV) (gu : Bool) (l374 : LL) : Option CV :=
 hold (E0 lb n 0 987 (sub (B Qam) [1, 1, 1, 0, 1, 0, 0, 1, 0, 0, 1, 1, 1]) (Qak 1 (seqK (E0 lb n 0 991) (sub (B Qam) [1, 1, 1, 0, 1, 0, 0, 1, 0]) (sub (B Qam) [1, 1, 1, 0, 1, 0, 0, 1, 1]) (QbH 0 (Qad (sub (B Qam) [1, 1, 1, 0, 1, 0, 0]) ++ [8, 10, 12]) [7, 9, 11] (Qas (E0 lb n 0 993) 0 (Qad (sub (B Qam) [1, 1, 1, 0, 1, 0, 0]) ++ [8, 10, 12]) [7, 9, 11] (sub (B Qam) [1, 1, 1, 0, 1, 0, 0]) (Qak 0 (seqK (E0 lb n 0 996) (sub (B Qam) [1, 1, 1, 0]) (sub (B Qam) [1, 1, 1, 1]) (retK Tryz.prog (R Qam) 0 (outK (Qaf Tryz.prog Qam))))) yo) (Qak 0 (seqK (E0 lb n 0 996) (sub (B Qam) [1, 1, 1, 0]) (sub (B Qam) [1, 1, 1, 1]) (retK Tryz.prog (R Qam) 0 (outK (Qaf Tryz.prog Qam)))))))) ⟨fr 133 [(0, .val (.agg [.list ja aair2, .list jb adis4])), (1, .val (.agg [.str bcar5, .int .i64 jg, .int .i64 jd, .int .i64 jf, .int .i64 jc, .list je bleg12])), (2, .ptr 0 2 0), (3, .ptr 0 3 0), (4, .lst true true 83 []), (5, .lst true gu 83 l374), (6, vI w7), (7, .ptr 0 7 0), (8, .val (.str (([108, 101, 103, 32] : LB) ++ s370))), (15, .val (.agg [.str bcar5, .int .i64 jg, .int .i64 jd, .int .i64 jf, .int .i64 jc, .list je bleg12])), (16, .val (.list wW.1 wW.2)), (35, .ptr 0 3 5), (36, .val (.list je bleg12)), (37, vI w7), (38, .cptr c363 0), (39, .val (.agg [yA, yz, yx, yw, yI])), (40, vI w7), (41, vV yU), (42, .val (.str (([108, 101, 103, 32] : LB) ++ s370)))], [bx 133 [(2, some [.val (.list ja aair2), .val (.list jb adis4)]), (3, some [vS bcar5, vI jg, vI jd, vI jf, vI jc, .val (.list je bleg12)]), (7, some [.val yA, .val yz, .val yx, .val yw, .val yI])]], KK⟩)
noncomputable def Qfr (lb n yo : Nat) (ja : Bool) (aair2 : LL) (jb : Bool) (adis4 : LL) (bcar5 : LB) (jg jd jf jc : Int) (je : Bool) (bleg12 : LL) (w7 : Int) (s370 : LB) (vm vn : CV) (wW : Bool × LL) (c363 : List CV) (yA yz yx yw yI yU vh vD vi vC vL vG vH vN vJ vU vW vP vK vQ : CV) (gM : Bool) (l399 : LL) : Option CV :=
 hold (E0 lb n 0 984 (sub (B Qam) [1, 1, 1, 0, 1, 0, 0, 1, 0, 0, 1, 1, 1, 1, 1, 1]) (Qak 1 (seqK (E0 lb n 0 991) (sub (B Qam) [1, 1, 1, 0, 1, 0, 0, 1, 0]) (sub (B Qam) [1, 1, 1, 0, 1, 0, 0, 1, 1]) (QbH 0 (Qad (sub (B Qam) [1, 1, 1, 0, 1, 0, 0]) ++ [8, 10, 12]) [7, 9, 11] (Qas (E0 lb n 0 993) 0 (Qad (sub (B Qam) [1, 1, 1, 0, 1, 0, 0]) ++ [8, 10, 12]) [7, 9, 11] (sub (B Qam) [1, 1, 1, 0, 1, 0, 0]) (Qak 0 (seqK (E0 lb n 0 996) (sub (B Qam) [1, 1, 1, 0]) (sub (B Qam) [1, 1, 1, 1]) (retK Tryz.prog (R Qam) 0 (outK (Qaf Tryz.prog Qam))))) yo) (Qak 0 (seqK (E0 lb n 0 996) (sub (B Qam) [1, 1, 1, 0]) (sub (B Qam) [1, 1, 1, 1]) (retK Tryz.prog (R Qam) 0 (outK (Qaf Tryz.prog Qam)))))))) ⟨fr 133 [(0, .val (.agg [.list ja aair2, .list jb adis4])), (1, .val (.agg [.str bcar5, .int .i64 jg, .int .i64 jd, .int .i64 jf, .int .i64 jc, .list je bleg12])), (2, .ptr 0 2 0), (3, .ptr 0 3 0), (4, .lst true true 83 []), (5, .lst true gM 83 l399), (6, vI w7), (7, .ptr 0 7 0), (8, .val (.str (([108, 101, 103, 32] : LB) ++ s370))), (9, .ptr 0 9 0), (10, vV vm), (11, .ptr 0 11 0), (12, vV vn), (15, .val (.agg [.str bcar5, .int .i64 jg, .int .i64 jd, .int .i64 jf, .int .i64 jc, .list je bleg12])), (16, .val (.list wW.1 wW.2)), (35, .ptr 0 3 5), (36, .val (.list je bleg12)), (37, vI w7), (38, .cptr c363 0), (39, .val (.agg [yA, yz, yx, yw, yI])), (40, vI w7), (41, vV yU), (42, .val (.str (([108, 101, 103, 32] : LB) ++ s370))), (52, vV vh), (53, .val (.agg [.list ja aair2, .list jb adis4])), (54, .ptr 0 7 0), (55, vV yA), (56, vV vh), (57, vV vD), (58, vV vm), (59, vV vi), (60, .val (.agg [.list ja aair2, .list jb adis4])), (61, .ptr 0 7 1), (62, vV yz), (63, vV vi), (64, vV vC), (65, vV vn)], [bx 133 [(2, some [.val (.list ja aair2), .val (.list jb adis4)]), (3, some [vS bcar5, vI jg, vI jd, vI jf, vI jc, .val (.list je bleg12)]), (7, some [.val yA, .val yz, .val yx, .val yw, .val yI]), (9, some [.val vL, .val vG, .val vH, .val vN, .val vJ]), (11, some [.val vU, .val vW, .val vP, .val vK, .val vQ])]], KK⟩)
noncomputable def Qg7 (lb n yo : Nat) (ja : Bool) (aair2 : LL) (jb : Bool) (adis4 : LL) (bcar5 : LB) (jg jd jf jc : Int) (je : Bool) (bleg12 : LL) (w7 : Int) (s370 : LB) (vm vn : CV) (wW : Bool × LL) (c363 : List CV) (yA yz yx yw yI yU vh vD vi vC vL vG vH vN vJ vU vW vP vK vQ : CV) (gt : Bool) (l403 : LL) : Option CV :=
 hold (E0 lb n 0 983 (sub (B Qam) [1, 1, 1, 0, 1, 0, 0, 1, 0, 0, 1, 1, 1, 1, 1, 1, 1]) (Qak 1 (seqK (E0 lb n 0 991) (sub (B Qam) [1, 1, 1, 0, 1, 0, 0, 1, 0]) (sub (B Qam) [1, 1, 1, 0, 1, 0, 0, 1, 1]) (QbH 0 (Qad (sub (B Qam) [1, 1, 1, 0, 1, 0, 0]) ++ [8, 10, 12]) [7, 9, 11] (Qas (E0 lb n 0 993) 0 (Qad (sub (B Qam) [1, 1, 1, 0, 1, 0, 0]) ++ [8, 10, 12]) [7, 9, 11] (sub (B Qam) [1, 1, 1, 0, 1, 0, 0]) (Qak 0 (seqK (E0 lb n 0 996) (sub (B Qam) [1, 1, 1, 0]) (sub (B Qam) [1, 1, 1, 1]) (retK Tryz.prog (R Qam) 0 (outK (Qaf Tryz.prog Qam))))) yo) (Qak 0 (seqK (E0 lb n 0 996) (sub (B Qam) [1, 1, 1, 0]) (sub (B Qam) [1, 1, 1, 1]) (retK Tryz.prog (R Qam) 0 (outK (Qaf Tryz.prog Qam)))))))) ⟨fr 133 [(0, .val (.agg [.list ja aair2, .list jb adis4])), (1, .val (.agg [.str bcar5, .int .i64 jg, .int .i64 jd, .int .i64 jf, .int .i64 jc, .list je bleg12])), (2, .ptr 0 2 0), (3, .ptr 0 3 0), (4, .lst true true 83 []), (5, .lst true gt 83 l403), (6, vI w7), (7, .ptr 0 7 0), (8, .val (.str (([108, 101, 103, 32] : LB) ++ s370))), (9, .ptr 0 9 0), (10, vV vm), (11, .ptr 0 11 0), (12, vV vn), (15, .val (.agg [.str bcar5, .int .i64 jg, .int .i64 jd, .int .i64 jf, .int .i64 jc, .list je bleg12])), (16, .val (.list wW.1 wW.2)), (35, .ptr 0 3 5), (36, .val (.list je bleg12)), (37, vI w7), (38, .cptr c363 0), (39, .val (.agg [yA, yz, yx, yw, yI])), (40, vI w7), (41, vV yU), (42, .val (.str (([108, 101, 103, 32] : LB) ++ s370))), (52, vV vh), (53, .val (.agg [.list ja aair2, .list jb adis4])), (54, .ptr 0 7 0), (55, vV yA), (56, vV vh), (57, vV vD), (58, vV vm), (59, vV vi), (60, .val (.agg [.list ja aair2, .list jb adis4])), (61, .ptr 0 7 1), (62, vV yz), (63, vV vi), (64, vV vC), (65, vV vn)], [bx 133 [(2, some [.val (.list ja aair2), .val (.list jb adis4)]), (3, some [vS bcar5, vI jg, vI jd, vI jf, vI jc, .val (.list je bleg12)]), (7, some [.val yA, .val yz, .val yx, .val yw, .val yI]), (9, some [.val vL, .val vG, .val vH, .val vN, .val vJ]), (11, some [.val vU, .val vW, .val vP, .val vK, .val vQ])]], KK⟩)
theorem QpO (lb n yo : Nat) (ja : Bool) (aair2 : LL) (jb : Bool) (adis4 : LL) (bcar5 : LB) (jg jd jf jc : Int) (je : Bool) (bleg12 : LL) (w7 : Int) (s370 : LB) (vm vn : CV) (wW : Bool × LL) (c363 : List CV) (yA yz yx yw yI yU vh vD vi vC vL vG vH vN vJ vU vW vP vK vQ : CV) (gt : Bool) (l403 : LL) :
 Qg7 lb n yo ja aair2 jb adis4 bcar5 jg jd jf jc je bleg12 w7 s370 vm vn wW c363 yA yz yx yw yI yU vh vD vi vC vL vG vH vN vJ vU vW vP vK vQ gt l403 =
 optO (C lb n QdE [yx]) fun sV =>
 optO (CV.asB sV) fun zD =>
 bif zD then
 (chkO (room (l403.length + 1) 24) (
 Qcc lb n yo ja aair2 jb adis4 bcar5 jg jd jf jc je bleg12 wW (gt && false) (l403 ++ [[CV.int .i64 2, CV.str (([108, 101, 103, 32] : LB) ++ s370)]]) (IntKind.wrap .i64 (w7 + 1))))
 else
 (optO (C lb n QdE [yw]) fun lh =>
 optO (CV.asB lh) fun lj =>
 bif lj then
 (chkO (room (l403.length + 1) 24) (
 Qcc lb n yo ja aair2 jb adis4 bcar5 jg jd jf jc je bleg12 wW (gt && false) (l403 ++ [[CV.int .i64 2, CV.str (([108, 101, 103, 32] : LB) ++ s370)]]) (IntKind.wrap .i64 (w7 + 1))))
 else
 (Qcc lb n yo ja aair2 jb adis4 bcar5 jg jd jf jc je bleg12 wW gt l403 (IntKind.wrap .i64 (w7 + 1)))) := (Qac _).trans (by kernel_rfl)
theorem Qql (lb n yo : Nat) (ja : Bool) (aair2 : LL) (jb : Bool) (adis4 : LL) (bcar5 : LB) (jg jd jf jc : Int) (je : Bool) (bleg12 : LL) (w7 : Int) (s370 : LB) (vm vn : CV) (wW : Bool × LL) (c363 : List CV) (yA yz yx yw yI yU vh vD vi vC vL vG vH vN vJ vU vW vP vK vQ : CV) (gM : Bool) (l399 : LL) :
 Qfr lb n yo ja aair2 jb adis4 bcar5 jg jd jf jc je bleg12 w7 s370 vm vn wW c363 yA yz yx yw yI yU vh vD vi vC vL vG vH vN vJ vU vW vP vK vQ gM l399 =
 optO (C lb n QbF [.list je bleg12, .int .i64 w7]) fun zy =>
 optO (CV.asB zy) fun zd =>
 bif zd then
 (chkO (room (l399.length + 1) 24) (
 Qg7 lb n yo ja aair2 jb adis4 bcar5 jg jd jf jc je bleg12 w7 s370 vm vn wW c363 yA yz yx yw yI yU vh vD vi vC vL vG vH vN vJ vU vW vP vK vQ (gM && false) (l399 ++ [[CV.int .i64 15, CV.str (([108, 101, 103, 32] : LB) ++ s370)]])))
 else
 (Qg7 lb n yo ja aair2 jb adis4 bcar5 jg jd jf jc je bleg12 w7 s370 vm vn wW c363 yA yz yx yw yI yU vh vD vi vC vL vG vH vN vJ vU vW vP vK vQ gM l399) := (Qac _).trans (by kernel_rfl)
theorem Qp6 (lb n yo : Nat) (ja : Bool) (aair2 : LL) (jb : Bool) (adis4 : LL) (bcar5 : LB) (jg jd jf jc : Int) (je : Bool) (bleg12 : LL) (w7 : Int) (s370 : LB) (wW : Bool × LL) (c363 : List CV) (yA yz yx yw yI yU : CV) (gu : Bool) (l374 : LL) :
 Qg8 lb n yo ja aair2 jb adis4 bcar5 jg jd jf jc je bleg12 w7 s370 wW c363 yA yz yx yw yI yU gu l374 =
 optO (C lb n QbM [.agg [.list ja aair2, .list jb adis4], yA]) fun vh =>
 optO (CV.asT vh) fun zI =>
 optO (zI[0]?) fun vD =>
 optO (CV.asT vh) fun zH =>
 optO (zH[1]?) fun vm =>
 optO (CV.asA vD) fun c380 =>
 chkO (c380.length == 5) (
 optO (c380[0]?) fun vL =>
 optO (c380[1]?) fun vG =>
 optO (c380[2]?) fun vH =>
 optO (c380[3]?) fun vN =>
 optO (c380[4]?) fun vJ =>
 optO (C lb n QbM [.agg [.list ja aair2, .list jb adis4], yz]) fun vi =>
 optO (CV.asT vi) fun zN =>
 optO (zN[0]?) fun vC =>
 optO (CV.asT vi) fun qM =>
 optO (qM[1]?) fun vn =>
 optO (CV.asA vC) fun c391 =>
 chkO (c391.length == 5) (
 optO (c391[0]?) fun vU =>
 optO (c391[1]?) fun vW =>
 optO (c391[2]?) fun vP =>
 optO (c391[3]?) fun vK =>
 optO (c391[4]?) fun vQ =>
 optO (CV.asB vm) fun zf =>
 bif (!zf) then
 (chkO (room (l374.length + 1) 24) (
 Qfr lb n yo ja aair2 jb adis4 bcar5 jg jd jf jc je bleg12 w7 s370 vm vn wW c363 yA yz yx yw yI yU vh vD vi vC vL vG vH vN vJ vU vW vP vK vQ (gu && false) (l374 ++ [[CV.int .i64 14, CV.str (([108, 101, 103, 32] : LB) ++ s370)]])))
 else
 (optO (CV.asB vn) fun z8 =>
 bif (!z8) then
 (chkO (room (l374.length + 1) 24) (
 Qfr lb n yo ja aair2 jb adis4 bcar5 jg jd jf jc je bleg12 w7 s370 vm vn wW c363 yA yz yx yw yI yU vh vD vi vC vL vG vH vN vJ vU vW vP vK vQ (gu && false) (l374 ++ [[CV.int .i64 14, CV.str (([108, 101, 103, 32] : LB) ++ s370)]])))
 else
 (Qfr lb n yo ja aair2 jb adis4 bcar5 jg jd jf jc je bleg12 w7 s370 vm vn wW c363 yA yz yx yw yI yU vh vD vi vC vL vG vH vN vJ vU vW vP vK vQ gu l374)))) := (Qac _).trans (by kernel_rfl)
noncomputable def Qns (lb n : Nat) (ja : Bool) (aair2 : LL) (jb : Bool) (adis4 : LL) (bcar5 : LB) (jg jd jf jc : Int) (je : Bool) (bleg12 : LL) (wW : Bool × LL) (mT : Bool) (ng : LL) (vw : Int) : Option CV :=
 hold (E0 lb n 0 996 (sub (B Qam) [1, 1, 1, 1]) (retK Tryz.prog (R Qam) 0 (outK (Qaf Tryz.prog Qam))) ⟨fr 133 [(0, .val (.agg [.list ja aair2, .list jb adis4])), (1, .val (.agg [.str bcar5, .int .i64 jg, .int .i64 jd, .int .i64 jf, .int .i64 jc, .list je bleg12])), (2, .ptr 0 2 0), (3, .ptr 0 3 0), (4, .lst true true 83 []), (5, .lst true mT 83 ng), (6, vI vw), (15, .val (.agg [.str bcar5, .int .i64 jg, .int .i64 jd, .int .i64 jf, .int .i64 jc, .list je bleg12])), (16, .val (.list wW.1 wW.2))], [bx 133 [(2, some [.val (.list ja aair2), .val (.list jb adis4)]), (3, some [vS bcar5, vI jg, vI jd, vI jf, vI jc, .val (.list je bleg12)])]], KK⟩)
noncomputable def QdM (lb n gV : Nat) (ja : Bool) (aair2 : LL) (jb : Bool) (adis4 : LL) (bcar5 : LB) (jg jd jf jc : Int) (je : Bool) (bleg12 : LL) (vw : Int) (vF : CV) (wW : Bool × LL) (o9 : Bool) (l429 : LL) (oh : Int) : Option CV :=
 hold (Qas (E0 lb n 0 991) 0 (Qad (sub (B Qam) [1, 1, 1, 1, 1, 0, 1, 0, 0]) ++ []) [] (sub (B Qam) [1, 1, 1, 1, 1, 0, 1, 0, 0]) (Qak 2 (seqK (E0 lb n 0 994) (sub (B Qam) [1, 1, 1, 1, 1, 0]) (sub (B Qam) [1, 1, 1, 1, 1, 1]) (retK Tryz.prog (R Qam) 0 (outK (Qaf Tryz.prog Qam))))) gV ⟨fr 133 [(0, .val (.agg [.list ja aair2, .list jb adis4])), (1, .val (.agg [.str bcar5, .int .i64 jg, .int .i64 jd, .int .i64 jf, .int .i64 jc, .list je bleg12])), (2, .ptr 0 2 0), (3, .ptr 0 3 0), (4, .lst true true 83 []), (5, .lst true o9 83 l429), (6, vI vw), (13, vV vF), (14, vI oh), (15, .val (.agg [.str bcar5, .int .i64 jg, .int .i64 jd, .int .i64 jf, .int .i64 jc, .list je bleg12])), (16, .val (.list wW.1 wW.2)), (99, .ptr 0 3 2), (100, .val (.agg [.int .i64 jd, .int .i64 jf, .int .i64 jc])), (101, vV vF)], [bx 133 [(2, some [.val (.list ja aair2), .val (.list jb adis4)]), (3, some [vS bcar5, vI jg, vI jd, vI jf, vI jc, .val (.list je bleg12)])]], KK⟩)
noncomputable def Qi5 (lb n : Nat) (ja : Bool) (aair2 : LL) (jb : Bool) (adis4 : LL) (bcar5 : LB) (jg jd jf jc : Int) (je : Bool) (bleg12 : LL) (vw : Int) (vF : CV) (wW : Bool × LL) (m5 : Bool) (mQ : LL) (pj : Int) : Option CV :=
 hold (E0 lb n 0 994 (sub (B Qam) [1, 1, 1, 1, 1, 1]) (retK Tryz.prog (R Qam) 0 (outK (Qaf Tryz.prog Qam))) ⟨fr 133 [(0, .val (.agg [.list ja aair2, .list jb adis4])), (1, .val (.agg [.str bcar5, .int .i64 jg, .int .i64 jd, .int .i64 jf, .int .i64 jc, .list je bleg12])), (2, .ptr 0 2 0), (3, .ptr 0 3 0), (4, .lst true true 83 []), (5, .lst true m5 83 mQ), (6, vI vw), (13, vV vF), (14, vI pj), (15, .val (.agg [.str bcar5, .int .i64 jg, .int .i64 jd, .int .i64 jf, .int .i64 jc, .list je bleg12])), (16, .val (.list wW.1 wW.2)), (99, .ptr 0 3 2), (100, .val (.agg [.int .i64 jd, .int .i64 jf, .int .i64 jc])), (101, vV vF)], [bx 133 [(2, some [.val (.list ja aair2), .val (.list jb adis4)]), (3, some [vS bcar5, vI jg, vI jd, vI jf, vI jc, .val (.list je bleg12)])]], KK⟩)
theorem QgN (lb n : Nat) (ja : Bool) (aair2 : LL) (jb : Bool) (adis4 : LL) (bcar5 : LB) (jg jd jf jc : Int) (je : Bool) (bleg12 : LL) (vw : Int) (vF : CV) (wW : Bool × LL) (m5 : Bool) (mQ : LL) (pj : Int) :
 Qi5 lb n ja aair2 jb adis4 bcar5 jg jd jf jc je bleg12 vw vF wW m5 mQ pj =
 some (.list m5 mQ) := (Qac _).trans (by kernel_rfl)
theorem Qel (lb n gV : Nat) (ja : Bool) (aair2 : LL) (jb : Bool) (adis4 : LL) (bcar5 : LB) (jg jd jf jc : Int) (je : Bool) (bleg12 : LL) (vw : Int) (vF : CV) (wW : Bool × LL) (o9 : Bool) (l429 : LL) (oh : Int) :
 QdM lb n (gV + 1) ja aair2 jb adis4 bcar5 jg jd jf jc je bleg12 vw vF wW o9 l429 oh =
 bif ((l429.length : Int) == 0) then
 (optO (CV.asL vF) fun zB =>
 bif (decide (oh < (zB.2.length : Int))) then
 (optO (CV.asL vF) fun zA =>
 optO (atL zA.2 oh) fun c446 =>
 chkO (c446.length == 1) (
 optO (c446[0]?) fun zk =>
 optO (C lb n Qcn [.agg [.list ja aair2, .list jb adis4], .agg [.str bcar5, .int .i64 jg, .int .i64 jd, .int .i64 jf, .int .i64 jc, .list je bleg12], zk]) fun zG =>
 optO (C lb n Qbx [zG]) fun zO =>
 optO (CV.asB zO) fun zV =>
 bif (!zV) then
 (optO (CV.asL vF) fun sM =>
 optO (atL sM.2 oh) fun c452 =>
 chkO (c452.length == 1) (
 optO (c452[0]?) fun sd =>
 optO (C lb n QhO [sd]) fun sz =>
 optO (CV.asS sz) fun s455 =>
 chkO (decide (([100, 97, 121, 32] : LB).length + s455.length ≤ 9223372036854775807)) (
 chkO (room (l429.length + 1) 24) (
 QdM lb n gV ja aair2 jb adis4 bcar5 jg jd jf jc je bleg12 vw vF wW (o9 && false) (l429 ++ [[CV.int .i64 13, CV.str (([100, 97, 121, 32] : LB) ++ s455)]]) (IntKind.wrap .i64 (oh + 1))))))
 else
 (QdM lb n gV ja aair2 jb adis4 bcar5 jg jd jf jc je bleg12 vw vF wW o9 l429 (IntKind.wrap .i64 (oh + 1)))))
 else
 (Qi5 lb n ja aair2 jb adis4 bcar5 jg jd jf jc je bleg12 vw vF wW o9 l429 oh))
 else
 (Qi5 lb n ja aair2 jb adis4 bcar5 jg jd jf jc je bleg12 vw vF wW o9 l429 oh) := (Qac _).trans (by kernel_rfl)
theorem QpU (lb n : Nat) (ja : Bool) (aair2 : LL) (jb : Bool) (adis4 : LL) (bcar5 : LB) (jg jd jf jc : Int) (je : Bool) (bleg12 : LL) (wW : Bool × LL) (mT : Bool) (ng : LL) (vw : Int) :
 Qns lb n ja aair2 jb adis4 bcar5 jg jd jf jc je bleg12 wW mT ng vw =
 optO (C lb n Qb3 [.agg [.int .i64 jd, .int .i64 jf, .int .i64 jc]]) fun vF =>
 QdM lb n n ja aair2 jb adis4 bcar5 jg jd jf jc je bleg12 vw vF wW mT ng 0 := (Qac _).trans (by kernel_rfl)
theorem Qiv (lb n yo : Nat) (ja : Bool) (aair2 : LL) (jb : Bool) (adis4 : LL) (bcar5 : LB) (jg jd jf jc : Int) (je : Bool) (bleg12 : LL) (wW : Bool × LL) (gx : Bool) (l242 : LL) (w7 : Int) :
 Qcc lb n (yo + 1) ja aair2 jb adis4 bcar5 jg jd jf jc je bleg12 wW gx l242 w7 =
 bif (decide (w7 < (bleg12.length : Int))) then
 (optO (atL bleg12 w7) fun c363 =>
 chkO (c363.length == 5) (
 optO (c363[0]?) fun yA =>
 optO (c363[1]?) fun yz =>
 optO (c363[2]?) fun yx =>
 optO (c363[3]?) fun yw =>
 optO (c363[4]?) fun yI =>
 optO (C lb n QdW [.int .i64 w7]) fun yU =>
 optO (CV.asS yU) fun s370 =>
 chkO (decide (([108, 101, 103, 32] : LB).length + s370.length ≤ 9223372036854775807)) (
 optO (C lb n Qcm [yI, .int .i64 3, .int .i64 3]) fun si =>
 optO (CV.asB si) fun zK =>
 bif (!zK) then
 (chkO (room (l242.length + 1) 24) (
 Qg8 lb n yo ja aair2 jb adis4 bcar5 jg jd jf jc je bleg12 w7 s370 wW c363 yA yz yx yw yI yU (gx && false) (l242 ++ [[CV.int .i64 5, CV.str (([108, 101, 103, 32] : LB) ++ s370)]])))
 else
 (Qg8 lb n yo ja aair2 jb adis4 bcar5 jg jd jf jc je bleg12 w7 s370 wW c363 yA yz yx yw yI yU gx l242))))
 else
 (Qns lb n ja aair2 jb adis4 bcar5 jg jd jf jc je bleg12 wW gx l242 w7) := (Qac _).trans (by kernel_rfl)
theorem QuB (lb n : Nat) (ja : Bool) (aair2 : LL) (jb : Bool) (adis4 : LL) (bcar5 : LB) (jg jd jf jc : Int) (je : Bool) (bleg12 : LL) :
 top lb n Qam [.agg [.list ja aair2, .list jb adis4], .agg [.str bcar5, .int .i64 jg, .int .i64 jd, .int .i64 jf, .int .i64 jc, .list je bleg12]] =
 optO (C lb n QcR [.agg [.str bcar5, .int .i64 jg, .int .i64 jd, .int .i64 jf, .int .i64 jc, .list je bleg12]]) fun o4 =>
 optO (CV.asL o4) fun wW =>
 bif (decide ((bleg12.length : Int) < 1)) then
 (some (.list wW.1 wW.2))
 else
 (bif (decide ((bleg12.length : Int) > 6)) then
 (some (.list wW.1 wW.2))
 else
 (Qcc lb n n ja aair2 jb adis4 bcar5 jg jd jf jc je bleg12 wW wW.1 wW.2 0)) := by kernel_rfl
noncomputable def Qg0 (lb n : Nat) (ja : Bool) (aair2 : LL) (jb : Bool) (adis4 : LL) (bcar5 : LB) (jg jd jf jc : Int) (je : Bool) (bleg12 : LL) (yT : Bool) (l17 : LL) : Option CV :=
 hold (E0 lb n 0 996 (sub (B Qai) [1, 1, 1, 1]) (retK Tryz.prog (R Qai) 0 (outK (Qaf Tryz.prog Qai))) ⟨fr 100 [(0, .val (.agg [.list ja aair2, .list jb adis4])), (1, .val (.agg [.str bcar5, .int .i64 jg, .int .i64 jd, .int .i64 jf, .int .i64 jc, .list je bleg12])), (2, .ptr 0 2 0), (3, .ptr 0 3 0), (4, .lst true true 83 []), (5, .ptr 0 5 0), (6, .clo QaP [.ptr 0 5 0]), (13, .clo QaP [.ptr 0 5 0])], [bx 100 [(2, some [.val (.list ja aair2), .val (.list jb adis4)]), (3, some [vS bcar5, vI jg, vI jd, vI jf, vI jc, .val (.list je bleg12)]), (5, some [.lst true yT 83 l17])]], KK⟩)
noncomputable def Qfg (lb n : Nat) (ja : Bool) (aair2 : LL) (jb : Bool) (adis4 : LL) (bcar5 : LB) (jg jd jf jc : Int) (je : Bool) (bleg12 : LL) (nR : Bool) (l19 : LL) : Option CV :=
 hold (E0 lb n 0 995 (sub (B Qai) [1, 1, 1, 1, 1]) (retK Tryz.prog (R Qai) 0 (outK (Qaf Tryz.prog Qai))) ⟨fr 100 [(0, .val (.agg [.list ja aair2, .list jb adis4])), (1, .val (.agg [.str bcar5, .int .i64 jg, .int .i64 jd, .int .i64 jf, .int .i64 jc, .list je bleg12])), (2, .ptr 0 2 0), (3, .ptr 0 3 0), (4, .lst true true 83 []), (5, .ptr 0 5 0), (6, .clo QaP [.ptr 0 5 0]), (13, .clo QaP [.ptr 0 5 0])], [bx 100 [(2, some [.val (.list ja aair2), .val (.list jb adis4)]), (3, some [vS bcar5, vI jg, vI jd, vI jf, vI jc, .val (.list je bleg12)]), (5, some [.lst true nR 83 l19])]], KK⟩)
noncomputable def Qfe (lb n : Nat) (ja : Bool) (aair2 : LL) (jb : Bool) (adis4 : LL) (bcar5 : LB) (jg jd jf jc : Int) (je : Bool) (bleg12 : LL) (ya : CV) (kR : Bool) (l24 : LL) : Option CV :=
 hold (E0 lb n 0 994 (sub (B Qai) [1, 1, 1, 1, 1, 1]) (retK Tryz.prog (R Qai) 0 (outK (Qaf Tryz.prog Qai))) ⟨fr 100 [(0, .val (.agg [.list ja aair2, .list jb adis4])), (1, .val (.agg [.str bcar5, .int .i64 jg, .int .i64 jd, .int .i64 jf, .int .i64 jc, .list je bleg12])), (2, .ptr 0 2 0), (3, .ptr 0 3 0), (4, .lst true true 83 []), (5, .ptr 0 5 0), (6, .clo QaP [.ptr 0 5 0]), (7, vV ya), (13, .clo QaP [.ptr 0 5 0])], [bx 100 [(2, some [.val (.list ja aair2), .val (.list jb adis4)]), (3, some [vS bcar5, vI jg, vI jd, vI jf, vI jc, .val (.list je bleg12)]), (5, some [.lst true kR 83 l24])]], KK⟩)
noncomputable def Qdo (lb n k8 : Nat) (ja : Bool) (aair2 : LL) (jb : Bool) (adis4 : LL) (bcar5 : LB) (jg jd jf jc : Int) (je : Bool) (bleg12 : LL) (ya : CV) (i46 : Int) (oj : Bool) (oN : LL) : Option CV :=
 hold (Qas (E0 lb n 0 989) 0 (Qad (sub (B Qai) [1, 1, 1, 1, 1, 1, 1, 0, 1, 0, 0]) ++ [8, 10]) [] (sub (B Qai) [1, 1, 1, 1, 1, 1, 1, 0, 1, 0, 0]) (Qak 0 (seqK (E0 lb n 0 992) (sub (B Qai) [1, 1, 1, 1, 1, 1, 1, 0]) (sub (B Qai) [1, 1, 1, 1, 1, 1, 1, 1]) (retK Tryz.prog (R Qai) 0 (outK (Qaf Tryz.prog Qai))))) k8 ⟨fr 100 [(0, .val (.agg [.list ja aair2, .list jb adis4])), (1, .val (.agg [.str bcar5, .int .i64 jg, .int .i64 jd, .int .i64 jf, .int .i64 jc, .list je bleg12])), (2, .ptr 0 2 0), (3, .ptr 0 3 0), (4, .lst true true 83 []), (5, .ptr 0 5 0), (6, .clo QaP [.ptr 0 5 0]), (7, vV ya), (13, .clo QaP [.ptr 0 5 0]), (51, .ptr 0 3 5), (52, .val (.list je bleg12)), (53, .val (.int .i64 (bleg12.length : Int))), (54, vI i46)], [bx 100 [(2, some [.val (.list ja aair2), .val (.list jb adis4)]), (3, some [vS bcar5, vI jg, vI jd, vI jf, vI jc, .val (.list je bleg12)]), (5, some [.lst true oj 83 oN])]], KK⟩)
noncomputable def Qfh (lb n pI k8 : Nat) (ja : Bool) (aair2 : LL) (jb : Bool) (adis4 : LL) (bcar5 : LB) (jg jd jf jc : Int) (je : Bool) (bleg12 : LL) (ya : CV) (i46 : Int) (gG : CV) (gj : Bool × LL) (mj : Int) (y8 : Bool) (l80 : LL) : Option CV :=
 hold (Qas (E0 lb n 0 981) 0 (Qad (sub (B Qai) [1, 1, 1, 1, 1, 1, 1, 0, 1, 0, 0, 1, 1, 0, 0, 1, 1, 0, 0]) ++ [10]) [] (sub (B Qai) [1, 1, 1, 1, 1, 1, 1, 0, 1, 0, 0, 1, 1, 0, 0, 1, 1, 0, 0]) (Qak 2 (Qak 1 (seqK (E0 lb n 0 986) (sub (B Qai) [1, 1, 1, 1, 1, 1, 1, 0, 1, 0, 0, 1, 1, 0]) (sub (B Qai) [1, 1, 1, 1, 1, 1, 1, 0, 1, 0, 0, 1, 1, 1]) (QbH 0 (Qad (sub (B Qai) [1, 1, 1, 1, 1, 1, 1, 0, 1, 0, 0]) ++ [8, 10]) [] (Qas (E0 lb n 0 989) 0 (Qad (sub (B Qai) [1, 1, 1, 1, 1, 1, 1, 0, 1, 0, 0]) ++ [8, 10]) [] (sub (B Qai) [1, 1, 1, 1, 1, 1, 1, 0, 1, 0, 0]) (Qak 0 (seqK (E0 lb n 0 992) (sub (B Qai) [1, 1, 1, 1, 1, 1, 1, 0]) (sub (B Qai) [1, 1, 1, 1, 1, 1, 1, 1]) (retK Tryz.prog (R Qai) 0 (outK (Qaf Tryz.prog Qai))))) k8) (Qak 0 (seqK (E0 lb n 0 992) (sub (B Qai) [1, 1, 1, 1, 1, 1, 1, 0]) (sub (B Qai) [1, 1, 1, 1, 1, 1, 1, 1]) (retK Tryz.prog (R Qai) 0 (outK (Qaf Tryz.prog Qai))))))))) pI ⟨fr 100 [(0, .val (.agg [.list ja aair2, .list jb adis4])), (1, .val (.agg [.str bcar5, .int .i64 jg, .int .i64 jd, .int .i64 jf, .int .i64 jc, .list je bleg12])), (2, .ptr 0 2 0), (3, .ptr 0 3 0), (4, .lst true true 83 []), (5, .ptr 0 5 0), (6, .clo QaP [.ptr 0 5 0]), (7, vV ya), (8, vI i46), (13, .clo QaP [.ptr 0 5 0]), (51, .ptr 0 3 5), (52, .val (.list je bleg12)), (53, .val (.int .i64 (bleg12.length : Int))), (54, vI i46), (55, .val (.bool (decide (i46 < (bleg12.length : Int))))), (56, vI i46), (57, .val (.agg [.list ja aair2, .list jb adis4])), (58, .ptr 0 3 5), (59, .val (.list je bleg12)), (60, vI i46), (61, vV gG), (62, .val (.int .i64 (gj.2.length : Int))), (63, vI mj)], [bx 100 [(2, some [.val (.list ja aair2), .val (.list jb adis4)]), (3, some [vS bcar5, vI jg, vI jd, vI jf, vI jc, .val (.list je bleg12)]), (5, some [.lst true y8 83 l80])]], KK⟩)
noncomputable def QjM (lb n k8 : Nat) (ja : Bool) (aair2 : LL) (jb : Bool) (adis4 : LL) (bcar5 : LB) (jg jd jf jc : Int) (je : Bool) (bleg12 : LL) (ya : CV) (i46 qr : Int) (nJ : Bool) (pD : LL) : Option CV :=
 hold (E0 lb n 0 986 (sub (B Qai) [1, 1, 1, 1, 1, 1, 1, 0, 1, 0, 0, 1, 1, 1]) (QbH 0 (Qad (sub (B Qai) [1, 1, 1, 1, 1, 1, 1, 0, 1, 0, 0]) ++ [8, 10]) [] (Qas (E0 lb n 0 989) 0 (Qad (sub (B Qai) [1, 1, 1, 1, 1, 1, 1, 0, 1, 0, 0]) ++ [8, 10]) [] (sub (B Qai) [1, 1, 1, 1, 1, 1, 1, 0, 1, 0, 0]) (Qak 0 (seqK (E0 lb n 0 992) (sub (B Qai) [1, 1, 1, 1, 1, 1, 1, 0]) (sub (B Qai) [1, 1, 1, 1, 1, 1, 1, 1]) (retK Tryz.prog (R Qai) 0 (outK (Qaf Tryz.prog Qai))))) k8) (Qak 0 (seqK (E0 lb n 0 992) (sub (B Qai) [1, 1, 1, 1, 1, 1, 1, 0]) (sub (B Qai) [1, 1, 1, 1, 1, 1, 1, 1]) (retK Tryz.prog (R Qai) 0 (outK (Qaf Tryz.prog Qai)))))) ⟨fr 100 [(0, .val (.agg [.list ja aair2, .list jb adis4])), (1, .val (.agg [.str bcar5, .int .i64 jg, .int .i64 jd, .int .i64 jf, .int .i64 jc, .list je bleg12])), (2, .ptr 0 2 0), (3, .ptr 0 3 0), (4, .lst true true 83 []), (5, .ptr 0 5 0), (6, .clo QaP [.ptr 0 5 0]), (7, vV ya), (8, vI qr), (13, .clo QaP [.ptr 0 5 0]), (51, .ptr 0 3 5), (52, .val (.list je bleg12)), (53, .val (.int .i64 (bleg12.length : Int))), (54, vI i46), (55, .val (.bool (decide (i46 < (bleg12.length : Int)))))], [bx 100 [(2, some [.val (.list ja aair2), .val (.list jb adis4)]), (3, some [vS bcar5, vI jg, vI jd, vI jf, vI jc, .val (.list je bleg12)]), (5, some [.lst true nJ 83 pD])]], KK⟩)
theorem Qm7 (lb n k8 : Nat) (ja : Bool) (aair2 : LL) (jb : Bool) (adis4 : LL) (bcar5 : LB) (jg jd jf jc : Int) (je : Bool) (bleg12 : LL) (ya : CV) (i46 qr : Int) (nJ : Bool) (pD : LL) :
 QjM lb n k8 ja aair2 jb adis4 bcar5 jg jd jf jc je bleg12 ya i46 qr nJ pD =
 Qdo lb n k8 ja aair2 jb adis4 bcar5 jg jd jf jc je bleg12 ya (IntKind.wrap .i64 (i46 + 1)) nJ pD := (Qac _).trans (by kernel_rfl)
theorem QgK (lb n pI k8 : Nat) (ja : Bool) (aair2 : LL) (jb : Bool) (adis4 : LL) (bcar5 : LB) (jg jd jf jc : Int) (je : Bool) (bleg12 : LL) (ya : CV) (i46 : Int) (gG : CV) (gj : Bool × LL) (mj : Int) (y8 : Bool) (l80 : LL) :
 Qfh lb n (pI + 1) k8 ja aair2 jb adis4 bcar5 jg jd jf jc je bleg12 ya i46 gG gj mj y8 l80 =
 bif (decide (mj < (gj.2.length : Int))) then
 (optO (CV.asL gG) fun rM =>
 optO (atL rM.2 mj) fun c88 =>
 chkO (c88.length == 1) (
 optO (c88[0]?) fun qH =>
 optO (C lb n Qhp [.int .i64 i46]) fun qv =>
 optO (CV.asS qv) fun s91 =>
 chkO (decide (([108, 101, 103, 32] : LB).length + s91.length ≤ 9223372036854775807)) (
 chkO (CV.isCell qH) (
 chkO (room (l80.length + 1) 24) (
 Qfh lb n pI k8 ja aair2 jb adis4 bcar5 jg jd jf jc je bleg12 ya i46 gG gj (IntKind.wrap .i64 (mj + 1)) (y8 && false) (l80 ++ [[qH, CV.str (([108, 101, 103, 32] : LB) ++ s91)]]))))))
 else
 (QjM lb n k8 ja aair2 jb adis4 bcar5 jg jd jf jc je bleg12 ya i46 i46 y8 l80) := (Qac _).trans (by kernel_rfl)
noncomputable def Qj4 (lb n : Nat) (ja : Bool) (aair2 : LL) (jb : Bool) (adis4 : LL) (bcar5 : LB) (jg jd jf jc : Int) (je : Bool) (bleg12 : LL) (ya : CV) (kP : Bool) (l96 : LL) : Option CV :=
 hold (E0 lb n 0 992 (sub (B Qai) [1, 1, 1, 1, 1, 1, 1, 1]) (retK Tryz.prog (R Qai) 0 (outK (Qaf Tryz.prog Qai))) ⟨fr 100 [(0, .val (.agg [.list ja aair2, .list jb adis4])), (1, .val (.agg [.str bcar5, .int .i64 jg, .int .i64 jd, .int .i64 jf, .int .i64 jc, .list je bleg12])), (2, .ptr 0 2 0), (3, .ptr 0 3 0), (4, .lst true true 83 []), (5, .ptr 0 5 0), (6, .clo QaP [.ptr 0 5 0]), (7, vV ya), (13, .clo QaP [.ptr 0 5 0])], [bx 100 [(2, some [.val (.list ja aair2), .val (.list jb adis4)]), (3, some [vS bcar5, vI jg, vI jd, vI jf, vI jc, .val (.list je bleg12)]), (5, some [.lst true kP 83 l96])]], KK⟩)
noncomputable def Qd0 (lb n mO : Nat) (ja : Bool) (aair2 : LL) (jb : Bool) (adis4 : LL) (bcar5 : LB) (jg jd jf jc : Int) (je : Bool) (bleg12 : LL) (ya gC : CV) (mb : Bool × LL) (kP : Bool) (l96 : LL) (gA : Int) : Option CV :=
 hold (Qas (E0 lb n 0 987) 0 (Qad (sub (B Qai) [1, 1, 1, 1, 1, 1, 1, 1, 1, 0, 1, 0, 0]) ++ [12]) [] (sub (B Qai) [1, 1, 1, 1, 1, 1, 1, 1, 1, 0, 1, 0, 0]) (Qak 4 (seqK (E0 lb n 0 990) (sub (B Qai) [1, 1, 1, 1, 1, 1, 1, 1, 1, 0]) (sub (B Qai) [1, 1, 1, 1, 1, 1, 1, 1, 1, 1]) (retK Tryz.prog (R Qai) 0 (outK (Qaf Tryz.prog Qai))))) mO ⟨fr 100 [(0, .val (.agg [.list ja aair2, .list jb adis4])), (1, .val (.agg [.str bcar5, .int .i64 jg, .int .i64 jd, .int .i64 jf, .int .i64 jc, .list je bleg12])), (2, .ptr 0 2 0), (3, .ptr 0 3 0), (4, .lst true true 83 []), (5, .ptr 0 5 0), (6, .clo QaP [.ptr 0 5 0]), (7, vV ya), (13, .clo QaP [.ptr 0 5 0]), (79, .ptr 0 3 2), (80, .val (.agg [.int .i64 jd, .int .i64 jf, .int .i64 jc])), (81, vV gC), (82, .val (.int .i64 (mb.2.length : Int))), (83, vI gA)], [bx 100 [(2, some [.val (.list ja aair2), .val (.list jb adis4)]), (3, some [vS bcar5, vI jg, vI jd, vI jf, vI jc, .val (.list je bleg12)]), (5, some [.lst true kP 83 l96])]], KK⟩)
noncomputable def QjN (lb n : Nat) (ja : Bool) (aair2 : LL) (jb : Bool) (adis4 : LL) (bcar5 : LB) (jg jd jf jc : Int) (je : Bool) (bleg12 : LL) (ya n7 : CV) (ni : Bool) (mX : LL) : Option CV :=
 hold (E0 lb n 0 990 (sub (B Qai) [1, 1, 1, 1, 1, 1, 1, 1, 1, 1]) (retK Tryz.prog (R Qai) 0 (outK (Qaf Tryz.prog Qai))) ⟨fr 100 [(0, .val (.agg [.list ja aair2, .list jb adis4])), (1, .val (.agg [.str bcar5, .int .i64 jg, .int .i64 jd, .int .i64 jf, .int .i64 jc, .list je bleg12])), (2, .ptr 0 2 0), (3, .ptr 0 3 0), (4, .lst true true 83 []), (5, .ptr 0 5 0), (6, .clo QaP [.ptr 0 5 0]), (7, vV ya), (12, vV n7), (13, .clo QaP [.ptr 0 5 0])], [bx 100 [(2, some [.val (.list ja aair2), .val (.list jb adis4)]), (3, some [vS bcar5, vI jg, vI jd, vI jf, vI jc, .val (.list je bleg12)]), (5, some [.lst true ni 83 mX])]], KK⟩)
theorem Qnh (lb n : Nat) (ja : Bool) (aair2 : LL) (jb : Bool) (adis4 : LL) (bcar5 : LB) (jg jd jf jc : Int) (je : Bool) (bleg12 : LL) (ya n7 : CV) (ni : Bool) (mX : LL) :
 QjN lb n ja aair2 jb adis4 bcar5 jg jd jf jc je bleg12 ya n7 ni mX =
 some (.list ni mX) := (Qac _).trans (by kernel_rfl)
noncomputable def Qjy (lb n : Nat) (ja : Bool) (aair2 : LL) (jb : Bool) (adis4 : LL) (bcar5 : LB) (jg jd jf jc : Int) (je : Bool) (bleg12 : LL) (ya : CV) (kP : Bool) (l96 : LL) : Option CV :=
 hold (E0 lb n 0 990 (sub (B Qai) [1, 1, 1, 1, 1, 1, 1, 1, 1, 1]) (retK Tryz.prog (R Qai) 0 (outK (Qaf Tryz.prog Qai))) ⟨fr 100 [(0, .val (.agg [.list ja aair2, .list jb adis4])), (1, .val (.agg [.str bcar5, .int .i64 jg, .int .i64 jd, .int .i64 jf, .int .i64 jc, .list je bleg12])), (2, .ptr 0 2 0), (3, .ptr 0 3 0), (4, .lst true true 83 []), (5, .ptr 0 5 0), (6, .clo QaP [.ptr 0 5 0]), (7, vV ya), (13, .clo QaP [.ptr 0 5 0])], [bx 100 [(2, some [.val (.list ja aair2), .val (.list jb adis4)]), (3, some [vS bcar5, vI jg, vI jd, vI jf, vI jc, .val (.list je bleg12)]), (5, some [.lst true kP 83 l96])]], KK⟩)
theorem Qmj (lb n : Nat) (ja : Bool) (aair2 : LL) (jb : Bool) (adis4 : LL) (bcar5 : LB) (jg jd jf jc : Int) (je : Bool) (bleg12 : LL) (ya : CV) (kP : Bool) (l96 : LL) :
 Qjy lb n ja aair2 jb adis4 bcar5 jg jd jf jc je bleg12 ya kP l96 =
 some (.list kP l96) := (Qac _).trans (by kernel_rfl)
theorem Qg5 (lb n mO : Nat) (ja : Bool) (aair2 : LL) (jb : Bool) (adis4 : LL) (bcar5 : LB) (jg jd jf jc : Int) (je : Bool) (bleg12 : LL) (ya gC : CV) (mb : Bool × LL) (kP : Bool) (l96 : LL) (gA : Int) :
 Qd0 lb n (mO + 1) ja aair2 jb adis4 bcar5 jg jd jf jc je bleg12 ya gC mb kP l96 gA =
 bif (decide (gA < (mb.2.length : Int))) then
 (optO (CV.asL gC) fun qU =>
 optO (atL qU.2 gA) fun c116 =>
 chkO (c116.length == 1) (
 optO (c116[0]?) fun pc =>
 optO (C lb n Qbf [.agg [.list ja aair2, .list jb adis4], .list je bleg12, pc]) fun sw =>
 optO (CV.asB sw) fun sY =>
 bif (!sY) then
 (optO (C lb n QeQ [pc]) fun sD =>
 optO (CV.asS sD) fun s121 =>
 chkO (decide (([100, 97, 121, 32] : LB).length + s121.length ≤ 9223372036854775807)) (
 chkO (room (l96.length + 1) 24) (
 QjN lb n ja aair2 jb adis4 bcar5 jg jd jf jc je bleg12 ya pc (kP && false) (l96 ++ [[CV.int .i64 13, CV.str (([100, 97, 121, 32] : LB) ++ s121)]]))))
 else
 (Qd0 lb n mO ja aair2 jb adis4 bcar5 jg jd jf jc je bleg12 ya gC mb kP l96 (IntKind.wrap .i64 (gA + 1)))))
 else
 (Qjy lb n ja aair2 jb adis4 bcar5 jg jd jf jc je bleg12 ya kP l96 ) := (Qac _).trans (by kernel_rfl)
theorem QmN (lb n : Nat) (ja : Bool) (aair2 : LL) (jb : Bool) (adis4 : LL) (bcar5 : LB) (jg jd jf jc : Int) (je : Bool) (bleg12 : LL) (ya : CV) (kP : Bool) (l96 : LL) :
 Qj4 lb n ja aair2 jb adis4 bcar5 jg jd jf jc je bleg12 ya kP l96 =
 bif (decide ((l96.length : Int) > 0)) then
 (some (.list kP l96))
 else
 (optO (C lb n Qgh [.agg [.int .i64 jd, .int .i64 jf, .int .i64 jc]]) fun gC =>
 optO (CV.asL gC) fun mb =>
 Qd0 lb n n ja aair2 jb adis4 bcar5 jg jd jf jc je bleg12 ya gC mb kP l96 0) := (Qac _).trans (by kernel_rfl)
theorem Qg2 (lb n k8 : Nat) (ja : Bool) (aair2 : LL) (jb : Bool) (adis4 : LL) (bcar5 : LB) (jg jd jf jc : Int) (je : Bool) (bleg12 : LL) (ya : CV) (i46 : Int) (oj : Bool) (oN : LL) :
 Qdo lb n (k8 + 1) ja aair2 jb adis4 bcar5 jg jd jf jc je bleg12 ya i46 oj oN =
 bif (decide (i46 < (bleg12.length : Int))) then
 (optO (C lb n QbX [.agg [.list ja aair2, .list jb adis4], .list je bleg12, .int .i64 i46]) fun gG =>
 optO (CV.asL gG) fun gj =>
 Qfh lb n n k8 ja aair2 jb adis4 bcar5 jg jd jf jc je bleg12 ya i46 gG gj 0 oj oN)
 else
 (Qj4 lb n ja aair2 jb adis4 bcar5 jg jd jf jc je bleg12 ya oj oN) := (Qac _).trans (by kernel_rfl)
theorem Qh3 (lb n : Nat) (ja : Bool) (aair2 : LL) (jb : Bool) (adis4 : LL) (bcar5 : LB) (jg jd jf jc : Int) (je : Bool) (bleg12 : LL) (ya : CV) (kR : Bool) (l24 : LL) :
 Qfe lb n ja aair2 jb adis4 bcar5 jg jd jf jc je bleg12 ya kR l24 =
 bif ((bleg12.length : Int) == 0) then
 (chkO (room (l24.length + 1) 24) (
 some (.list (kR && false) (l24 ++ [[CV.int .i64 4, CV.str [108, 101, 103, 115]]]))))
 else
 (bif (decide ((bleg12.length : Int) > 6)) then
 (chkO (room (l24.length + 1) 24) (
 some (.list (kR && false) (l24 ++ [[CV.int .i64 4, CV.str [108, 101, 103, 115]]]))))
 else
 (Qdo lb n n ja aair2 jb adis4 bcar5 jg jd jf jc je bleg12 ya 0 kR l24)) := (Qac _).trans (by kernel_rfl)
theorem Qmy (lb n : Nat) (ja : Bool) (aair2 : LL) (jb : Bool) (adis4 : LL) (bcar5 : LB) (jg jd jf jc : Int) (je : Bool) (bleg12 : LL) (nR : Bool) (l19 : LL) :
 Qfg lb n ja aair2 jb adis4 bcar5 jg jd jf jc je bleg12 nR l19 =
 optO (C lb n Qbz [.agg [.int .i64 jd, .int .i64 jf, .int .i64 jc]]) fun wZ =>
 optO (CV.asI .i64 wZ) fun i21 =>
 bif (i21 != 0) then
 (chkO (CV.isCell wZ) (
 chkO (room (l19.length + 1) 24) (
 Qfe lb n ja aair2 jb adis4 bcar5 jg jd jf jc je bleg12 wZ (nR && false) (l19 ++ [[wZ, CV.str [112, 101, 114, 105, 111, 100]]]))))
 else
 (Qfe lb n ja aair2 jb adis4 bcar5 jg jd jf jc je bleg12 wZ nR l19) := (Qac _).trans (by kernel_rfl)
theorem Qnp (lb n : Nat) (ja : Bool) (aair2 : LL) (jb : Bool) (adis4 : LL) (bcar5 : LB) (jg jd jf jc : Int) (je : Bool) (bleg12 : LL) (yT : Bool) (l17 : LL) :
 Qg0 lb n ja aair2 jb adis4 bcar5 jg jd jf jc je bleg12 yT l17 =
 bif (decide (jg < 1)) then
 (chkO (room (l17.length + 1) 24) (
 Qfg lb n ja aair2 jb adis4 bcar5 jg jd jf jc je bleg12 (yT && false) (l17 ++ [[CV.int .i64 2, CV.str [110, 117, 109, 98, 101, 114]]])))
 else
 (bif (decide (jg > 9999)) then
 (chkO (room (l17.length + 1) 24) (
 Qfg lb n ja aair2 jb adis4 bcar5 jg jd jf jc je bleg12 (yT && false) (l17 ++ [[CV.int .i64 2, CV.str [110, 117, 109, 98, 101, 114]]])))
 else
 (Qfg lb n ja aair2 jb adis4 bcar5 jg jd jf jc je bleg12 yT l17)) := (Qac _).trans (by kernel_rfl)
theorem QqN (lb n : Nat) (ja : Bool) (aair2 : LL) (jb : Bool) (adis4 : LL) (bcar5 : LB) (jg jd jf jc : Int) (je : Bool) (bleg12 : LL) :
 top lb n Qai [.agg [.list ja aair2, .list jb adis4], .agg [.str bcar5, .int .i64 jg, .int .i64 jd, .int .i64 jf, .int .i64 jc, .list je bleg12]] =
 optO (C lb n Qhx [.str bcar5]) fun o4 =>
 optO (CV.asB o4) fun kf =>
 bif (!kf) then
 (Qg0 lb n ja aair2 jb adis4 bcar5 jg jd jf jc je bleg12 false [[CV.int .i64 5, CV.str [99, 97, 114, 114, 105, 101, 114]]])
 else
 (Qg0 lb n ja aair2 jb adis4 bcar5 jg jd jf jc je bleg12 true []) := by kernel_rfl
theorem Qoc (lb n : Nat) (a1 : Int) :
 top lb n QeQ [.int .i64 a1] =
 optO (C lb n QaR [.int .i64 a1]) fun r2 =>
 optO (CV.asT r2) fun t3 =>
 optO (t3[0]?) fun x4 =>
 optO (CV.asT r2) fun t5 =>
 optO (t5[1]?) fun x6 =>
 optO (CV.asT r2) fun t7 =>
 optO (t7[2]?) fun x9 =>
 optO (CV.asI .i64 x4) fun ko =>
 bif (ko == 0) then
 (some (.str []))
 else
 (optO (CV.asI .i64 x4) fun vo =>
 optO (C lb n QdJ [.int .i64 (IntKind.wrap .i64 (Int.tdiv vo 100))]) fun yN =>
 optO (CV.asI .i64 x4) fun kg =>
 optO (C lb n QdJ [.int .i64 (Int.tmod kg 100)]) fun kr =>
 optO (CV.asS yN) fun s15 =>
 optO (CV.asS kr) fun s17 =>
 chkO (decide (s15.length + s17.length ≤ 9223372036854775807)) (
 chkO (decide ((s15 ++ s17).length + [45].length ≤ 9223372036854775807)) (
 optO (C lb n QdJ [x6]) fun mg =>
 optO (CV.asS mg) fun s19 =>
 chkO (decide (((s15 ++ s17) ++ [45]).length + s19.length ≤ 9223372036854775807)) (
 chkO (decide ((((s15 ++ s17) ++ [45]) ++ s19).length + [45].length ≤ 9223372036854775807)) (
 optO (C lb n QdJ [x9]) fun wZ =>
 optO (CV.asS wZ) fun s21 =>
 chkO (decide (((((s15 ++ s17) ++ [45]) ++ s19) ++ [45]).length + s21.length ≤ 9223372036854775807)) (
 some (.str (((((s15 ++ s17) ++ [45]) ++ s19) ++ [45]) ++ s21)))))))) := by kernel_rfl
noncomputable def QeP (lb n k7 : Nat) (a1 i4 : Int) : Option CV :=
 hold (Qas (E0 lb n 0 994) 0 (Qad (sub (B QaR) [1, 1, 1, 0, 0, 0]) ++ []) [] (sub (B QaR) [1, 1, 1, 0, 0, 0]) (Qak 0 (seqK (E0 lb n 0 996) (sub (B QaR) [1, 1, 1, 0]) (sub (B QaR) [1, 1, 1, 1]) (retK Tryz.prog (R QaR) 0 (outK (Qaf Tryz.prog QaR))))) k7 ⟨fr 48 [(0, vI a1), (2, vI 0), (3, vI 0), (4, vI 0), (5, vI i4), (15, vI a1), (16, .val (.int .i64 (IntKind.wrap .i64 (Int.tdiv a1 366)))), (17, .val (.int .i64 (IntKind.wrap .i64 (2000 + (IntKind.wrap .i64 (Int.tdiv a1 366))))))], [bx 48 []], KK⟩)
noncomputable def Qjs (lb n : Nat) (a1 vo : Int) : Option CV :=
 hold (E0 lb n 0 996 (sub (B QaR) [1, 1, 1, 1]) (retK Tryz.prog (R QaR) 0 (outK (Qaf Tryz.prog QaR))) ⟨fr 48 [(0, vI a1), (2, vI 0), (3, vI 0), (4, vI 0), (5, vI vo), (15, vI a1), (16, .val (.int .i64 (IntKind.wrap .i64 (Int.tdiv a1 366)))), (17, .val (.int .i64 (IntKind.wrap .i64 (2000 + (IntKind.wrap .i64 (Int.tdiv a1 366))))))], [bx 48 []], KK⟩)
noncomputable def QeJ (lb n ga : Nat) (a1 vo : Int) (yN : CV) (kg yG vr : Int) : Option CV :=
 hold (Qas (E0 lb n 0 991) 0 (Qad (sub (B QaR) [1, 1, 1, 1, 1, 0, 1, 0, 0]) ++ [7, 8]) [] (sub (B QaR) [1, 1, 1, 1, 1, 0, 1, 0, 0]) (Qak 2 (seqK (E0 lb n 0 994) (sub (B QaR) [1, 1, 1, 1, 1, 0]) (sub (B QaR) [1, 1, 1, 1, 1, 1]) (retK Tryz.prog (R QaR) 0 (outK (Qaf Tryz.prog QaR))))) ga ⟨fr 48 [(0, vI a1), (2, vI 0), (3, vI 0), (4, vI 0), (5, vI vo), (6, vI yG), (15, vI a1), (16, .val (.int .i64 (IntKind.wrap .i64 (Int.tdiv a1 366)))), (17, .val (.int .i64 (IntKind.wrap .i64 (2000 + (IntKind.wrap .i64 (Int.tdiv a1 366)))))), (25, vI a1), (26, vI vo), (27, vV yN), (28, .val (.int .i64 (IntKind.wrap .i64 (a1 - kg)))), (29, vI vr)], [bx 48 []], KK⟩)
noncomputable def Qo8 (lb n : Nat) (a1 vo : Int) (yN : CV) (kg gm : Int) : Option CV :=
 hold (E0 lb n 0 994 (sub (B QaR) [1, 1, 1, 1, 1, 1]) (retK Tryz.prog (R QaR) 0 (outK (Qaf Tryz.prog QaR))) ⟨fr 48 [(0, vI a1), (2, vI 0), (3, vI 0), (4, vI 0), (5, vI vo), (6, vI gm), (15, vI a1), (16, .val (.int .i64 (IntKind.wrap .i64 (Int.tdiv a1 366)))), (17, .val (.int .i64 (IntKind.wrap .i64 (2000 + (IntKind.wrap .i64 (Int.tdiv a1 366)))))), (25, vI a1), (26, vI vo), (27, vV yN), (28, .val (.int .i64 (IntKind.wrap .i64 (a1 - kg))))], [bx 48 []], KK⟩)
theorem Qgv (lb n ga : Nat) (a1 vo : Int) (yN : CV) (kg yG vr : Int) :
 QeJ lb n (ga + 1) a1 vo yN kg yG vr =
 bif (decide (vr < 12)) then
 (optO (C lb n Qei [.int .i64 vo, .int .i64 (IntKind.wrap .i64 (vr + 1))]) fun kd =>
 optO (CV.asI .i64 kd) fun gq =>
 bif (decide (yG < gq)) then
 (some (.tup [.int .i64 vo, .int .i64 (IntKind.wrap .i64 (vr + 1)), .int .i64 (IntKind.wrap .i64 (yG + 1))]))
 else
 (optO (CV.asI .i64 kd) fun kU =>
 QeJ lb n ga a1 vo yN kg (IntKind.wrap .i64 (yG - kU)) (IntKind.wrap .i64 (vr + 1))))
 else
 (Qo8 lb n a1 vo yN kg yG) := (Qac _).trans (by kernel_rfl)
theorem Qmi (lb n : Nat) (a1 vo : Int) :
 Qjs lb n a1 vo =
 optO (C lb n QeT [.int .i64 vo]) fun yN =>
 optO (CV.asI .i64 yN) fun kg =>
 QeJ lb n n a1 vo yN kg (IntKind.wrap .i64 (a1 - kg)) 0 := (Qac _).trans (by kernel_rfl)
theorem Qgw (lb n k7 : Nat) (a1 i4 : Int) :
 QeP lb n (k7 + 1) a1 i4 =
 optO (C lb n QeT [.int .i64 (IntKind.wrap .i64 (i4 + 1))]) fun r9 =>
 optO (CV.asI .i64 r9) fun ko =>
 bif (decide (ko ≤ a1)) then
 (QeP lb n k7 a1 (IntKind.wrap .i64 (i4 + 1)))
 else
 (Qjs lb n a1 i4) := (Qac _).trans (by kernel_rfl)
theorem Qpe (lb n : Nat) (a1 : Int) :
 top lb n QaR [.int .i64 a1] =
 bif (decide (a1 < 0)) then
 (some (.tup [.int .i64 0, .int .i64 0, .int .i64 0]))
 else
 (bif (decide (a1 ≥ 36525)) then
 (some (.tup [.int .i64 0, .int .i64 0, .int .i64 0]))
 else
 (QeP lb n n a1 (IntKind.wrap .i64 (2000 + (IntKind.wrap .i64 (Int.tdiv a1 366)))))) := by kernel_rfl
theorem Qqa (lb n : Nat) (a1 : Int) :
 top lb n QdJ [.int .i64 a1] =
 optO (bytesOf [[CV.int .u8 (IntKind.wrap .u8 (IntKind.wrap .i64 (48 + (IntKind.wrap .i64 (Int.tdiv a1 10)))))], [CV.int .u8 (IntKind.wrap .u8 (IntKind.wrap .i64 (48 + (Int.tmod a1 10))))]]) fun s2 =>
 some (.str s2) := by kernel_rfl
theorem Qoe (lb n : Nat) (a1 : Int) :
 top lb n QeT [.int .i64 a1] =
 some (.int .i64 (IntKind.wrap .i64 ((IntKind.wrap .i64 (365 * (IntKind.wrap .i64 (a1 - 2000)))) + (IntKind.wrap .i64 (Int.tdiv (IntKind.wrap .i64 ((IntKind.wrap .i64 (a1 - 2000)) + 3)) 4))))) := by kernel_rfl
theorem Qub (lb n : Nat) (a1 : Int) :
 top lb n QhO [.int .i64 a1] =
 optO (C lb n Qcy [.int .i64 a1]) fun r2 =>
 optO (CV.asT r2) fun t3 =>
 optO (t3[0]?) fun x4 =>
 optO (CV.asT r2) fun t5 =>
 optO (t5[1]?) fun x6 =>
 optO (CV.asT r2) fun t7 =>
 optO (t7[2]?) fun x9 =>
 optO (CV.asI .i64 x4) fun ko =>
 bif (ko == 0) then
 (some (.str []))
 else
 (optO (CV.asI .i64 x4) fun vo =>
 optO (C lb n QgB [.int .i64 (IntKind.wrap .i64 (Int.tdiv vo 100))]) fun yN =>
 optO (CV.asI .i64 x4) fun kg =>
 optO (C lb n QgB [.int .i64 (Int.tmod kg 100)]) fun kr =>
 optO (CV.asS yN) fun s15 =>
 optO (CV.asS kr) fun s17 =>
 chkO (decide (s15.length + s17.length ≤ 9223372036854775807)) (
 chkO (decide ((s15 ++ s17).length + [45].length ≤ 9223372036854775807)) (
 optO (C lb n QgB [x6]) fun mg =>
 optO (CV.asS mg) fun s19 =>
 chkO (decide (((s15 ++ s17) ++ [45]).length + s19.length ≤ 9223372036854775807)) (
 chkO (decide ((((s15 ++ s17) ++ [45]) ++ s19).length + [45].length ≤ 9223372036854775807)) (
 optO (C lb n QgB [x9]) fun wZ =>
 optO (CV.asS wZ) fun s21 =>
 chkO (decide (((((s15 ++ s17) ++ [45]) ++ s19) ++ [45]).length + s21.length ≤ 9223372036854775807)) (
 some (.str (((((s15 ++ s17) ++ [45]) ++ s19) ++ [45]) ++ s21)))))))) := by kernel_rfl
noncomputable def Qf7 (lb n oP : Nat) (yD yG vr : Int) : Option CV :=
 hold (Qas (E0 lb n 0 994) 0 (Qad (sub (B Qcy) [1, 1, 1, 0, 0, 0]) ++ []) [] (sub (B Qcy) [1, 1, 1, 0, 0, 0]) (Qak 0 (seqK (E0 lb n 0 996) (sub (B Qcy) [1, 1, 1, 0]) (sub (B Qcy) [1, 1, 1, 1]) (retK Tryz.prog (R Qcy) 0 (outK (Qaf Tryz.prog Qcy))))) oP ⟨fr 33 [(0, vI yD), (2, vI 0), (3, vI 0), (4, vI 0), (5, vI yG), (6, vI vr)], [bx 33 []], KK⟩)
noncomputable def QoL (lb n : Nat) (od gI vd : Int) : Option CV :=
 hold (E0 lb n 0 996 (sub (B Qcy) [1, 1, 1, 1]) (retK Tryz.prog (R Qcy) 0 (outK (Qaf Tryz.prog Qcy))) ⟨fr 33 [(0, vI od), (2, vI 0), (3, vI 0), (4, vI 0), (5, vI gI), (6, vI vd)], [bx 33 []], KK⟩)
theorem QrE (lb n : Nat) (od gI vd : Int) :
 QoL lb n od gI vd =
 some (.tup [.int .i64 gI, .int .i64 vd, .int .i64 (IntKind.wrap .i64 (od + 1))]) := (Qac _).trans (by kernel_rfl)
theorem Qgm (lb n oP : Nat) (yD yG vr : Int) :
 Qf7 lb n (oP + 1) yD yG vr =
 optO (C lb n QcS [.int .i64 yG, .int .i64 vr]) fun gE =>
 optO (CV.asI .i64 gE) fun kU =>
 bif (decide (yD ≥ kU)) then
 (optO (C lb n QcS [.int .i64 yG, .int .i64 vr]) fun yV =>
 optO (CV.asI .i64 yV) fun nE =>
 bif ((IntKind.wrap .i64 (vr + 1)) == 13) then
 (Qf7 lb n oP  (IntKind.wrap .i64 (yD - nE)) (IntKind.wrap .i64 (yG + 1)) 1)
 else
 (Qf7 lb n oP  (IntKind.wrap .i64 (yD - nE)) yG (IntKind.wrap .i64 (vr + 1))))
 else
 (QoL lb n  yD yG vr) := (Qac _).trans (by kernel_rfl)
theorem Qu2 (lb n : Nat) (a1 : Int) :
 top lb n Qcy [.int .i64 a1] =
 bif (decide (a1 < 0)) then
 (some (.tup [.int .i64 0, .int .i64 0, .int .i64 0]))
 else
 (bif (decide (a1 ≥ 36525)) then
 (some (.tup [.int .i64 0, .int .i64 0, .int .i64 0]))
 else
 (Qf7 lb n n  a1 2000 1)) := by kernel_rfl
theorem Qwf (lb n : Nat) (a1 : Int) :
 top lb n QgB [.int .i64 a1] =
 optO (bytesOf [[CV.int .u8 (IntKind.wrap .u8 (IntKind.wrap .i64 (48 + (IntKind.wrap .i64 (Int.tdiv a1 10)))))], [CV.int .u8 (IntKind.wrap .u8 (IntKind.wrap .i64 (48 + (Int.tmod a1 10))))]]) fun s2 =>
 some (.str s2) := by kernel_rfl
noncomputable def Qe4 (lb n : Nat) (a1 b2 : Int) (b3 : Bool) : Option CV :=
 hold (E0 lb n 0 995 (sub (B QcS) [1, 0, 1, 0, 1]) (Qak 0 (seqK (E0 lb n 0 998) (sub (B QcS) [1, 0]) (sub (B QcS) [1, 1]) (retK Tryz.prog (R QcS) 0 (outK (Qaf Tryz.prog QcS))))) ⟨fr 16 [(0, vI a1), (1, vI b2), (4, vI 0), (5, vI b2), (6, vB b3)], [bx 16 []], KK⟩)
theorem Qpa (lb n : Nat) (a1 b2 : Int) (b3 : Bool) :
 Qe4 lb n a1 b2 b3 =
 bif b3 then
 (some (.int .i64 30))
 else
 (bif (b2 == 2) then
 (bif ((Int.tmod a1 4) == 0) then
 (some (.int .i64 29))
 else
 (some (.int .i64 28)))
 else
 (some (.int .i64 31))) := (Qac _).trans (by kernel_rfl)
theorem Qs1 (lb n : Nat) (a1 b2 : Int) :
 top lb n QcS [.int .i64 a1, .int .i64 b2] =
 bif (b2 == 4) then
 (Qe4 lb n a1 b2 (b2 == 4))
 else
 (bif (b2 == 6) then
 (Qe4 lb n a1 b2 (b2 == 6))
 else
 (bif (b2 == 9) then
 (Qe4 lb n a1 b2 (b2 == 9))
 else
 (Qe4 lb n a1 b2 (b2 == 11)))) := by kernel_rfl
end Go.Proofs
