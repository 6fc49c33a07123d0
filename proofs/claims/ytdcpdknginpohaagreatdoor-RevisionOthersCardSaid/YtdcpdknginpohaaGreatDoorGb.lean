/- Equations of functions, printed by program. Conditions: none. -/
import Derived.Test.YtdcpdknginpohaaGreatDoorEv
namespace Go.Proofs
open Go.Am
set_option maxRecDepth 100000
set_option linter.unusedVariables false
noncomputable def flight_leg_J1 :=
 fun lb n (ja : Bool) (aair2 : LL) (jb : Bool) (adis4 : LL) (jI : Bool) (b6 : LL) c7 wz wj (c9 : List CV) jQ wd wg wA yB yK wJ yG wx wb x23 w4 wI wQ wC yt yA yr yE (k8 : Bool) (l42 : LL) =>
 hold (E0 lb n 0 994 (sub (B QbQ) [1, 1, 1, 1, 1, 1]) (retK Tryz.prog (R QbQ) 0 (outK (Qaj Tryz.prog QbQ))) ⟨fr 68 [(0, .val (.agg [.list ja aair2, .list jb adis4])), (1, .val (.list jI b6)), (2, vI c7), (3, .ptr 0 3 0), (6, .lst true true 36 []), (7, .lst true k8 36 l42), (8, .ptr 0 8 0), (9, .ptr 0 9 0), (10, vV wz), (11, .ptr 0 11 0), (12, vV wj), (13, .val (.list jI b6)), (14, vI c7), (15, .cptr c9 0), (16, .val (.agg [jQ, wd, wg, wA, yB])), (17, vV yK), (18, .val (.agg [.list ja aair2, .list jb adis4])), (19, .ptr 0 8 0), (20, vV jQ), (21, vV yK), (22, vV wJ), (23, vV wz), (24, vV yG), (25, .val (.agg [.list ja aair2, .list jb adis4])), (26, .ptr 0 8 1), (27, vV wd), (28, vV yG), (29, vV wx), (30, vV wj)], [bx 68 [(3, some [.val (.list ja aair2), .val (.list jb adis4)]), (8, some [.val jQ, .val wd, .val wg, .val wA, .val yB]), (9, some [.val wb, .val x23, .val w4, .val wI, .val wQ]), (11, some [.val wC, .val yt, .val yA, .val yr, .val yE])]], KK⟩)
noncomputable def QeR (lb n : Nat) (ja : Bool) (aair2 : LL) (jb : Bool) (adis4 : LL) (jI : Bool) (b6 : LL) (c7 : Int) (wz wj : CV) (c9 : List CV) (jQ wd wg wA yB yK wJ yG wx wb x23 w4 wI wQ wC yt yA yr yE : CV) (vY : Bool) (l45 : LL) : Option CV :=
 hold (E0 lb n 0 993 (sub (B QbQ) [1, 1, 1, 1, 1, 1, 1]) (retK Tryz.prog (R QbQ) 0 (outK (Qaj Tryz.prog QbQ))) ⟨fr 68 [(0, .val (.agg [.list ja aair2, .list jb adis4])), (1, .val (.list jI b6)), (2, vI c7), (3, .ptr 0 3 0), (6, .lst true true 36 []), (7, .lst true vY 36 l45), (8, .ptr 0 8 0), (9, .ptr 0 9 0), (10, vV wz), (11, .ptr 0 11 0), (12, vV wj), (13, .val (.list jI b6)), (14, vI c7), (15, .cptr c9 0), (16, .val (.agg [jQ, wd, wg, wA, yB])), (17, vV yK), (18, .val (.agg [.list ja aair2, .list jb adis4])), (19, .ptr 0 8 0), (20, vV jQ), (21, vV yK), (22, vV wJ), (23, vV wz), (24, vV yG), (25, .val (.agg [.list ja aair2, .list jb adis4])), (26, .ptr 0 8 1), (27, vV wd), (28, vV yG), (29, vV wx), (30, vV wj)], [bx 68 [(3, some [.val (.list ja aair2), .val (.list jb adis4)]), (8, some [.val jQ, .val wd, .val wg, .val wA, .val yB]), (9, some [.val wb, .val x23, .val w4, .val wI, .val wQ]), (11, some [.val wC, .val yt, .val yA, .val yr, .val yE])]], KK⟩)
noncomputable def QeV (lb n : Nat) (ja : Bool) (aair2 : LL) (jb : Bool) (adis4 : LL) (jI : Bool) (b6 : LL) (c7 : Int) (wz wj : CV) (c9 : List CV) (jQ wd wg wA yB yK wJ yG wx wb x23 w4 wI wQ wC yt yA yr yE : CV) (gy : Bool) (l49 : LL) : Option CV :=
 hold (E0 lb n 0 992 (sub (B QbQ) [1, 1, 1, 1, 1, 1, 1, 1]) (retK Tryz.prog (R QbQ) 0 (outK (Qaj Tryz.prog QbQ))) ⟨fr 68 [(0, .val (.agg [.list ja aair2, .list jb adis4])), (1, .val (.list jI b6)), (2, vI c7), (3, .ptr 0 3 0), (6, .lst true true 36 []), (7, .lst true gy 36 l49), (8, .ptr 0 8 0), (9, .ptr 0 9 0), (10, vV wz), (11, .ptr 0 11 0), (12, vV wj), (13, .val (.list jI b6)), (14, vI c7), (15, .cptr c9 0), (16, .val (.agg [jQ, wd, wg, wA, yB])), (17, vV yK), (18, .val (.agg [.list ja aair2, .list jb adis4])), (19, .ptr 0 8 0), (20, vV jQ), (21, vV yK), (22, vV wJ), (23, vV wz), (24, vV yG), (25, .val (.agg [.list ja aair2, .list jb adis4])), (26, .ptr 0 8 1), (27, vV wd), (28, vV yG), (29, vV wx), (30, vV wj)], [bx 68 [(3, some [.val (.list ja aair2), .val (.list jb adis4)]), (8, some [.val jQ, .val wd, .val wg, .val wA, .val yB]), (9, some [.val wb, .val x23, .val w4, .val wI, .val wQ]), (11, some [.val wC, .val yt, .val yA, .val yr, .val yE])]], KK⟩)
theorem QoP (lb n : Nat) (ja : Bool) (aair2 : LL) (jb : Bool) (adis4 : LL) (jI : Bool) (b6 : LL) (c7 : Int) (wz wj : CV) (c9 : List CV) (jQ wd wg wA yB yK wJ yG wx wb x23 w4 wI wQ wC yt yA yr yE : CV) (gy : Bool) (l49 : LL) :
 QeV lb n ja aair2 jb adis4 jI b6 c7 wz wj c9 jQ wd wg wA yB yK wJ yG wx wb x23 w4 wI wQ wC yt yA yr yE gy l49 =
 optO (C lb n QbD [wg]) fun zI =>
 optO (CV.asB zI) fun sQ =>
 bif (!sQ) then
 (chkO (room (l49.length + 1) 8) (
 some (.list (gy && false) (l49 ++ [[CV.int .i64 2]]))))
 else
 (optO (C lb n QbD [wA]) fun zD =>
 optO (CV.asB zD) fun sS =>
 bif (!sS) then
 (chkO (room (l49.length + 1) 8) (
 some (.list (gy && false) (l49 ++ [[CV.int .i64 2]]))))
 else
 (some (.list gy l49))) := (Qad _).trans (by kernel_rfl)
theorem Qo9 (lb n : Nat) (ja : Bool) (aair2 : LL) (jb : Bool) (adis4 : LL) (jI : Bool) (b6 : LL) (c7 : Int) (wz wj : CV) (c9 : List CV) (jQ wd wg wA yB yK wJ yG wx wb x23 w4 wI wQ wC yt yA yr yE : CV) (vY : Bool) (l45 : LL) :
 QeR lb n ja aair2 jb adis4 jI b6 c7 wz wj c9 jQ wd wg wA yB yK wJ yG wx wb x23 w4 wI wQ wC yt yA yr yE vY l45 =
 optO (C lb n QaS [.list jI b6, .int .i64 c7]) fun zK =>
 optO (CV.asB zK) fun kv =>
 bif (!kv) then
 (chkO (room (l45.length + 1) 8) (
 QeV lb n ja aair2 jb adis4 jI b6 c7 wz wj c9 jQ wd wg wA yB yK wJ yG wx wb x23 w4 wI wQ wC yt yA yr yE (vY && false) (l45 ++ [[CV.int .i64 15]])))
 else
 (QeV lb n ja aair2 jb adis4 jI b6 c7 wz wj c9 jQ wd wg wA yB yK wJ yG wx wb x23 w4 wI wQ wC yt yA yr yE vY l45) := (Qad _).trans (by kernel_rfl)
theorem QoX (lb n : Nat) (ja : Bool) (aair2 : LL) (jb : Bool) (adis4 : LL) (jI : Bool) (b6 : LL) (c7 : Int) (wz wj : CV) (c9 : List CV) (jQ wd wg wA yB yK wJ yG wx wb x23 w4 wI wQ wC yt yA yr yE : CV) (k8 : Bool) (l42 : LL) :
 flight_leg_J1 lb n ja aair2 jb adis4 jI b6 c7 wz wj c9 jQ wd wg wA yB yK wJ yG wx wb x23 w4 wI wQ wC yt yA yr yE k8 l42 =
 optO (CV.asB wz) fun pN =>
 bif (!pN) then
 (chkO (room (l42.length + 1) 8) (
 QeR lb n ja aair2 jb adis4 jI b6 c7 wz wj c9 jQ wd wg wA yB yK wJ yG wx wb x23 w4 wI wQ wC yt yA yr yE (k8 && false) (l42 ++ [[CV.int .i64 14]])))
 else
 (optO (CV.asB wj) fun zG =>
 bif (!zG) then
 (chkO (room (l42.length + 1) 8) (
 QeR lb n ja aair2 jb adis4 jI b6 c7 wz wj c9 jQ wd wg wA yB yK wJ yG wx wb x23 w4 wI wQ wC yt yA yr yE (k8 && false) (l42 ++ [[CV.int .i64 14]])))
 else
 (QeR lb n ja aair2 jb adis4 jI b6 c7 wz wj c9 jQ wd wg wA yB yK wJ yG wx wb x23 w4 wI wQ wC yt yA yr yE k8 l42)) := (Qad _).trans (by kernel_rfl)
theorem Qsd (lb n : Nat) (ja : Bool) (aair2 : LL) (jb : Bool) (adis4 : LL) (jI : Bool) (b6 : LL) (c7 : Int) :
 top lb n QbQ [.agg [.list ja aair2, .list jb adis4], .list jI b6, .int .i64 c7] =
 optO (atL b6 c7) fun c9 =>
 chkO (c9.length == 5) (
 optO (c9[0]?) fun jQ =>
 optO (c9[1]?) fun wd =>
 optO (c9[2]?) fun wg =>
 optO (c9[3]?) fun wA =>
 optO (c9[4]?) fun yB =>
 optO (C lb n Qbh [.agg [.list ja aair2, .list jb adis4], jQ]) fun yK =>
 optO (CV.asT yK) fun sH =>
 optO (sH[0]?) fun wJ =>
 optO (CV.asT yK) fun zX =>
 optO (zX[1]?) fun wz =>
 optO (CV.asA wJ) fun c21 =>
 chkO (c21.length == 5) (
 optO (c21[0]?) fun wb =>
 optO (c21[1]?) fun x23 =>
 optO (c21[2]?) fun w4 =>
 optO (c21[3]?) fun wI =>
 optO (c21[4]?) fun wQ =>
 optO (C lb n Qbh [.agg [.list ja aair2, .list jb adis4], wd]) fun yG =>
 optO (CV.asT yG) fun zu =>
 optO (zu[0]?) fun wx =>
 optO (CV.asT yG) fun sO =>
 optO (sO[1]?) fun wj =>
 optO (CV.asA wx) fun c33 =>
 chkO (c33.length == 5) (
 optO (c33[0]?) fun wC =>
 optO (c33[1]?) fun yt =>
 optO (c33[2]?) fun yA =>
 optO (c33[3]?) fun yr =>
 optO (c33[4]?) fun yE =>
 optO (C lb n QhJ [yB, .int .i64 3, .int .i64 3]) fun s4 =>
 optO (CV.asB s4) fun sD =>
 bif (!sD) then
 (flight_leg_J1 lb n ja aair2 jb adis4 jI b6 c7 wz wj c9 jQ wd wg wA yB yK wJ yG wx wb x23 w4 wI wQ wC yt yA yr yE false [[CV.int .i64 5]])
 else
 (flight_leg_J1 lb n ja aair2 jb adis4 jI b6 c7 wz wj c9 jQ wd wg wA yB yK wJ yG wx wb x23 w4 wI wQ wC yt yA yr yE true [])))) := by kernel_rfl
noncomputable def QcW (lb n nz : Nat) (jO : Bool) (a2 : LL) (b3 ka : Int) : Option CV :=
 hold (Qau (E2 lb n 2 995) 2 (Qae (sub (B Qbg) [1, 0, 1, 0, 0]) ++ [5]) [] (sub (B Qbg) [1, 0, 1, 0, 0]) (Qal 0 (seqK (E2 lb n 2 998) (sub (B Qbg) [1, 0]) (sub (B Qbg) [1, 1]) (retK Tryz.prog (R Qbg) 2 (inlK (opAt (QaA (sub (B QaD) [1, 0])) 2) ⟨fr 9 [(0, .val (.list jO ((a2.take ((IntKind.wrap .i64 (b3 + 1)).toNat)).drop 0))), (1, .clo QbK [.ptr 0 2 0, .ptr 0 3 0]), (4, vB false), (5, .val (.list jO ((a2.take ((IntKind.wrap .i64 (b3 + 1)).toNat)).drop 0))), (6, .clo QbK [.ptr 0 2 0, .ptr 0 3 0])], [bx 28 [(2, some [.val (.list jO a2)]), (3, some [vI b3])], bx 9 []], KK⟩ (opsK Tryz.prog (C lb n) (I8 lb n) 1 (QaA (sub (B QaD) [1, 0])) ((QaA (sub (B QaD) [1, 0])).drop 3) ((seqK (E1 lb n 1 998) (sub (B QaD) [1, 0]) (sub (B QaD) [1, 1]) (retK Tryz.prog (R QaD) 1 (inlK (opAt (QaA (sub (B QaS) [1, 1, 0])) 5) ⟨fr 28 [(0, .val (.list jO a2)), (1, vI b3), (2, .ptr 0 2 0), (3, .ptr 0 3 0), (4, vB false), (21, .val (.list jO a2)), (22, vI b3), (23, .val (.int .i64 (IntKind.wrap .i64 (b3 + 1)))), (24, .val (.list jO ((a2.take ((IntKind.wrap .i64 (b3 + 1)).toNat)).drop 0))), (25, .clo QbK [.ptr 0 2 0, .ptr 0 3 0])], [bx 28 [(2, some [.val (.list jO a2)]), (3, some [vI b3])]], KK⟩ (opsK Tryz.prog (C lb n) (I9 lb n) 0 (QaA (sub (B QaS) [1, 1, 0])) ((QaA (sub (B QaS) [1, 1, 0])).drop 6) ((seqK (E0 lb n 0 997) (sub (B QaS) [1, 1, 0]) (sub (B QaS) [1, 1, 1]) (retK Tryz.prog (R QaS) 0 (outK (Qaj Tryz.prog QaS)))) .normal))))) .normal)))))) nz ⟨fr 19 [(0, .val (.list jO ((a2.take ((IntKind.wrap .i64 (b3 + 1)).toNat)).drop 0))), (1, .clo QbK [.ptr 0 2 0, .ptr 0 3 0]), (4, vI 0), (6, .val (.list jO ((a2.take ((IntKind.wrap .i64 (b3 + 1)).toNat)).drop 0))), (7, .val (.int .i64 (((a2.take ((IntKind.wrap .i64 (b3 + 1)).toNat)).drop 0).length : Int))), (8, vI ka)], [bx 28 [(2, some [.val (.list jO a2)]), (3, some [vI b3])], bx 9 [], bx 19 []], KK⟩)
noncomputable def Qib (lb n : Nat) (jO : Bool) (a2 : LL) (b3 : Int) : Option CV :=
 hold (E2 lb n 2 998 (sub (B Qbg) [1, 1]) (retK Tryz.prog (R Qbg) 2 (inlK (opAt (QaA (sub (B QaD) [1, 0])) 2) ⟨fr 9 [(0, .val (.list jO ((a2.take ((IntKind.wrap .i64 (b3 + 1)).toNat)).drop 0))), (1, .clo QbK [.ptr 0 2 0, .ptr 0 3 0]), (4, vB false), (5, .val (.list jO ((a2.take ((IntKind.wrap .i64 (b3 + 1)).toNat)).drop 0))), (6, .clo QbK [.ptr 0 2 0, .ptr 0 3 0])], [bx 28 [(2, some [.val (.list jO a2)]), (3, some [vI b3])], bx 9 []], KK⟩ (opsK Tryz.prog (C lb n) (I8 lb n) 1 (QaA (sub (B QaD) [1, 0])) ((QaA (sub (B QaD) [1, 0])).drop 3) ((seqK (E1 lb n 1 998) (sub (B QaD) [1, 0]) (sub (B QaD) [1, 1]) (retK Tryz.prog (R QaD) 1 (inlK (opAt (QaA (sub (B QaS) [1, 1, 0])) 5) ⟨fr 28 [(0, .val (.list jO a2)), (1, vI b3), (2, .ptr 0 2 0), (3, .ptr 0 3 0), (4, vB false), (21, .val (.list jO a2)), (22, vI b3), (23, .val (.int .i64 (IntKind.wrap .i64 (b3 + 1)))), (24, .val (.list jO ((a2.take ((IntKind.wrap .i64 (b3 + 1)).toNat)).drop 0))), (25, .clo QbK [.ptr 0 2 0, .ptr 0 3 0])], [bx 28 [(2, some [.val (.list jO a2)]), (3, some [vI b3])]], KK⟩ (opsK Tryz.prog (C lb n) (I9 lb n) 0 (QaA (sub (B QaS) [1, 1, 0])) ((QaA (sub (B QaS) [1, 1, 0])).drop 6) ((seqK (E0 lb n 0 997) (sub (B QaS) [1, 1, 0]) (sub (B QaS) [1, 1, 1]) (retK Tryz.prog (R QaS) 0 (outK (Qaj Tryz.prog QaS)))) .normal))))) .normal)))) ⟨fr 19 [(0, .val (.list jO ((a2.take ((IntKind.wrap .i64 (b3 + 1)).toNat)).drop 0))), (1, .clo QbK [.ptr 0 2 0, .ptr 0 3 0]), (4, vI 0)], [bx 28 [(2, some [.val (.list jO a2)]), (3, some [vI b3])], bx 9 [], bx 19 []], KK⟩)
theorem Qli (lb n : Nat) (jO : Bool) (a2 : LL) (b3 : Int) :
 Qib lb n jO a2 b3 =
 some (.bool true) := (Qad _).trans (by kernel_rfl)
theorem Qf2 (lb n nz : Nat) (jO : Bool) (a2 : LL) (b3 ka : Int) :
 QcW lb n (nz + 1) jO a2 b3 ka =
 bif (decide (ka < (((a2.take ((IntKind.wrap .i64 (b3 + 1)).toNat)).drop 0).length : Int))) then
 (optO (atL ((a2.take ((IntKind.wrap .i64 (b3 + 1)).toNat)).drop 0) ka) fun c35 =>
 chkO (c35.length == 5) (
 optO (c35[0]?) fun yA =>
 optO (c35[1]?) fun yr =>
 optO (c35[2]?) fun yE =>
 optO (c35[3]?) fun gw =>
 optO (c35[4]?) fun kX =>
 optO (atL a2 b3) fun c41 =>
 chkO (c41.length == 5) (
 optO (c41[1]?) fun gi =>
 optO (CV.asS yA) fun zA =>
 optO (CV.asS gi) fun s44 =>
 bif (zA == s44) then
 (some (.bool (!(decide (ka ≥ 0)))))
 else
 (QcW lb n nz jO a2 b3 (IntKind.wrap .i64 (ka + 1))))))
 else
 (Qib lb n jO a2 b3 ) := (Qad _).trans (by kernel_rfl)
theorem QnL (lb n : Nat) (jO : Bool) (a2 : LL) (b3 : Int) :
 top lb n QaS [.list jO a2, .int .i64 b3] =
 bif (decide (b3 > 0)) then
 (optO (atL a2 b3) fun c4 =>
 chkO (c4.length == 5) (
 optO (c4[0]?) fun x5 =>
 optO (atL a2 (IntKind.wrap .i64 (b3 - 1))) fun c6 =>
 chkO (c6.length == 5) (
 optO (c6[1]?) fun x7 =>
 optO (CV.asS x5) fun s9 =>
 optO (CV.asS x7) fun pH =>
 bif (!(s9 == pH)) then
 (some (.bool false))
 else
 (chkO (a2.all (·.length == 5)) (
 chkO (decide ((0 : Int) ≤ (IntKind.wrap .i64 (b3 + 1)) ∧ (IntKind.wrap .i64 (b3 + 1)) ≤ (a2.length : Int))) (
 QcW lb n n jO a2 b3 0))))))
 else
 (chkO (a2.all (·.length == 5)) (
 chkO (decide ((0 : Int) ≤ (IntKind.wrap .i64 (b3 + 1)) ∧ (IntKind.wrap .i64 (b3 + 1)) ≤ (a2.length : Int))) (
 QcW lb n n jO a2 b3 0))) := by kernel_rfl
noncomputable def QdR (lb n nw : Nat) (jO : Bool) (a2 : LL) (b3 yw : Int) : Option CV :=
 hold (Qau (E0 lb n 0 994) 0 (Qae (sub (B Qby) [1, 1, 0, 1, 0, 0]) ++ []) [] (sub (B Qby) [1, 1, 0, 1, 0, 0]) (Qal 0 (seqK (E0 lb n 0 997) (sub (B Qby) [1, 1, 0]) (sub (B Qby) [1, 1, 1]) (retK Tryz.prog (R Qby) 0 (outK (Qaj Tryz.prog Qby))))) nw ⟨fr 38 [(0, .val (.list jO a2)), (1, vI b3), (4, vB false), (5, vI yw)], [bx 38 []], KK⟩)
noncomputable def QlL (lb n : Nat) (jO : Bool) (a2 : LL) (b3 ph : Int) : Option CV :=
 hold (E0 lb n 0 997 (sub (B Qby) [1, 1, 1]) (retK Tryz.prog (R Qby) 0 (outK (Qaj Tryz.prog Qby))) ⟨fr 38 [(0, .val (.list jO a2)), (1, vI b3), (4, vB false), (5, vI ph)], [bx 38 []], KK⟩)
theorem QoZ (lb n : Nat) (jO : Bool) (a2 : LL) (b3 ph : Int) :
 QlL lb n jO a2 b3 ph =
 some (.bool false) := (Qad _).trans (by kernel_rfl)
theorem QhZ (lb n nw : Nat) (jO : Bool) (a2 : LL) (b3 yw : Int) :
 QdR lb n (nw + 1) jO a2 b3 yw =
 bif (decide (yw ≤ b3)) then
 (optO (atL a2 yw) fun c26 =>
 chkO (c26.length == 5) (
 optO (c26[0]?) fun wD =>
 optO (atL a2 b3) fun c28 =>
 chkO (c28.length == 5) (
 optO (c28[1]?) fun wx =>
 optO (CV.asS wD) fun gh =>
 optO (CV.asS wx) fun lr =>
 bif (gh == lr) then
 (some (.bool true))
 else
 (QdR lb n nw jO a2 b3 (IntKind.wrap .i64 (yw + 1))))))
 else
 (QlL lb n jO a2 b3 yw) := (Qad _).trans (by kernel_rfl)
theorem Qsy (lb n : Nat) (jO : Bool) (a2 : LL) (b3 : Int) :
 top lb n Qby [.list jO a2, .int .i64 b3] =
 bif (decide (b3 > 0)) then
 (optO (atL a2 b3) fun c4 =>
 chkO (c4.length == 5) (
 optO (c4[0]?) fun x5 =>
 optO (atL a2 (IntKind.wrap .i64 (b3 - 1))) fun c6 =>
 chkO (c6.length == 5) (
 optO (c6[1]?) fun x7 =>
 optO (CV.asS x5) fun s9 =>
 optO (CV.asS x7) fun pH =>
 bif (!(s9 == pH)) then
 (some (.bool true))
 else
 (QdR lb n n jO a2 b3 0))))
 else
 (QdR lb n n jO a2 b3 0) := by kernel_rfl
noncomputable def Qki (lb n : Nat) (j8 : LB) (j7 jD jM jE : Int) (j3 : Bool) (aleg7 : LL) (gA : Bool) (l12 : LL) : Option CV :=
 hold (E0 lb n 0 997 (sub (B QcN) [1, 1, 1]) (QiV (R QcN) 83) ⟨fr 50 [(0, .val (.agg [.str j8, .int .i64 j7, .int .i64 jD, .int .i64 jM, .int .i64 jE, .list j3 aleg7])), (1, .ptr 0 1 0), (2, .lst true true 83 []), (3, .lst true gA 83 l12)], [bx 50 [(1, some [vS j8, vI j7, vI jD, vI jM, vI jE, .val (.list j3 aleg7)])]], KK⟩)
noncomputable def QhH (lb n : Nat) (j8 : LB) (j7 jD jM jE : Int) (j3 : Bool) (aleg7 : LL) (kc : Bool) (l14 : LL) : Option CV :=
 hold (E0 lb n 0 996 (sub (B QcN) [1, 1, 1, 1]) (QiV (R QcN) 83) ⟨fr 50 [(0, .val (.agg [.str j8, .int .i64 j7, .int .i64 jD, .int .i64 jM, .int .i64 jE, .list j3 aleg7])), (1, .ptr 0 1 0), (2, .lst true true 83 []), (3, .lst true kc 83 l14)], [bx 50 [(1, some [vS j8, vI j7, vI jD, vI jM, vI jE, .val (.list j3 aleg7)])]], KK⟩)
noncomputable def Qkd (lb n : Nat) (j8 : LB) (j7 jD jM jE : Int) (j3 : Bool) (aleg7 : LL) (gF : Bool) (l20 : LL) : Option CV :=
 hold (E0 lb n 0 995 (sub (B QcN) [1, 1, 1, 1, 1]) (QiV (R QcN) 83) ⟨fr 50 [(0, .val (.agg [.str j8, .int .i64 j7, .int .i64 jD, .int .i64 jM, .int .i64 jE, .list j3 aleg7])), (1, .ptr 0 1 0), (2, .lst true true 83 []), (3, .lst true gF 83 l20)], [bx 50 [(1, some [vS j8, vI j7, vI jD, vI jM, vI jE, .val (.list j3 aleg7)])]], KK⟩)
theorem QqH (lb n : Nat) (j8 : LB) (j7 jD jM jE : Int) (j3 : Bool) (aleg7 : LL) (gF : Bool) (l20 : LL) :
 Qkd lb n j8 j7 jD jM jE j3 aleg7 gF l20 =
 bif (decide ((aleg7.length : Int) < 1)) then
 (chkO (room (l20.length + 1) 24) (
 some (.list (gF && false) (l20 ++ [[CV.int .i64 4, CV.str [108, 101, 103, 115]]]))))
 else
 (bif (decide ((aleg7.length : Int) > 6)) then
 (chkO (room (l20.length + 1) 24) (
 some (.list (gF && false) (l20 ++ [[CV.int .i64 4, CV.str [108, 101, 103, 115]]]))))
 else
 (some (.list gF l20))) := (Qad _).trans (by kernel_rfl)
theorem Qqy (lb n : Nat) (j8 : LB) (j7 jD jM jE : Int) (j3 : Bool) (aleg7 : LL) (kc : Bool) (l14 : LL) :
 QhH lb n j8 j7 jD jM jE j3 aleg7 kc l14 =
 optO (C lb n Qe0 [.agg [.int .i64 jD, .int .i64 jM, .int .i64 jE]]) fun yK =>
 optO (CV.asI .i64 yK) fun yp =>
 bif (yp != 0) then
 (optO (C lb n Qe0 [.agg [.int .i64 jD, .int .i64 jM, .int .i64 jE]]) fun gE =>
 chkO (CV.isCell gE) (
 chkO (room (l14.length + 1) 24) (
 Qkd lb n j8 j7 jD jM jE j3 aleg7 (kc && false) (l14 ++ [[gE, CV.str [112, 101, 114, 105, 111, 100]]]))))
 else
 (Qkd lb n j8 j7 jD jM jE j3 aleg7 kc l14) := (Qad _).trans (by kernel_rfl)
theorem QqZ (lb n : Nat) (j8 : LB) (j7 jD jM jE : Int) (j3 : Bool) (aleg7 : LL) (gA : Bool) (l12 : LL) :
 Qki lb n j8 j7 jD jM jE j3 aleg7 gA l12 =
 bif (decide (j7 < 1)) then
 (chkO (room (l12.length + 1) 24) (
 QhH lb n j8 j7 jD jM jE j3 aleg7 (gA && false) (l12 ++ [[CV.int .i64 2, CV.str [110, 117, 109, 98, 101, 114]]])))
 else
 (bif (decide (j7 > 9999)) then
 (chkO (room (l12.length + 1) 24) (
 QhH lb n j8 j7 jD jM jE j3 aleg7 (gA && false) (l12 ++ [[CV.int .i64 2, CV.str [110, 117, 109, 98, 101, 114]]])))
 else
 (QhH lb n j8 j7 jD jM jE j3 aleg7 gA l12)) := (Qad _).trans (by kernel_rfl)
theorem Qup (lb n : Nat) (j8 : LB) (j7 jD jM jE : Int) (j3 : Bool) (aleg7 : LL) :
 top lb n QcN [.agg [.str j8, .int .i64 j7, .int .i64 jD, .int .i64 jM, .int .i64 jE, .list j3 aleg7]] =
 optO (C lb n Qh8 [.str j8]) fun r9 =>
 optO (CV.asB r9) fun lh =>
 bif (!lh) then
 (Qki lb n j8 j7 jD jM jE j3 aleg7 false [[CV.int .i64 5, CV.str [99, 97, 114, 114, 105, 101, 114]]])
 else
 (Qki lb n j8 j7 jD jM jE j3 aleg7 true []) := by kernel_rfl
noncomputable def Qb1 (lb n yd : Nat) (ja : Bool) (aair2 : LL) (jb : Bool) (adis4 : LL) (bcar5 : LB) (jg jd jf jc : Int) (je : Bool) (bleg12 : LL) (wB : Bool × LL) (oD : Bool) (l242 : LL) (wN : Int) : Option CV :=
 hold (Qau (E0 lb n 0 993) 0 (Qae (sub (B Qam) [1, 1, 1, 0, 1, 0, 0]) ++ [8, 10, 12]) [7, 9, 11] (sub (B Qam) [1, 1, 1, 0, 1, 0, 0]) (Qal 0 (seqK (E0 lb n 0 996) (sub (B Qam) [1, 1, 1, 0]) (sub (B Qam) [1, 1, 1, 1]) (retK Tryz.prog (R Qam) 0 (outK (Qaj Tryz.prog Qam))))) yd ⟨fr 133 [(0, .val (.agg [.list ja aair2, .list jb adis4])), (1, .val (.agg [.str bcar5, .int .i64 jg, .int .i64 jd, .int .i64 jf, .int .i64 jc, .list je bleg12])), (2, .ptr 0 2 0), (3, .ptr 0 3 0), (4, .lst true true 83 []), (5, .lst true oD 83 l242), (6, vI wN), (15, .val (.agg [.str bcar5, .int .i64 jg, .int .i64 jd, .int .i64 jf, .int .i64 jc, .list je bleg12])), (16, .val (.list wB.1 wB.2))], [bx 133 [(2, some [.val (.list ja aair2), .val (.list jb adis4)]), (3, some [vS bcar5, vI jg, vI jd, vI jf, vI jc, .val (.list je bleg12)])]], KK⟩)
noncomputable def QgF (lb n yd : Nat) (ja : Bool) (aair2 : LL) (jb : Bool) (adis4 : LL) (bcar5 : LB) (jg jd jf jc : Int) (je : Bool) (bleg12 : LL) (wN : Int) (s370 : LB) (wB : Bool × LL) (c363 : List CV) (yn yl yk ym yu yF : CV) (oI : Bool) (l374 : LL) : Option CV :=
 hold (E0 lb n 0 987 (sub (B Qam) [1, 1, 1, 0, 1, 0, 0, 1, 0, 0, 1, 1, 1]) (Qal 1 (seqK (E0 lb n 0 991) (sub (B Qam) [1, 1, 1, 0, 1, 0, 0, 1, 0]) (sub (B Qam) [1, 1, 1, 0, 1, 0, 0, 1, 1]) (QbN 0 (Qae (sub (B Qam) [1, 1, 1, 0, 1, 0, 0]) ++ [8, 10, 12]) [7, 9, 11] (Qau (E0 lb n 0 993) 0 (Qae (sub (B Qam) [1, 1, 1, 0, 1, 0, 0]) ++ [8, 10, 12]) [7, 9, 11] (sub (B Qam) [1, 1, 1, 0, 1, 0, 0]) (Qal 0 (seqK (E0 lb n 0 996) (sub (B Qam) [1, 1, 1, 0]) (sub (B Qam) [1, 1, 1, 1]) (retK Tryz.prog (R Qam) 0 (outK (Qaj Tryz.prog Qam))))) yd) (Qal 0 (seqK (E0 lb n 0 996) (sub (B Qam) [1, 1, 1, 0]) (sub (B Qam) [1, 1, 1, 1]) (retK Tryz.prog (R Qam) 0 (outK (Qaj Tryz.prog Qam)))))))) ⟨fr 133 [(0, .val (.agg [.list ja aair2, .list jb adis4])), (1, .val (.agg [.str bcar5, .int .i64 jg, .int .i64 jd, .int .i64 jf, .int .i64 jc, .list je bleg12])), (2, .ptr 0 2 0), (3, .ptr 0 3 0), (4, .lst true true 83 []), (5, .lst true oI 83 l374), (6, vI wN), (7, .ptr 0 7 0), (8, .val (.str (([108, 101, 103, 32] : LB) ++ s370))), (15, .val (.agg [.str bcar5, .int .i64 jg, .int .i64 jd, .int .i64 jf, .int .i64 jc, .list je bleg12])), (16, .val (.list wB.1 wB.2)), (35, .ptr 0 3 5), (36, .val (.list je bleg12)), (37, vI wN), (38, .cptr c363 0), (39, .val (.agg [yn, yl, yk, ym, yu])), (40, vI wN), (41, vV yF), (42, .val (.str (([108, 101, 103, 32] : LB) ++ s370)))], [bx 133 [(2, some [.val (.list ja aair2), .val (.list jb adis4)]), (3, some [vS bcar5, vI jg, vI jd, vI jf, vI jc, .val (.list je bleg12)]), (7, some [.val yn, .val yl, .val yk, .val ym, .val yu])]], KK⟩)
noncomputable def Qfy (lb n yd : Nat) (ja : Bool) (aair2 : LL) (jb : Bool) (adis4 : LL) (bcar5 : LB) (jg jd jf jc : Int) (je : Bool) (bleg12 : LL) (wN : Int) (s370 : LB) (va y9 : CV) (wB : Bool × LL) (c363 : List CV) (yn yl yk ym yu yF y0 vg yZ vf vr vj vw vu vi vq vt vk vn vo : CV) (oZ : Bool) (l399 : LL) : Option CV :=
 hold (E0 lb n 0 984 (sub (B Qam) [1, 1, 1, 0, 1, 0, 0, 1, 0, 0, 1, 1, 1, 1, 1, 1]) (Qal 1 (seqK (E0 lb n 0 991) (sub (B Qam) [1, 1, 1, 0, 1, 0, 0, 1, 0]) (sub (B Qam) [1, 1, 1, 0, 1, 0, 0, 1, 1]) (QbN 0 (Qae (sub (B Qam) [1, 1, 1, 0, 1, 0, 0]) ++ [8, 10, 12]) [7, 9, 11] (Qau (E0 lb n 0 993) 0 (Qae (sub (B Qam) [1, 1, 1, 0, 1, 0, 0]) ++ [8, 10, 12]) [7, 9, 11] (sub (B Qam) [1, 1, 1, 0, 1, 0, 0]) (Qal 0 (seqK (E0 lb n 0 996) (sub (B Qam) [1, 1, 1, 0]) (sub (B Qam) [1, 1, 1, 1]) (retK Tryz.prog (R Qam) 0 (outK (Qaj Tryz.prog Qam))))) yd) (Qal 0 (seqK (E0 lb n 0 996) (sub (B Qam) [1, 1, 1, 0]) (sub (B Qam) [1, 1, 1, 1]) (retK Tryz.prog (R Qam) 0 (outK (Qaj Tryz.prog Qam)))))))) ⟨fr 133 [(0, .val (.agg [.list ja aair2, .list jb adis4])), (1, .val (.agg [.str bcar5, .int .i64 jg, .int .i64 jd, .int .i64 jf, .int .i64 jc, .list je bleg12])), (2, .ptr 0 2 0), (3, .ptr 0 3 0), (4, .lst true true 83 []), (5, .lst true oZ 83 l399), (6, vI wN), (7, .ptr 0 7 0), (8, .val (.str (([108, 101, 103, 32] : LB) ++ s370))), (9, .ptr 0 9 0), (10, vV va), (11, .ptr 0 11 0), (12, vV y9), (15, .val (.agg [.str bcar5, .int .i64 jg, .int .i64 jd, .int .i64 jf, .int .i64 jc, .list je bleg12])), (16, .val (.list wB.1 wB.2)), (35, .ptr 0 3 5), (36, .val (.list je bleg12)), (37, vI wN), (38, .cptr c363 0), (39, .val (.agg [yn, yl, yk, ym, yu])), (40, vI wN), (41, vV yF), (42, .val (.str (([108, 101, 103, 32] : LB) ++ s370))), (52, vV y0), (53, .val (.agg [.list ja aair2, .list jb adis4])), (54, .ptr 0 7 0), (55, vV yn), (56, vV y0), (57, vV vg), (58, vV va), (59, vV yZ), (60, .val (.agg [.list ja aair2, .list jb adis4])), (61, .ptr 0 7 1), (62, vV yl), (63, vV yZ), (64, vV vf), (65, vV y9)], [bx 133 [(2, some [.val (.list ja aair2), .val (.list jb adis4)]), (3, some [vS bcar5, vI jg, vI jd, vI jf, vI jc, .val (.list je bleg12)]), (7, some [.val yn, .val yl, .val yk, .val ym, .val yu]), (9, some [.val vr, .val vj, .val vw, .val vu, .val vi]), (11, some [.val vq, .val vt, .val vk, .val vn, .val vo])]], KK⟩)
noncomputable def Qg1 (lb n yd : Nat) (ja : Bool) (aair2 : LL) (jb : Bool) (adis4 : LL) (bcar5 : LB) (jg jd jf jc : Int) (je : Bool) (bleg12 : LL) (wN : Int) (s370 : LB) (va y9 : CV) (wB : Bool × LL) (c363 : List CV) (yn yl yk ym yu yF y0 vg yZ vf vr vj vw vu vi vq vt vk vn vo : CV) (oG : Bool) (l403 : LL) : Option CV :=
 hold (E0 lb n 0 983 (sub (B Qam) [1, 1, 1, 0, 1, 0, 0, 1, 0, 0, 1, 1, 1, 1, 1, 1, 1]) (Qal 1 (seqK (E0 lb n 0 991) (sub (B Qam) [1, 1, 1, 0, 1, 0, 0, 1, 0]) (sub (B Qam) [1, 1, 1, 0, 1, 0, 0, 1, 1]) (QbN 0 (Qae (sub (B Qam) [1, 1, 1, 0, 1, 0, 0]) ++ [8, 10, 12]) [7, 9, 11] (Qau (E0 lb n 0 993) 0 (Qae (sub (B Qam) [1, 1, 1, 0, 1, 0, 0]) ++ [8, 10, 12]) [7, 9, 11] (sub (B Qam) [1, 1, 1, 0, 1, 0, 0]) (Qal 0 (seqK (E0 lb n 0 996) (sub (B Qam) [1, 1, 1, 0]) (sub (B Qam) [1, 1, 1, 1]) (retK Tryz.prog (R Qam) 0 (outK (Qaj Tryz.prog Qam))))) yd) (Qal 0 (seqK (E0 lb n 0 996) (sub (B Qam) [1, 1, 1, 0]) (sub (B Qam) [1, 1, 1, 1]) (retK Tryz.prog (R Qam) 0 (outK (Qaj Tryz.prog Qam)))))))) ⟨fr 133 [(0, .val (.agg [.list ja aair2, .list jb adis4])), (1, .val (.agg [.str bcar5, .int .i64 jg, .int .i64 jd, .int .i64 jf, .int .i64 jc, .list je bleg12])), (2, .ptr 0 2 0), (3, .ptr 0 3 0), (4, .lst true true 83 []), (5, .lst true oG 83 l403), (6, vI wN), (7, .ptr 0 7 0), (8, .val (.str (([108, 101, 103, 32] : LB) ++ s370))), (9, .ptr 0 9 0), (10, vV va), (11, .ptr 0 11 0), (12, vV y9), (15, .val (.agg [.str bcar5, .int .i64 jg, .int .i64 jd, .int .i64 jf, .int .i64 jc, .list je bleg12])), (16, .val (.list wB.1 wB.2)), (35, .ptr 0 3 5), (36, .val (.list je bleg12)), (37, vI wN), (38, .cptr c363 0), (39, .val (.agg [yn, yl, yk, ym, yu])), (40, vI wN), (41, vV yF), (42, .val (.str (([108, 101, 103, 32] : LB) ++ s370))), (52, vV y0), (53, .val (.agg [.list ja aair2, .list jb adis4])), (54, .ptr 0 7 0), (55, vV yn), (56, vV y0), (57, vV vg), (58, vV va), (59, vV yZ), (60, .val (.agg [.list ja aair2, .list jb adis4])), (61, .ptr 0 7 1), (62, vV yl), (63, vV yZ), (64, vV vf), (65, vV y9)], [bx 133 [(2, some [.val (.list ja aair2), .val (.list jb adis4)]), (3, some [vS bcar5, vI jg, vI jd, vI jf, vI jc, .val (.list je bleg12)]), (7, some [.val yn, .val yl, .val yk, .val ym, .val yu]), (9, some [.val vr, .val vj, .val vw, .val vu, .val vi]), (11, some [.val vq, .val vt, .val vk, .val vn, .val vo])]], KK⟩)
theorem Qpo (lb n yd : Nat) (ja : Bool) (aair2 : LL) (jb : Bool) (adis4 : LL) (bcar5 : LB) (jg jd jf jc : Int) (je : Bool) (bleg12 : LL) (wN : Int) (s370 : LB) (va y9 : CV) (wB : Bool × LL) (c363 : List CV) (yn yl yk ym yu yF y0 vg yZ vf vr vj vw vu vi vq vt vk vn vo : CV) (oG : Bool) (l403 : LL) :
 Qg1 lb n yd ja aair2 jb adis4 bcar5 jg jd jf jc je bleg12 wN s370 va y9 wB c363 yn yl yk ym yu yF y0 vg yZ vf vr vj vw vu vi vq vt vk vn vo oG l403 =
 optO (C lb n QdG [yk]) fun qM =>
 optO (CV.asB qM) fun qq =>
 bif qq then
 (chkO (room (l403.length + 1) 24) (
 Qb1 lb n yd ja aair2 jb adis4 bcar5 jg jd jf jc je bleg12 wB (oG && false) (l403 ++ [[CV.int .i64 2, CV.str (([108, 101, 103, 32] : LB) ++ s370)]]) (IntKind.wrap .i64 (wN + 1))))
 else
 (optO (C lb n QdG [ym]) fun qe =>
 optO (CV.asB qe) fun sk =>
 bif sk then
 (chkO (room (l403.length + 1) 24) (
 Qb1 lb n yd ja aair2 jb adis4 bcar5 jg jd jf jc je bleg12 wB (oG && false) (l403 ++ [[CV.int .i64 2, CV.str (([108, 101, 103, 32] : LB) ++ s370)]]) (IntKind.wrap .i64 (wN + 1))))
 else
 (Qb1 lb n yd ja aair2 jb adis4 bcar5 jg jd jf jc je bleg12 wB oG l403 (IntKind.wrap .i64 (wN + 1)))) := (Qad _).trans (by kernel_rfl)
theorem Qpz (lb n yd : Nat) (ja : Bool) (aair2 : LL) (jb : Bool) (adis4 : LL) (bcar5 : LB) (jg jd jf jc : Int) (je : Bool) (bleg12 : LL) (wN : Int) (s370 : LB) (va y9 : CV) (wB : Bool × LL) (c363 : List CV) (yn yl yk ym yu yF y0 vg yZ vf vr vj vw vu vi vq vt vk vn vo : CV) (oZ : Bool) (l399 : LL) :
 Qfy lb n yd ja aair2 jb adis4 bcar5 jg jd jf jc je bleg12 wN s370 va y9 wB c363 yn yl yk ym yu yF y0 vg yZ vf vr vj vw vu vi vq vt vk vn vo oZ l399 =
 optO (C lb n Qby [.list je bleg12, .int .i64 wN]) fun qi =>
 optO (CV.asB qi) fun qQ =>
 bif qQ then
 (chkO (room (l399.length + 1) 24) (
 Qg1 lb n yd ja aair2 jb adis4 bcar5 jg jd jf jc je bleg12 wN s370 va y9 wB c363 yn yl yk ym yu yF y0 vg yZ vf vr vj vw vu vi vq vt vk vn vo (oZ && false) (l399 ++ [[CV.int .i64 15, CV.str (([108, 101, 103, 32] : LB) ++ s370)]])))
 else
 (Qg1 lb n yd ja aair2 jb adis4 bcar5 jg jd jf jc je bleg12 wN s370 va y9 wB c363 yn yl yk ym yu yF y0 vg yZ vf vr vj vw vu vi vq vt vk vn vo oZ l399) := (Qad _).trans (by kernel_rfl)
theorem QpF (lb n yd : Nat) (ja : Bool) (aair2 : LL) (jb : Bool) (adis4 : LL) (bcar5 : LB) (jg jd jf jc : Int) (je : Bool) (bleg12 : LL) (wN : Int) (s370 : LB) (wB : Bool × LL) (c363 : List CV) (yn yl yk ym yu yF : CV) (oI : Bool) (l374 : LL) :
 QgF lb n yd ja aair2 jb adis4 bcar5 jg jd jf jc je bleg12 wN s370 wB c363 yn yl yk ym yu yF oI l374 =
 optO (C lb n QbF [.agg [.list ja aair2, .list jb adis4], yn]) fun y0 =>
 optO (CV.asT y0) fun qC =>
 optO (qC[0]?) fun vg =>
 optO (CV.asT y0) fun sf =>
 optO (sf[1]?) fun va =>
 optO (CV.asA vg) fun c380 =>
 chkO (c380.length == 5) (
 optO (c380[0]?) fun vr =>
 optO (c380[1]?) fun vj =>
 optO (c380[2]?) fun vw =>
 optO (c380[3]?) fun vu =>
 optO (c380[4]?) fun vi =>
 optO (C lb n QbF [.agg [.list ja aair2, .list jb adis4], yl]) fun yZ =>
 optO (CV.asT yZ) fun qj =>
 optO (qj[0]?) fun vf =>
 optO (CV.asT yZ) fun qL =>
 optO (qL[1]?) fun y9 =>
 optO (CV.asA vf) fun c391 =>
 chkO (c391.length == 5) (
 optO (c391[0]?) fun vq =>
 optO (c391[1]?) fun vt =>
 optO (c391[2]?) fun vk =>
 optO (c391[3]?) fun vn =>
 optO (c391[4]?) fun vo =>
 optO (CV.asB va) fun qG =>
 bif (!qG) then
 (chkO (room (l374.length + 1) 24) (
 Qfy lb n yd ja aair2 jb adis4 bcar5 jg jd jf jc je bleg12 wN s370 va y9 wB c363 yn yl yk ym yu yF y0 vg yZ vf vr vj vw vu vi vq vt vk vn vo (oI && false) (l374 ++ [[CV.int .i64 14, CV.str (([108, 101, 103, 32] : LB) ++ s370)]])))
 else
 (optO (CV.asB y9) fun qu =>
 bif (!qu) then
 (chkO (room (l374.length + 1) 24) (
 Qfy lb n yd ja aair2 jb adis4 bcar5 jg jd jf jc je bleg12 wN s370 va y9 wB c363 yn yl yk ym yu yF y0 vg yZ vf vr vj vw vu vi vq vt vk vn vo (oI && false) (l374 ++ [[CV.int .i64 14, CV.str (([108, 101, 103, 32] : LB) ++ s370)]])))
 else
 (Qfy lb n yd ja aair2 jb adis4 bcar5 jg jd jf jc je bleg12 wN s370 va y9 wB c363 yn yl yk ym yu yF y0 vg yZ vf vr vj vw vu vi vq vt vk vn vo oI l374)))) := (Qad _).trans (by kernel_rfl)
noncomputable def Qm8 (lb n : Nat) (ja : Bool) (aair2 : LL) (jb : Bool) (adis4 : LL) (bcar5 : LB) (jg jd jf jc : Int) (je : Bool) (bleg12 : LL) (wB : Bool × LL) (mo : Bool) (mb : LL) (ve : Int) : Option CV :=
 hold (E0 lb n 0 996 (sub (B Qam) [1, 1, 1, 1]) (retK Tryz.prog (R Qam) 0 (outK (Qaj Tryz.prog Qam))) ⟨fr 133 [(0, .val (.agg [.list ja aair2, .list jb adis4])), (1, .val (.agg [.str bcar5, .int .i64 jg, .int .i64 jd, .int .i64 jf, .int .i64 jc, .list je bleg12])), (2, .ptr 0 2 0), (3, .ptr 0 3 0), (4, .lst true true 83 []), (5, .lst true mo 83 mb), (6, vI ve), (15, .val (.agg [.str bcar5, .int .i64 jg, .int .i64 jd, .int .i64 jf, .int .i64 jc, .list je bleg12])), (16, .val (.list wB.1 wB.2))], [bx 133 [(2, some [.val (.list ja aair2), .val (.list jb adis4)]), (3, some [vS bcar5, vI jg, vI jd, vI jf, vI jc, .val (.list je bleg12)])]], KK⟩)
noncomputable def QdO (lb n gm : Nat) (ja : Bool) (aair2 : LL) (jb : Bool) (adis4 : LL) (bcar5 : LB) (jg jd jf jc : Int) (je : Bool) (bleg12 : LL) (ve : Int) (vh : CV) (wB : Bool × LL) (oc : Bool) (l429 : LL) (ku : Int) : Option CV :=
 hold (Qau (E0 lb n 0 991) 0 (Qae (sub (B Qam) [1, 1, 1, 1, 1, 0, 1, 0, 0]) ++ []) [] (sub (B Qam) [1, 1, 1, 1, 1, 0, 1, 0, 0]) (Qal 2 (seqK (E0 lb n 0 994) (sub (B Qam) [1, 1, 1, 1, 1, 0]) (sub (B Qam) [1, 1, 1, 1, 1, 1]) (retK Tryz.prog (R Qam) 0 (outK (Qaj Tryz.prog Qam))))) gm ⟨fr 133 [(0, .val (.agg [.list ja aair2, .list jb adis4])), (1, .val (.agg [.str bcar5, .int .i64 jg, .int .i64 jd, .int .i64 jf, .int .i64 jc, .list je bleg12])), (2, .ptr 0 2 0), (3, .ptr 0 3 0), (4, .lst true true 83 []), (5, .lst true oc 83 l429), (6, vI ve), (13, vV vh), (14, vI ku), (15, .val (.agg [.str bcar5, .int .i64 jg, .int .i64 jd, .int .i64 jf, .int .i64 jc, .list je bleg12])), (16, .val (.list wB.1 wB.2)), (99, .ptr 0 3 2), (100, .val (.agg [.int .i64 jd, .int .i64 jf, .int .i64 jc])), (101, vV vh)], [bx 133 [(2, some [.val (.list ja aair2), .val (.list jb adis4)]), (3, some [vS bcar5, vI jg, vI jd, vI jf, vI jc, .val (.list je bleg12)])]], KK⟩)
noncomputable def Qjd (lb n : Nat) (ja : Bool) (aair2 : LL) (jb : Bool) (adis4 : LL) (bcar5 : LB) (jg jd jf jc : Int) (je : Bool) (bleg12 : LL) (ve : Int) (vh : CV) (wB : Bool × LL) (gS : Bool) (mc : LL) (m6 : Int) : Option CV :=
 hold (E0 lb n 0 994 (sub (B Qam) [1, 1, 1, 1, 1, 1]) (retK Tryz.prog (R Qam) 0 (outK (Qaj Tryz.prog Qam))) ⟨fr 133 [(0, .val (.agg [.list ja aair2, .list jb adis4])), (1, .val (.agg [.str bcar5, .int .i64 jg, .int .i64 jd, .int .i64 jf, .int .i64 jc, .list je bleg12])), (2, .ptr 0 2 0), (3, .ptr 0 3 0), (4, .lst true true 83 []), (5, .lst true gS 83 mc), (6, vI ve), (13, vV vh), (14, vI m6), (15, .val (.agg [.str bcar5, .int .i64 jg, .int .i64 jd, .int .i64 jf, .int .i64 jc, .list je bleg12])), (16, .val (.list wB.1 wB.2)), (99, .ptr 0 3 2), (100, .val (.agg [.int .i64 jd, .int .i64 jf, .int .i64 jc])), (101, vV vh)], [bx 133 [(2, some [.val (.list ja aair2), .val (.list jb adis4)]), (3, some [vS bcar5, vI jg, vI jd, vI jf, vI jc, .val (.list je bleg12)])]], KK⟩)
theorem QgM (lb n : Nat) (ja : Bool) (aair2 : LL) (jb : Bool) (adis4 : LL) (bcar5 : LB) (jg jd jf jc : Int) (je : Bool) (bleg12 : LL) (ve : Int) (vh : CV) (wB : Bool × LL) (gS : Bool) (mc : LL) (m6 : Int) :
 Qjd lb n ja aair2 jb adis4 bcar5 jg jd jf jc je bleg12 ve vh wB gS mc m6 =
 some (.list gS mc) := (Qad _).trans (by kernel_rfl)
theorem Qeb (lb n gm : Nat) (ja : Bool) (aair2 : LL) (jb : Bool) (adis4 : LL) (bcar5 : LB) (jg jd jf jc : Int) (je : Bool) (bleg12 : LL) (ve : Int) (vh : CV) (wB : Bool × LL) (oc : Bool) (l429 : LL) (ku : Int) :
 QdO lb n (gm + 1) ja aair2 jb adis4 bcar5 jg jd jf jc je bleg12 ve vh wB oc l429 ku =
 bif ((l429.length : Int) == 0) then
 (optO (CV.asL vh) fun su =>
 bif (decide (ku < (su.2.length : Int))) then
 (optO (CV.asL vh) fun qF =>
 optO (atL qF.2 ku) fun c446 =>
 chkO (c446.length == 1) (
 optO (c446[0]?) fun qf =>
 optO (C lb n Qca [.agg [.list ja aair2, .list jb adis4], .agg [.str bcar5, .int .i64 jg, .int .i64 jd, .int .i64 jf, .int .i64 jc, .list je bleg12], qf]) fun qX =>
 optO (C lb n Qbv [qX]) fun qy =>
 optO (CV.asB qy) fun qS =>
 bif (!qS) then
 (optO (CV.asL vh) fun sy =>
 optO (atL sy.2 ku) fun c452 =>
 chkO (c452.length == 1) (
 optO (c452[0]?) fun qP =>
 optO (C lb n QhI [qP]) fun qE =>
 optO (CV.asS qE) fun s455 =>
 chkO (decide (([100, 97, 121, 32] : LB).length + s455.length ≤ 9223372036854775807)) (
 chkO (room (l429.length + 1) 24) (
 QdO lb n gm ja aair2 jb adis4 bcar5 jg jd jf jc je bleg12 ve vh wB (oc && false) (l429 ++ [[CV.int .i64 13, CV.str (([100, 97, 121, 32] : LB) ++ s455)]]) (IntKind.wrap .i64 (ku + 1))))))
 else
 (QdO lb n gm ja aair2 jb adis4 bcar5 jg jd jf jc je bleg12 ve vh wB oc l429 (IntKind.wrap .i64 (ku + 1)))))
 else
 (Qjd lb n ja aair2 jb adis4 bcar5 jg jd jf jc je bleg12 ve vh wB oc l429 ku))
 else
 (Qjd lb n ja aair2 jb adis4 bcar5 jg jd jf jc je bleg12 ve vh wB oc l429 ku) := (Qad _).trans (by kernel_rfl)
theorem Qqd (lb n : Nat) (ja : Bool) (aair2 : LL) (jb : Bool) (adis4 : LL) (bcar5 : LB) (jg jd jf jc : Int) (je : Bool) (bleg12 : LL) (wB : Bool × LL) (mo : Bool) (mb : LL) (ve : Int) :
 Qm8 lb n ja aair2 jb adis4 bcar5 jg jd jf jc je bleg12 wB mo mb ve =
 optO (C lb n Qcf [.agg [.int .i64 jd, .int .i64 jf, .int .i64 jc]]) fun vh =>
 QdO lb n n ja aair2 jb adis4 bcar5 jg jd jf jc je bleg12 ve vh wB mo mb 0 := (Qad _).trans (by kernel_rfl)
theorem Qif (lb n yd : Nat) (ja : Bool) (aair2 : LL) (jb : Bool) (adis4 : LL) (bcar5 : LB) (jg jd jf jc : Int) (je : Bool) (bleg12 : LL) (wB : Bool × LL) (oD : Bool) (l242 : LL) (wN : Int) :
 Qb1 lb n (yd + 1) ja aair2 jb adis4 bcar5 jg jd jf jc je bleg12 wB oD l242 wN =
 bif (decide (wN < (bleg12.length : Int))) then
 (optO (atL bleg12 wN) fun c363 =>
 chkO (c363.length == 5) (
 optO (c363[0]?) fun yn =>
 optO (c363[1]?) fun yl =>
 optO (c363[2]?) fun yk =>
 optO (c363[3]?) fun ym =>
 optO (c363[4]?) fun yu =>
 optO (C lb n QdU [.int .i64 wN]) fun yF =>
 optO (CV.asS yF) fun s370 =>
 chkO (decide (([108, 101, 103, 32] : LB).length + s370.length ≤ 9223372036854775807)) (
 optO (C lb n Qcc [yu, .int .i64 3, .int .i64 3]) fun sw =>
 optO (CV.asB sw) fun se =>
 bif (!se) then
 (chkO (room (l242.length + 1) 24) (
 QgF lb n yd ja aair2 jb adis4 bcar5 jg jd jf jc je bleg12 wN s370 wB c363 yn yl yk ym yu yF (oD && false) (l242 ++ [[CV.int .i64 5, CV.str (([108, 101, 103, 32] : LB) ++ s370)]])))
 else
 (QgF lb n yd ja aair2 jb adis4 bcar5 jg jd jf jc je bleg12 wN s370 wB c363 yn yl yk ym yu yF oD l242))))
 else
 (Qm8 lb n ja aair2 jb adis4 bcar5 jg jd jf jc je bleg12 wB oD l242 wN) := (Qad _).trans (by kernel_rfl)
theorem QsM (lb n : Nat) (ja : Bool) (aair2 : LL) (jb : Bool) (adis4 : LL) (bcar5 : LB) (jg jd jf jc : Int) (je : Bool) (bleg12 : LL) :
 top lb n Qam [.agg [.list ja aair2, .list jb adis4], .agg [.str bcar5, .int .i64 jg, .int .i64 jd, .int .i64 jf, .int .i64 jc, .list je bleg12]] =
 optO (C lb n QcN [.agg [.str bcar5, .int .i64 jg, .int .i64 jd, .int .i64 jf, .int .i64 jc, .list je bleg12]]) fun oX =>
 optO (CV.asL oX) fun wB =>
 bif (decide ((bleg12.length : Int) < 1)) then
 (some (.list wB.1 wB.2))
 else
 (bif (decide ((bleg12.length : Int) > 6)) then
 (some (.list wB.1 wB.2))
 else
 (Qb1 lb n n ja aair2 jb adis4 bcar5 jg jd jf jc je bleg12 wB wB.1 wB.2 0)) := by kernel_rfl
noncomputable def QgG (lb n : Nat) (ja : Bool) (aair2 : LL) (jb : Bool) (adis4 : LL) (bcar5 : LB) (jg jd jf jc : Int) (je : Bool) (bleg12 : LL) (yD : Bool) (l17 : LL) : Option CV :=
 hold (E0 lb n 0 996 (sub (B Qah) [1, 1, 1, 1]) (retK Tryz.prog (R Qah) 0 (outK (Qaj Tryz.prog Qah))) ⟨fr 100 [(0, .val (.agg [.list ja aair2, .list jb adis4])), (1, .val (.agg [.str bcar5, .int .i64 jg, .int .i64 jd, .int .i64 jf, .int .i64 jc, .list je bleg12])), (2, .ptr 0 2 0), (3, .ptr 0 3 0), (4, .lst true true 83 []), (5, .ptr 0 5 0), (6, .clo QaN [.ptr 0 5 0]), (13, .clo QaN [.ptr 0 5 0])], [bx 100 [(2, some [.val (.list ja aair2), .val (.list jb adis4)]), (3, some [vS bcar5, vI jg, vI jd, vI jf, vI jc, .val (.list je bleg12)]), (5, some [.lst true yD 83 l17])]], KK⟩)
noncomputable def Qfh (lb n : Nat) (ja : Bool) (aair2 : LL) (jb : Bool) (adis4 : LL) (bcar5 : LB) (jg jd jf jc : Int) (je : Bool) (bleg12 : LL) (mB : Bool) (l19 : LL) : Option CV :=
 hold (E0 lb n 0 995 (sub (B Qah) [1, 1, 1, 1, 1]) (retK Tryz.prog (R Qah) 0 (outK (Qaj Tryz.prog Qah))) ⟨fr 100 [(0, .val (.agg [.list ja aair2, .list jb adis4])), (1, .val (.agg [.str bcar5, .int .i64 jg, .int .i64 jd, .int .i64 jf, .int .i64 jc, .list je bleg12])), (2, .ptr 0 2 0), (3, .ptr 0 3 0), (4, .lst true true 83 []), (5, .ptr 0 5 0), (6, .clo QaN [.ptr 0 5 0]), (13, .clo QaN [.ptr 0 5 0])], [bx 100 [(2, some [.val (.list ja aair2), .val (.list jb adis4)]), (3, some [vS bcar5, vI jg, vI jd, vI jf, vI jc, .val (.list je bleg12)]), (5, some [.lst true mB 83 l19])]], KK⟩)
noncomputable def Qfc (lb n : Nat) (ja : Bool) (aair2 : LL) (jb : Bool) (adis4 : LL) (bcar5 : LB) (jg jd jf jc : Int) (je : Bool) (bleg12 : LL) (wT : CV) (ks : Bool) (l24 : LL) : Option CV :=
 hold (E0 lb n 0 994 (sub (B Qah) [1, 1, 1, 1, 1, 1]) (retK Tryz.prog (R Qah) 0 (outK (Qaj Tryz.prog Qah))) ⟨fr 100 [(0, .val (.agg [.list ja aair2, .list jb adis4])), (1, .val (.agg [.str bcar5, .int .i64 jg, .int .i64 jd, .int .i64 jf, .int .i64 jc, .list je bleg12])), (2, .ptr 0 2 0), (3, .ptr 0 3 0), (4, .lst true true 83 []), (5, .ptr 0 5 0), (6, .clo QaN [.ptr 0 5 0]), (7, vV wT), (13, .clo QaN [.ptr 0 5 0])], [bx 100 [(2, some [.val (.list ja aair2), .val (.list jb adis4)]), (3, some [vS bcar5, vI jg, vI jd, vI jf, vI jc, .val (.list je bleg12)]), (5, some [.lst true ks 83 l24])]], KK⟩)
noncomputable def Qdl (lb n kk : Nat) (ja : Bool) (aair2 : LL) (jb : Bool) (adis4 : LL) (bcar5 : LB) (jg jd jf jc : Int) (je : Bool) (bleg12 : LL) (wT : CV) (i46 : Int) (kv : Bool) (kT : LL) : Option CV :=
 hold (Qau (E0 lb n 0 989) 0 (Qae (sub (B Qah) [1, 1, 1, 1, 1, 1, 1, 0, 1, 0, 0]) ++ [8, 10]) [] (sub (B Qah) [1, 1, 1, 1, 1, 1, 1, 0, 1, 0, 0]) (Qal 0 (seqK (E0 lb n 0 992) (sub (B Qah) [1, 1, 1, 1, 1, 1, 1, 0]) (sub (B Qah) [1, 1, 1, 1, 1, 1, 1, 1]) (retK Tryz.prog (R Qah) 0 (outK (Qaj Tryz.prog Qah))))) kk ⟨fr 100 [(0, .val (.agg [.list ja aair2, .list jb adis4])), (1, .val (.agg [.str bcar5, .int .i64 jg, .int .i64 jd, .int .i64 jf, .int .i64 jc, .list je bleg12])), (2, .ptr 0 2 0), (3, .ptr 0 3 0), (4, .lst true true 83 []), (5, .ptr 0 5 0), (6, .clo QaN [.ptr 0 5 0]), (7, vV wT), (13, .clo QaN [.ptr 0 5 0]), (51, .ptr 0 3 5), (52, .val (.list je bleg12)), (53, .val (.int .i64 (bleg12.length : Int))), (54, vI i46)], [bx 100 [(2, some [.val (.list ja aair2), .val (.list jb adis4)]), (3, some [vS bcar5, vI jg, vI jd, vI jf, vI jc, .val (.list je bleg12)]), (5, some [.lst true kv 83 kT])]], KK⟩)
noncomputable def Qe8 (lb n nA kk : Nat) (ja : Bool) (aair2 : LL) (jb : Bool) (adis4 : LL) (bcar5 : LB) (jg jd jf jc : Int) (je : Bool) (bleg12 : LL) (wT : CV) (i46 : Int) (oP : CV) (ov : Bool × LL) (gC : Int) (yU : Bool) (l80 : LL) : Option CV :=
 hold (Qau (E0 lb n 0 981) 0 (Qae (sub (B Qah) [1, 1, 1, 1, 1, 1, 1, 0, 1, 0, 0, 1, 1, 0, 0, 1, 1, 0, 0]) ++ [10]) [] (sub (B Qah) [1, 1, 1, 1, 1, 1, 1, 0, 1, 0, 0, 1, 1, 0, 0, 1, 1, 0, 0]) (Qal 2 (Qal 1 (seqK (E0 lb n 0 986) (sub (B Qah) [1, 1, 1, 1, 1, 1, 1, 0, 1, 0, 0, 1, 1, 0]) (sub (B Qah) [1, 1, 1, 1, 1, 1, 1, 0, 1, 0, 0, 1, 1, 1]) (QbN 0 (Qae (sub (B Qah) [1, 1, 1, 1, 1, 1, 1, 0, 1, 0, 0]) ++ [8, 10]) [] (Qau (E0 lb n 0 989) 0 (Qae (sub (B Qah) [1, 1, 1, 1, 1, 1, 1, 0, 1, 0, 0]) ++ [8, 10]) [] (sub (B Qah) [1, 1, 1, 1, 1, 1, 1, 0, 1, 0, 0]) (Qal 0 (seqK (E0 lb n 0 992) (sub (B Qah) [1, 1, 1, 1, 1, 1, 1, 0]) (sub (B Qah) [1, 1, 1, 1, 1, 1, 1, 1]) (retK Tryz.prog (R Qah) 0 (outK (Qaj Tryz.prog Qah))))) kk) (Qal 0 (seqK (E0 lb n 0 992) (sub (B Qah) [1, 1, 1, 1, 1, 1, 1, 0]) (sub (B Qah) [1, 1, 1, 1, 1, 1, 1, 1]) (retK Tryz.prog (R Qah) 0 (outK (Qaj Tryz.prog Qah))))))))) nA ⟨fr 100 [(0, .val (.agg [.list ja aair2, .list jb adis4])), (1, .val (.agg [.str bcar5, .int .i64 jg, .int .i64 jd, .int .i64 jf, .int .i64 jc, .list je bleg12])), (2, .ptr 0 2 0), (3, .ptr 0 3 0), (4, .lst true true 83 []), (5, .ptr 0 5 0), (6, .clo QaN [.ptr 0 5 0]), (7, vV wT), (8, vI i46), (13, .clo QaN [.ptr 0 5 0]), (51, .ptr 0 3 5), (52, .val (.list je bleg12)), (53, .val (.int .i64 (bleg12.length : Int))), (54, vI i46), (55, .val (.bool (decide (i46 < (bleg12.length : Int))))), (56, vI i46), (57, .val (.agg [.list ja aair2, .list jb adis4])), (58, .ptr 0 3 5), (59, .val (.list je bleg12)), (60, vI i46), (61, vV oP), (62, .val (.int .i64 (ov.2.length : Int))), (63, vI gC)], [bx 100 [(2, some [.val (.list ja aair2), .val (.list jb adis4)]), (3, some [vS bcar5, vI jg, vI jd, vI jf, vI jc, .val (.list je bleg12)]), (5, some [.lst true yU 83 l80])]], KK⟩)
noncomputable def Qjp (lb n kk : Nat) (ja : Bool) (aair2 : LL) (jb : Bool) (adis4 : LL) (bcar5 : LB) (jg jd jf jc : Int) (je : Bool) (bleg12 : LL) (wT : CV) (i46 pD : Int) (go : Bool) (nO : LL) : Option CV :=
 hold (E0 lb n 0 986 (sub (B Qah) [1, 1, 1, 1, 1, 1, 1, 0, 1, 0, 0, 1, 1, 1]) (QbN 0 (Qae (sub (B Qah) [1, 1, 1, 1, 1, 1, 1, 0, 1, 0, 0]) ++ [8, 10]) [] (Qau (E0 lb n 0 989) 0 (Qae (sub (B Qah) [1, 1, 1, 1, 1, 1, 1, 0, 1, 0, 0]) ++ [8, 10]) [] (sub (B Qah) [1, 1, 1, 1, 1, 1, 1, 0, 1, 0, 0]) (Qal 0 (seqK (E0 lb n 0 992) (sub (B Qah) [1, 1, 1, 1, 1, 1, 1, 0]) (sub (B Qah) [1, 1, 1, 1, 1, 1, 1, 1]) (retK Tryz.prog (R Qah) 0 (outK (Qaj Tryz.prog Qah))))) kk) (Qal 0 (seqK (E0 lb n 0 992) (sub (B Qah) [1, 1, 1, 1, 1, 1, 1, 0]) (sub (B Qah) [1, 1, 1, 1, 1, 1, 1, 1]) (retK Tryz.prog (R Qah) 0 (outK (Qaj Tryz.prog Qah)))))) ⟨fr 100 [(0, .val (.agg [.list ja aair2, .list jb adis4])), (1, .val (.agg [.str bcar5, .int .i64 jg, .int .i64 jd, .int .i64 jf, .int .i64 jc, .list je bleg12])), (2, .ptr 0 2 0), (3, .ptr 0 3 0), (4, .lst true true 83 []), (5, .ptr 0 5 0), (6, .clo QaN [.ptr 0 5 0]), (7, vV wT), (8, vI pD), (13, .clo QaN [.ptr 0 5 0]), (51, .ptr 0 3 5), (52, .val (.list je bleg12)), (53, .val (.int .i64 (bleg12.length : Int))), (54, vI i46), (55, .val (.bool (decide (i46 < (bleg12.length : Int)))))], [bx 100 [(2, some [.val (.list ja aair2), .val (.list jb adis4)]), (3, some [vS bcar5, vI jg, vI jd, vI jf, vI jc, .val (.list je bleg12)]), (5, some [.lst true go 83 nO])]], KK⟩)
theorem Qmg (lb n kk : Nat) (ja : Bool) (aair2 : LL) (jb : Bool) (adis4 : LL) (bcar5 : LB) (jg jd jf jc : Int) (je : Bool) (bleg12 : LL) (wT : CV) (i46 pD : Int) (go : Bool) (nO : LL) :
 Qjp lb n kk ja aair2 jb adis4 bcar5 jg jd jf jc je bleg12 wT i46 pD go nO =
 Qdl lb n kk ja aair2 jb adis4 bcar5 jg jd jf jc je bleg12 wT (IntKind.wrap .i64 (i46 + 1)) go nO := (Qad _).trans (by kernel_rfl)
theorem QgX (lb n nA kk : Nat) (ja : Bool) (aair2 : LL) (jb : Bool) (adis4 : LL) (bcar5 : LB) (jg jd jf jc : Int) (je : Bool) (bleg12 : LL) (wT : CV) (i46 : Int) (oP : CV) (ov : Bool × LL) (gC : Int) (yU : Bool) (l80 : LL) :
 Qe8 lb n (nA + 1) kk ja aair2 jb adis4 bcar5 jg jd jf jc je bleg12 wT i46 oP ov gC yU l80 =
 bif (decide (gC < (ov.2.length : Int))) then
 (optO (CV.asL oP) fun zf =>
 optO (atL zf.2 gC) fun c88 =>
 chkO (c88.length == 1) (
 optO (c88[0]?) fun pR =>
 optO (C lb n Qhb [.int .i64 i46]) fun o4 =>
 optO (CV.asS o4) fun s91 =>
 chkO (decide (([108, 101, 103, 32] : LB).length + s91.length ≤ 9223372036854775807)) (
 chkO (CV.isCell pR) (
 chkO (room (l80.length + 1) 24) (
 Qe8 lb n nA kk ja aair2 jb adis4 bcar5 jg jd jf jc je bleg12 wT i46 oP ov (IntKind.wrap .i64 (gC + 1)) (yU && false) (l80 ++ [[pR, CV.str (([108, 101, 103, 32] : LB) ++ s91)]]))))))
 else
 (Qjp lb n kk ja aair2 jb adis4 bcar5 jg jd jf jc je bleg12 wT i46 i46 yU l80) := (Qad _).trans (by kernel_rfl)
noncomputable def Qjn (lb n : Nat) (ja : Bool) (aair2 : LL) (jb : Bool) (adis4 : LL) (bcar5 : LB) (jg jd jf jc : Int) (je : Bool) (bleg12 : LL) (wT : CV) (v7 : Bool) (l96 : LL) : Option CV :=
 hold (E0 lb n 0 992 (sub (B Qah) [1, 1, 1, 1, 1, 1, 1, 1]) (retK Tryz.prog (R Qah) 0 (outK (Qaj Tryz.prog Qah))) ⟨fr 100 [(0, .val (.agg [.list ja aair2, .list jb adis4])), (1, .val (.agg [.str bcar5, .int .i64 jg, .int .i64 jd, .int .i64 jf, .int .i64 jc, .list je bleg12])), (2, .ptr 0 2 0), (3, .ptr 0 3 0), (4, .lst true true 83 []), (5, .ptr 0 5 0), (6, .clo QaN [.ptr 0 5 0]), (7, vV wT), (13, .clo QaN [.ptr 0 5 0])], [bx 100 [(2, some [.val (.list ja aair2), .val (.list jb adis4)]), (3, some [vS bcar5, vI jg, vI jd, vI jf, vI jc, .val (.list je bleg12)]), (5, some [.lst true v7 83 l96])]], KK⟩)
noncomputable def Qd3 (lb n mr : Nat) (ja : Bool) (aair2 : LL) (jb : Bool) (adis4 : LL) (bcar5 : LB) (jg jd jf jc : Int) (je : Bool) (bleg12 : LL) (wT oQ : CV) (gk : Bool × LL) (v7 : Bool) (l96 : LL) (oE : Int) : Option CV :=
 hold (Qau (E0 lb n 0 987) 0 (Qae (sub (B Qah) [1, 1, 1, 1, 1, 1, 1, 1, 1, 0, 1, 0, 0]) ++ [12]) [] (sub (B Qah) [1, 1, 1, 1, 1, 1, 1, 1, 1, 0, 1, 0, 0]) (Qal 4 (seqK (E0 lb n 0 990) (sub (B Qah) [1, 1, 1, 1, 1, 1, 1, 1, 1, 0]) (sub (B Qah) [1, 1, 1, 1, 1, 1, 1, 1, 1, 1]) (retK Tryz.prog (R Qah) 0 (outK (Qaj Tryz.prog Qah))))) mr ⟨fr 100 [(0, .val (.agg [.list ja aair2, .list jb adis4])), (1, .val (.agg [.str bcar5, .int .i64 jg, .int .i64 jd, .int .i64 jf, .int .i64 jc, .list je bleg12])), (2, .ptr 0 2 0), (3, .ptr 0 3 0), (4, .lst true true 83 []), (5, .ptr 0 5 0), (6, .clo QaN [.ptr 0 5 0]), (7, vV wT), (13, .clo QaN [.ptr 0 5 0]), (79, .ptr 0 3 2), (80, .val (.agg [.int .i64 jd, .int .i64 jf, .int .i64 jc])), (81, vV oQ), (82, .val (.int .i64 (gk.2.length : Int))), (83, vI oE)], [bx 100 [(2, some [.val (.list ja aair2), .val (.list jb adis4)]), (3, some [vS bcar5, vI jg, vI jd, vI jf, vI jc, .val (.list je bleg12)]), (5, some [.lst true v7 83 l96])]], KK⟩)
noncomputable def QjJ (lb n : Nat) (ja : Bool) (aair2 : LL) (jb : Bool) (adis4 : LL) (bcar5 : LB) (jg jd jf jc : Int) (je : Bool) (bleg12 : LL) (wT ng : CV) (oJ : Bool) (gG : LL) : Option CV :=
 hold (E0 lb n 0 990 (sub (B Qah) [1, 1, 1, 1, 1, 1, 1, 1, 1, 1]) (retK Tryz.prog (R Qah) 0 (outK (Qaj Tryz.prog Qah))) ⟨fr 100 [(0, .val (.agg [.list ja aair2, .list jb adis4])), (1, .val (.agg [.str bcar5, .int .i64 jg, .int .i64 jd, .int .i64 jf, .int .i64 jc, .list je bleg12])), (2, .ptr 0 2 0), (3, .ptr 0 3 0), (4, .lst true true 83 []), (5, .ptr 0 5 0), (6, .clo QaN [.ptr 0 5 0]), (7, vV wT), (12, vV ng), (13, .clo QaN [.ptr 0 5 0])], [bx 100 [(2, some [.val (.list ja aair2), .val (.list jb adis4)]), (3, some [vS bcar5, vI jg, vI jd, vI jf, vI jc, .val (.list je bleg12)]), (5, some [.lst true oJ 83 gG])]], KK⟩)
theorem QmL (lb n : Nat) (ja : Bool) (aair2 : LL) (jb : Bool) (adis4 : LL) (bcar5 : LB) (jg jd jf jc : Int) (je : Bool) (bleg12 : LL) (wT ng : CV) (oJ : Bool) (gG : LL) :
 QjJ lb n ja aair2 jb adis4 bcar5 jg jd jf jc je bleg12 wT ng oJ gG =
 some (.list oJ gG) := (Qad _).trans (by kernel_rfl)
noncomputable def Qi7 (lb n : Nat) (ja : Bool) (aair2 : LL) (jb : Bool) (adis4 : LL) (bcar5 : LB) (jg jd jf jc : Int) (je : Bool) (bleg12 : LL) (wT : CV) (v7 : Bool) (l96 : LL) : Option CV :=
 hold (E0 lb n 0 990 (sub (B Qah) [1, 1, 1, 1, 1, 1, 1, 1, 1, 1]) (retK Tryz.prog (R Qah) 0 (outK (Qaj Tryz.prog Qah))) ⟨fr 100 [(0, .val (.agg [.list ja aair2, .list jb adis4])), (1, .val (.agg [.str bcar5, .int .i64 jg, .int .i64 jd, .int .i64 jf, .int .i64 jc, .list je bleg12])), (2, .ptr 0 2 0), (3, .ptr 0 3 0), (4, .lst true true 83 []), (5, .ptr 0 5 0), (6, .clo QaN [.ptr 0 5 0]), (7, vV wT), (13, .clo QaN [.ptr 0 5 0])], [bx 100 [(2, some [.val (.list ja aair2), .val (.list jb adis4)]), (3, some [vS bcar5, vI jg, vI jd, vI jf, vI jc, .val (.list je bleg12)]), (5, some [.lst true v7 83 l96])]], KK⟩)
theorem QlY (lb n : Nat) (ja : Bool) (aair2 : LL) (jb : Bool) (adis4 : LL) (bcar5 : LB) (jg jd jf jc : Int) (je : Bool) (bleg12 : LL) (wT : CV) (v7 : Bool) (l96 : LL) :
 Qi7 lb n ja aair2 jb adis4 bcar5 jg jd jf jc je bleg12 wT v7 l96 =
 some (.list v7 l96) := (Qad _).trans (by kernel_rfl)
theorem QgI (lb n mr : Nat) (ja : Bool) (aair2 : LL) (jb : Bool) (adis4 : LL) (bcar5 : LB) (jg jd jf jc : Int) (je : Bool) (bleg12 : LL) (wT oQ : CV) (gk : Bool × LL) (v7 : Bool) (l96 : LL) (oE : Int) :
 Qd3 lb n (mr + 1) ja aair2 jb adis4 bcar5 jg jd jf jc je bleg12 wT oQ gk v7 l96 oE =
 bif (decide (oE < (gk.2.length : Int))) then
 (optO (CV.asL oQ) fun qs =>
 optO (atL qs.2 oE) fun c116 =>
 chkO (c116.length == 1) (
 optO (c116[0]?) fun m7 =>
 optO (C lb n Qbc [.agg [.list ja aair2, .list jb adis4], .list je bleg12, m7]) fun nm =>
 optO (CV.asB nm) fun ql =>
 bif (!ql) then
 (optO (C lb n QeL [m7]) fun qa =>
 optO (CV.asS qa) fun s121 =>
 chkO (decide (([100, 97, 121, 32] : LB).length + s121.length ≤ 9223372036854775807)) (
 chkO (room (l96.length + 1) 24) (
 QjJ lb n ja aair2 jb adis4 bcar5 jg jd jf jc je bleg12 wT m7 (v7 && false) (l96 ++ [[CV.int .i64 13, CV.str (([100, 97, 121, 32] : LB) ++ s121)]]))))
 else
 (Qd3 lb n mr ja aair2 jb adis4 bcar5 jg jd jf jc je bleg12 wT oQ gk v7 l96 (IntKind.wrap .i64 (oE + 1)))))
 else
 (Qi7 lb n ja aair2 jb adis4 bcar5 jg jd jf jc je bleg12 wT v7 l96 ) := (Qad _).trans (by kernel_rfl)
theorem QmW (lb n : Nat) (ja : Bool) (aair2 : LL) (jb : Bool) (adis4 : LL) (bcar5 : LB) (jg jd jf jc : Int) (je : Bool) (bleg12 : LL) (wT : CV) (v7 : Bool) (l96 : LL) :
 Qjn lb n ja aair2 jb adis4 bcar5 jg jd jf jc je bleg12 wT v7 l96 =
 bif (decide ((l96.length : Int) > 0)) then
 (some (.list v7 l96))
 else
 (optO (C lb n Qf7 [.agg [.int .i64 jd, .int .i64 jf, .int .i64 jc]]) fun oQ =>
 optO (CV.asL oQ) fun gk =>
 Qd3 lb n n ja aair2 jb adis4 bcar5 jg jd jf jc je bleg12 wT oQ gk v7 l96 0) := (Qad _).trans (by kernel_rfl)
theorem QgA (lb n kk : Nat) (ja : Bool) (aair2 : LL) (jb : Bool) (adis4 : LL) (bcar5 : LB) (jg jd jf jc : Int) (je : Bool) (bleg12 : LL) (wT : CV) (i46 : Int) (kv : Bool) (kT : LL) :
 Qdl lb n (kk + 1) ja aair2 jb adis4 bcar5 jg jd jf jc je bleg12 wT i46 kv kT =
 bif (decide (i46 < (bleg12.length : Int))) then
 (optO (C lb n QbQ [.agg [.list ja aair2, .list jb adis4], .list je bleg12, .int .i64 i46]) fun oP =>
 optO (CV.asL oP) fun ov =>
 Qe8 lb n n kk ja aair2 jb adis4 bcar5 jg jd jf jc je bleg12 wT i46 oP ov 0 kv kT)
 else
 (Qjn lb n ja aair2 jb adis4 bcar5 jg jd jf jc je bleg12 wT kv kT) := (Qad _).trans (by kernel_rfl)
theorem QhY (lb n : Nat) (ja : Bool) (aair2 : LL) (jb : Bool) (adis4 : LL) (bcar5 : LB) (jg jd jf jc : Int) (je : Bool) (bleg12 : LL) (wT : CV) (ks : Bool) (l24 : LL) :
 Qfc lb n ja aair2 jb adis4 bcar5 jg jd jf jc je bleg12 wT ks l24 =
 bif ((bleg12.length : Int) == 0) then
 (chkO (room (l24.length + 1) 24) (
 some (.list (ks && false) (l24 ++ [[CV.int .i64 4, CV.str [108, 101, 103, 115]]]))))
 else
 (bif (decide ((bleg12.length : Int) > 6)) then
 (chkO (room (l24.length + 1) 24) (
 some (.list (ks && false) (l24 ++ [[CV.int .i64 4, CV.str [108, 101, 103, 115]]]))))
 else
 (Qdl lb n n ja aair2 jb adis4 bcar5 jg jd jf jc je bleg12 wT 0 ks l24)) := (Qad _).trans (by kernel_rfl)
theorem QmE (lb n : Nat) (ja : Bool) (aair2 : LL) (jb : Bool) (adis4 : LL) (bcar5 : LB) (jg jd jf jc : Int) (je : Bool) (bleg12 : LL) (mB : Bool) (l19 : LL) :
 Qfh lb n ja aair2 jb adis4 bcar5 jg jd jf jc je bleg12 mB l19 =
 optO (C lb n Qbt [.agg [.int .i64 jd, .int .i64 jf, .int .i64 jc]]) fun yq =>
 optO (CV.asI .i64 yq) fun i21 =>
 bif (i21 != 0) then
 (chkO (CV.isCell yq) (
 chkO (room (l19.length + 1) 24) (
 Qfc lb n ja aair2 jb adis4 bcar5 jg jd jf jc je bleg12 yq (mB && false) (l19 ++ [[yq, CV.str [112, 101, 114, 105, 111, 100]]]))))
 else
 (Qfc lb n ja aair2 jb adis4 bcar5 jg jd jf jc je bleg12 yq mB l19) := (Qad _).trans (by kernel_rfl)
theorem Qnf (lb n : Nat) (ja : Bool) (aair2 : LL) (jb : Bool) (adis4 : LL) (bcar5 : LB) (jg jd jf jc : Int) (je : Bool) (bleg12 : LL) (yD : Bool) (l17 : LL) :
 QgG lb n ja aair2 jb adis4 bcar5 jg jd jf jc je bleg12 yD l17 =
 bif (decide (jg < 1)) then
 (chkO (room (l17.length + 1) 24) (
 Qfh lb n ja aair2 jb adis4 bcar5 jg jd jf jc je bleg12 (yD && false) (l17 ++ [[CV.int .i64 2, CV.str [110, 117, 109, 98, 101, 114]]])))
 else
 (bif (decide (jg > 9999)) then
 (chkO (room (l17.length + 1) 24) (
 Qfh lb n ja aair2 jb adis4 bcar5 jg jd jf jc je bleg12 (yD && false) (l17 ++ [[CV.int .i64 2, CV.str [110, 117, 109, 98, 101, 114]]])))
 else
 (Qfh lb n ja aair2 jb adis4 bcar5 jg jd jf jc je bleg12 yD l17)) := (Qad _).trans (by kernel_rfl)
theorem Qpg (lb n : Nat) (ja : Bool) (aair2 : LL) (jb : Bool) (adis4 : LL) (bcar5 : LB) (jg jd jf jc : Int) (je : Bool) (bleg12 : LL) :
 top lb n Qah [.agg [.list ja aair2, .list jb adis4], .agg [.str bcar5, .int .i64 jg, .int .i64 jd, .int .i64 jf, .int .i64 jc, .list je bleg12]] =
 optO (C lb n Qhw [.str bcar5]) fun oX =>
 optO (CV.asB oX) fun mK =>
 bif (!mK) then
 (QgG lb n ja aair2 jb adis4 bcar5 jg jd jf jc je bleg12 false [[CV.int .i64 5, CV.str [99, 97, 114, 114, 105, 101, 114]]])
 else
 (QgG lb n ja aair2 jb adis4 bcar5 jg jd jf jc je bleg12 true []) := by kernel_rfl
theorem QnK (lb n : Nat) (a1 : Int) :
 top lb n QeL [.int .i64 a1] =
 optO (C lb n QaP [.int .i64 a1]) fun r2 =>
 optO (CV.asT r2) fun t3 =>
 optO (t3[0]?) fun x4 =>
 optO (CV.asT r2) fun t5 =>
 optO (t5[1]?) fun x6 =>
 optO (CV.asT r2) fun t7 =>
 optO (t7[2]?) fun x9 =>
 optO (CV.asI .i64 x4) fun vZ =>
 bif (vZ == 0) then
 (some (.str []))
 else
 (optO (CV.asI .i64 x4) fun y7 =>
 optO (C lb n QdJ [.int .i64 (IntKind.wrap .i64 (Int.tdiv y7 100))]) fun yH =>
 optO (CV.asI .i64 x4) fun vF =>
 optO (C lb n QdJ [.int .i64 (Int.tmod vF 100)]) fun vL =>
 optO (CV.asS yH) fun s15 =>
 optO (CV.asS vL) fun s17 =>
 chkO (decide (s15.length + s17.length ≤ 9223372036854775807)) (
 chkO (decide ((s15 ++ s17).length + [45].length ≤ 9223372036854775807)) (
 optO (C lb n QdJ [x6]) fun gE =>
 optO (CV.asS gE) fun s19 =>
 chkO (decide (((s15 ++ s17) ++ [45]).length + s19.length ≤ 9223372036854775807)) (
 chkO (decide ((((s15 ++ s17) ++ [45]) ++ s19).length + [45].length ≤ 9223372036854775807)) (
 optO (C lb n QdJ [x9]) fun yq =>
 optO (CV.asS yq) fun s21 =>
 chkO (decide (((((s15 ++ s17) ++ [45]) ++ s19) ++ [45]).length + s21.length ≤ 9223372036854775807)) (
 some (.str (((((s15 ++ s17) ++ [45]) ++ s19) ++ [45]) ++ s21)))))))) := by kernel_rfl
noncomputable def QeG (lb n k7 : Nat) (a1 i4 : Int) : Option CV :=
 hold (Qau (E0 lb n 0 994) 0 (Qae (sub (B QaP) [1, 1, 1, 0, 0, 0]) ++ []) [] (sub (B QaP) [1, 1, 1, 0, 0, 0]) (Qal 0 (seqK (E0 lb n 0 996) (sub (B QaP) [1, 1, 1, 0]) (sub (B QaP) [1, 1, 1, 1]) (retK Tryz.prog (R QaP) 0 (outK (Qaj Tryz.prog QaP))))) k7 ⟨fr 48 [(0, vI a1), (2, vI 0), (3, vI 0), (4, vI 0), (5, vI i4), (15, vI a1), (16, .val (.int .i64 (IntKind.wrap .i64 (Int.tdiv a1 366)))), (17, .val (.int .i64 (IntKind.wrap .i64 (2000 + (IntKind.wrap .i64 (Int.tdiv a1 366))))))], [bx 48 []], KK⟩)
noncomputable def QiN (lb n : Nat) (a1 y7 : Int) : Option CV :=
 hold (E0 lb n 0 996 (sub (B QaP) [1, 1, 1, 1]) (retK Tryz.prog (R QaP) 0 (outK (Qaj Tryz.prog QaP))) ⟨fr 48 [(0, vI a1), (2, vI 0), (3, vI 0), (4, vI 0), (5, vI y7), (15, vI a1), (16, .val (.int .i64 (IntKind.wrap .i64 (Int.tdiv a1 366)))), (17, .val (.int .i64 (IntKind.wrap .i64 (2000 + (IntKind.wrap .i64 (Int.tdiv a1 366))))))], [bx 48 []], KK⟩)
noncomputable def QeE (lb n oC : Nat) (a1 y7 : Int) (yH : CV) (vF yw vb : Int) : Option CV :=
 hold (Qau (E0 lb n 0 991) 0 (Qae (sub (B QaP) [1, 1, 1, 1, 1, 0, 1, 0, 0]) ++ [7, 8]) [] (sub (B QaP) [1, 1, 1, 1, 1, 0, 1, 0, 0]) (Qal 2 (seqK (E0 lb n 0 994) (sub (B QaP) [1, 1, 1, 1, 1, 0]) (sub (B QaP) [1, 1, 1, 1, 1, 1]) (retK Tryz.prog (R QaP) 0 (outK (Qaj Tryz.prog QaP))))) oC ⟨fr 48 [(0, vI a1), (2, vI 0), (3, vI 0), (4, vI 0), (5, vI y7), (6, vI yw), (15, vI a1), (16, .val (.int .i64 (IntKind.wrap .i64 (Int.tdiv a1 366)))), (17, .val (.int .i64 (IntKind.wrap .i64 (2000 + (IntKind.wrap .i64 (Int.tdiv a1 366)))))), (25, vI a1), (26, vI y7), (27, vV yH), (28, .val (.int .i64 (IntKind.wrap .i64 (a1 - vF)))), (29, vI vb)], [bx 48 []], KK⟩)
noncomputable def QoU (lb n : Nat) (a1 y7 : Int) (yH : CV) (vF oj : Int) : Option CV :=
 hold (E0 lb n 0 994 (sub (B QaP) [1, 1, 1, 1, 1, 1]) (retK Tryz.prog (R QaP) 0 (outK (Qaj Tryz.prog QaP))) ⟨fr 48 [(0, vI a1), (2, vI 0), (3, vI 0), (4, vI 0), (5, vI y7), (6, vI oj), (15, vI a1), (16, .val (.int .i64 (IntKind.wrap .i64 (Int.tdiv a1 366)))), (17, .val (.int .i64 (IntKind.wrap .i64 (2000 + (IntKind.wrap .i64 (Int.tdiv a1 366)))))), (25, vI a1), (26, vI y7), (27, vV yH), (28, .val (.int .i64 (IntKind.wrap .i64 (a1 - vF))))], [bx 48 []], KK⟩)
theorem Qgu (lb n oC : Nat) (a1 y7 : Int) (yH : CV) (vF yw vb : Int) :
 QeE lb n (oC + 1) a1 y7 yH vF yw vb =
 bif (decide (vb < 12)) then
 (optO (C lb n Qeg [.int .i64 y7, .int .i64 (IntKind.wrap .i64 (vb + 1))]) fun vO =>
 optO (CV.asI .i64 vO) fun og =>
 bif (decide (yw < og)) then
 (some (.tup [.int .i64 y7, .int .i64 (IntKind.wrap .i64 (vb + 1)), .int .i64 (IntKind.wrap .i64 (yw + 1))]))
 else
 (optO (CV.asI .i64 vO) fun kg =>
 QeE lb n oC a1 y7 yH vF (IntKind.wrap .i64 (yw - kg)) (IntKind.wrap .i64 (vb + 1))))
 else
 (QoU lb n a1 y7 yH vF yw) := (Qad _).trans (by kernel_rfl)
theorem Ql4 (lb n : Nat) (a1 y7 : Int) :
 QiN lb n a1 y7 =
 optO (C lb n Qez [.int .i64 y7]) fun yH =>
 optO (CV.asI .i64 yH) fun vF =>
 QeE lb n n a1 y7 yH vF (IntKind.wrap .i64 (a1 - vF)) 0 := (Qad _).trans (by kernel_rfl)
theorem Qgw (lb n k7 : Nat) (a1 i4 : Int) :
 QeG lb n (k7 + 1) a1 i4 =
 optO (C lb n Qez [.int .i64 (IntKind.wrap .i64 (i4 + 1))]) fun r9 =>
 optO (CV.asI .i64 r9) fun vZ =>
 bif (decide (vZ ≤ a1)) then
 (QeG lb n k7 a1 (IntKind.wrap .i64 (i4 + 1)))
 else
 (QiN lb n a1 i4) := (Qad _).trans (by kernel_rfl)
theorem QoG (lb n : Nat) (a1 : Int) :
 top lb n QaP [.int .i64 a1] =
 bif (decide (a1 < 0)) then
 (some (.tup [.int .i64 0, .int .i64 0, .int .i64 0]))
 else
 (bif (decide (a1 ≥ 36525)) then
 (some (.tup [.int .i64 0, .int .i64 0, .int .i64 0]))
 else
 (QeG lb n n a1 (IntKind.wrap .i64 (2000 + (IntKind.wrap .i64 (Int.tdiv a1 366)))))) := by kernel_rfl
theorem Qpt (lb n : Nat) (a1 : Int) :
 top lb n QdJ [.int .i64 a1] =
 optO (bytesOf [[CV.int .u8 (IntKind.wrap .u8 (IntKind.wrap .i64 (48 + (IntKind.wrap .i64 (Int.tdiv a1 10)))))], [CV.int .u8 (IntKind.wrap .u8 (IntKind.wrap .i64 (48 + (Int.tmod a1 10))))]]) fun s2 =>
 some (.str s2) := by kernel_rfl
theorem QnP (lb n : Nat) (a1 : Int) :
 top lb n Qez [.int .i64 a1] =
 some (.int .i64 (IntKind.wrap .i64 ((IntKind.wrap .i64 (365 * (IntKind.wrap .i64 (a1 - 2000)))) + (IntKind.wrap .i64 (Int.tdiv (IntKind.wrap .i64 ((IntKind.wrap .i64 (a1 - 2000)) + 3)) 4))))) := by kernel_rfl
theorem Qt0 (lb n : Nat) (a1 : Int) :
 top lb n QhI [.int .i64 a1] =
 optO (C lb n Qct [.int .i64 a1]) fun r2 =>
 optO (CV.asT r2) fun t3 =>
 optO (t3[0]?) fun x4 =>
 optO (CV.asT r2) fun t5 =>
 optO (t5[1]?) fun x6 =>
 optO (CV.asT r2) fun t7 =>
 optO (t7[2]?) fun x9 =>
 optO (CV.asI .i64 x4) fun vZ =>
 bif (vZ == 0) then
 (some (.str []))
 else
 (optO (CV.asI .i64 x4) fun y7 =>
 optO (C lb n Qgr [.int .i64 (IntKind.wrap .i64 (Int.tdiv y7 100))]) fun yH =>
 optO (CV.asI .i64 x4) fun vF =>
 optO (C lb n Qgr [.int .i64 (Int.tmod vF 100)]) fun vL =>
 optO (CV.asS yH) fun s15 =>
 optO (CV.asS vL) fun s17 =>
 chkO (decide (s15.length + s17.length ≤ 9223372036854775807)) (
 chkO (decide ((s15 ++ s17).length + [45].length ≤ 9223372036854775807)) (
 optO (C lb n Qgr [x6]) fun gE =>
 optO (CV.asS gE) fun s19 =>
 chkO (decide (((s15 ++ s17) ++ [45]).length + s19.length ≤ 9223372036854775807)) (
 chkO (decide ((((s15 ++ s17) ++ [45]) ++ s19).length + [45].length ≤ 9223372036854775807)) (
 optO (C lb n Qgr [x9]) fun yq =>
 optO (CV.asS yq) fun s21 =>
 chkO (decide (((((s15 ++ s17) ++ [45]) ++ s19) ++ [45]).length + s21.length ≤ 9223372036854775807)) (
 some (.str (((((s15 ++ s17) ++ [45]) ++ s19) ++ [45]) ++ s21)))))))) := by kernel_rfl
noncomputable def Qf0 (lb n kQ : Nat) (yp yw vb : Int) : Option CV :=
 hold (Qau (E0 lb n 0 994) 0 (Qae (sub (B Qct) [1, 1, 1, 0, 0, 0]) ++ []) [] (sub (B Qct) [1, 1, 1, 0, 0, 0]) (Qal 0 (seqK (E0 lb n 0 996) (sub (B Qct) [1, 1, 1, 0]) (sub (B Qct) [1, 1, 1, 1]) (retK Tryz.prog (R Qct) 0 (outK (Qaj Tryz.prog Qct))))) kQ ⟨fr 33 [(0, vI yp), (2, vI 0), (3, vI 0), (4, vI 0), (5, vI yw), (6, vI vb)], [bx 33 []], KK⟩)
noncomputable def Qoc (lb n : Nat) (y6 oM yT : Int) : Option CV :=
 hold (E0 lb n 0 996 (sub (B Qct) [1, 1, 1, 1]) (retK Tryz.prog (R Qct) 0 (outK (Qaj Tryz.prog Qct))) ⟨fr 33 [(0, vI y6), (2, vI 0), (3, vI 0), (4, vI 0), (5, vI oM), (6, vI yT)], [bx 33 []], KK⟩)
theorem QqI (lb n : Nat) (y6 oM yT : Int) :
 Qoc lb n y6 oM yT =
 some (.tup [.int .i64 oM, .int .i64 yT, .int .i64 (IntKind.wrap .i64 (y6 + 1))]) := (Qad _).trans (by kernel_rfl)
theorem Qgn (lb n kQ : Nat) (yp yw vb : Int) :
 Qf0 lb n (kQ + 1) yp yw vb =
 optO (C lb n QcJ [.int .i64 yw, .int .i64 vb]) fun oY =>
 optO (CV.asI .i64 oY) fun kg =>
 bif (decide (yp ≥ kg)) then
 (optO (C lb n QcJ [.int .i64 yw, .int .i64 vb]) fun yG =>
 optO (CV.asI .i64 yG) fun mM =>
 bif ((IntKind.wrap .i64 (vb + 1)) == 13) then
 (Qf0 lb n kQ  (IntKind.wrap .i64 (yp - mM)) (IntKind.wrap .i64 (yw + 1)) 1)
 else
 (Qf0 lb n kQ  (IntKind.wrap .i64 (yp - mM)) yw (IntKind.wrap .i64 (vb + 1))))
 else
 (Qoc lb n  yp yw vb) := (Qad _).trans (by kernel_rfl)
theorem QuO (lb n : Nat) (a1 : Int) :
 top lb n Qct [.int .i64 a1] =
 bif (decide (a1 < 0)) then
 (some (.tup [.int .i64 0, .int .i64 0, .int .i64 0]))
 else
 (bif (decide (a1 ≥ 36525)) then
 (some (.tup [.int .i64 0, .int .i64 0, .int .i64 0]))
 else
 (Qf0 lb n n  a1 2000 1)) := by kernel_rfl
theorem Qwa (lb n : Nat) (a1 : Int) :
 top lb n Qgr [.int .i64 a1] =
 optO (bytesOf [[CV.int .u8 (IntKind.wrap .u8 (IntKind.wrap .i64 (48 + (IntKind.wrap .i64 (Int.tdiv a1 10)))))], [CV.int .u8 (IntKind.wrap .u8 (IntKind.wrap .i64 (48 + (Int.tmod a1 10))))]]) fun s2 =>
 some (.str s2) := by kernel_rfl
noncomputable def QeO (lb n : Nat) (a1 b2 : Int) (b3 : Bool) : Option CV :=
 hold (E0 lb n 0 995 (sub (B QcJ) [1, 0, 1, 0, 1]) (Qal 0 (seqK (E0 lb n 0 998) (sub (B QcJ) [1, 0]) (sub (B QcJ) [1, 1]) (retK Tryz.prog (R QcJ) 0 (outK (Qaj Tryz.prog QcJ))))) ⟨fr 16 [(0, vI a1), (1, vI b2), (4, vI 0), (5, vI b2), (6, vB b3)], [bx 16 []], KK⟩)
theorem QoQ (lb n : Nat) (a1 b2 : Int) (b3 : Bool) :
 QeO lb n a1 b2 b3 =
 bif b3 then
 (some (.int .i64 30))
 else
 (bif (b2 == 2) then
 (bif ((Int.tmod a1 4) == 0) then
 (some (.int .i64 29))
 else
 (some (.int .i64 28)))
 else
 (some (.int .i64 31))) := (Qad _).trans (by kernel_rfl)
theorem QsE (lb n : Nat) (a1 b2 : Int) :
 top lb n QcJ [.int .i64 a1, .int .i64 b2] =
 bif (b2 == 4) then
 (QeO lb n a1 b2 (b2 == 4))
 else
 (bif (b2 == 6) then
 (QeO lb n a1 b2 (b2 == 6))
 else
 (bif (b2 == 9) then
 (QeO lb n a1 b2 (b2 == 9))
 else
 (QeO lb n a1 b2 (b2 == 11)))) := by kernel_rfl
end Go.Proofs
