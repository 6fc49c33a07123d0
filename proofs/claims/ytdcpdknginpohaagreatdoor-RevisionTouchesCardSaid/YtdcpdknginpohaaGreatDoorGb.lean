/- Equations of functions, printed by program. Conditions: none. -/
import Derived.Test.YtdcpdknginpohaaGreatDoorEv
namespace Go.Proofs
open Go.Am
set_option maxRecDepth 100000
set_option linter.unusedVariables false
noncomputable def r07_broken_L1 :=
 fun lb n (oH : Nat) (jv : Bool) (a2 : LL) b3 wn =>
 hold (Qat (E0 lb n 0 994) 0 (Qag (sub (B Qa5) [1, 1, 0, 1, 0, 0]) ++ []) [] (sub (B Qa5) [1, 1, 0, 1, 0, 0]) (Qai 0 (seqK (E0 lb n 0 997) (sub (B Qa5) [1, 1, 0]) (sub (B Qa5) [1, 1, 1]) (retK Tryz.prog (R Qa5) 0 (outK (Qaf Tryz.prog Qa5))))) oH ⟨fr 38 [(0, .val (.list jv a2)), (1, vI b3), (4, vB false), (5, vI wn)], [bx 38 []], KK⟩)
noncomputable def QiZ (lb n : Nat) (jv : Bool) (a2 : LL) (b3 gg : Int) : Option CV :=
 hold (E0 lb n 0 997 (sub (B Qa5) [1, 1, 1]) (retK Tryz.prog (R Qa5) 0 (outK (Qaf Tryz.prog Qa5))) ⟨fr 38 [(0, .val (.list jv a2)), (1, vI b3), (4, vB false), (5, vI gg)], [bx 38 []], KK⟩)
theorem Qlo (lb n : Nat) (jv : Bool) (a2 : LL) (b3 gg : Int) :
 QiZ lb n jv a2 b3 gg =
 some (.bool false) := (Qae _).trans (by kernel_rfl)
theorem QfR (lb n oH : Nat) (jv : Bool) (a2 : LL) (b3 wn : Int) :
 r07_broken_L1 lb n (oH + 1) jv a2 b3 wn =
 bif (decide (wn ≤ b3)) then
 (optO (atL a2 wn) fun c26 =>
 chkO (c26.length == 5) (
 optO (c26[0]?) fun jO =>
 optO (atL a2 b3) fun c28 =>
 chkO (c28.length == 5) (
 optO (c28[1]?) fun jr =>
 optO (CV.asS jO) fun vi =>
 optO (CV.asS jr) fun pH =>
 bif (vi == pH) then
 (some (.bool true))
 else
 (r07_broken_L1 lb n oH jv a2 b3 (IntKind.wrap .i64 (wn + 1))))))
 else
 (QiZ lb n jv a2 b3 wn) := (Qae _).trans (by kernel_rfl)
theorem Qoo (lb n : Nat) (jv : Bool) (a2 : LL) (b3 : Int) :
 top lb n Qa5 [.list jv a2, .int .i64 b3] =
 bif (decide (b3 > 0)) then
 (optO (atL a2 b3) fun c4 =>
 chkO (c4.length == 5) (
 optO (c4[0]?) fun x5 =>
 optO (atL a2 (IntKind.wrap .i64 (b3 - 1))) fun c6 =>
 chkO (c6.length == 5) (
 optO (c6[1]?) fun x7 =>
 optO (CV.asS x5) fun s9 =>
 optO (CV.asS x7) fun pR =>
 bif (!(s9 == pR)) then
 (some (.bool true))
 else
 (r07_broken_L1 lb n n jv a2 b3 0))))
 else
 (r07_broken_L1 lb n n jv a2 b3 0) := by kernel_rfl
noncomputable def Qht (lb n : Nat) (jV : LB) (jP jD jG jC : Int) (jM : Bool) (aleg7 : LL) (vb : Bool) (l12 : LL) : Option CV :=
 hold (E0 lb n 0 997 (sub (B QbX) [1, 1, 1]) (QgA (R QbX) 83) ⟨fr 50 [(0, .val (.agg [.str jV, .int .i64 jP, .int .i64 jD, .int .i64 jG, .int .i64 jC, .list jM aleg7])), (1, .ptr 0 1 0), (2, .lst true true 83 []), (3, .lst true vb 83 l12)], [bx 50 [(1, some [vS jV, vI jP, vI jD, vI jG, vI jC, .val (.list jM aleg7)])]], KK⟩)
noncomputable def QfG (lb n : Nat) (jV : LB) (jP jD jG jC : Int) (jM : Bool) (aleg7 : LL) (kU : Bool) (l14 : LL) : Option CV :=
 hold (E0 lb n 0 996 (sub (B QbX) [1, 1, 1, 1]) (QgA (R QbX) 83) ⟨fr 50 [(0, .val (.agg [.str jV, .int .i64 jP, .int .i64 jD, .int .i64 jG, .int .i64 jC, .list jM aleg7])), (1, .ptr 0 1 0), (2, .lst true true 83 []), (3, .lst true kU 83 l14)], [bx 50 [(1, some [vS jV, vI jP, vI jD, vI jG, vI jC, .val (.list jM aleg7)])]], KK⟩)
noncomputable def Qhz (lb n : Nat) (jV : LB) (jP jD jG jC : Int) (jM : Bool) (aleg7 : LL) (vO : Bool) (l20 : LL) : Option CV :=
 hold (E0 lb n 0 995 (sub (B QbX) [1, 1, 1, 1, 1]) (QgA (R QbX) 83) ⟨fr 50 [(0, .val (.agg [.str jV, .int .i64 jP, .int .i64 jD, .int .i64 jG, .int .i64 jC, .list jM aleg7])), (1, .ptr 0 1 0), (2, .lst true true 83 []), (3, .lst true vO 83 l20)], [bx 50 [(1, some [vS jV, vI jP, vI jD, vI jG, vI jC, .val (.list jM aleg7)])]], KK⟩)
theorem Qnp (lb n : Nat) (jV : LB) (jP jD jG jC : Int) (jM : Bool) (aleg7 : LL) (vO : Bool) (l20 : LL) :
 Qhz lb n jV jP jD jG jC jM aleg7 vO l20 =
 bif (decide ((aleg7.length : Int) < 1)) then
 (chkO (room (l20.length + 1) 24) (
 some (.list (vO && false) (l20 ++ [[CV.int .i64 4, CV.str [108, 101, 103, 115]]]))))
 else
 (bif (decide ((aleg7.length : Int) > 6)) then
 (chkO (room (l20.length + 1) 24) (
 some (.list (vO && false) (l20 ++ [[CV.int .i64 4, CV.str [108, 101, 103, 115]]]))))
 else
 (some (.list vO l20))) := (Qae _).trans (by kernel_rfl)
theorem QmM (lb n : Nat) (jV : LB) (jP jD jG jC : Int) (jM : Bool) (aleg7 : LL) (kU : Bool) (l14 : LL) :
 QfG lb n jV jP jD jG jC jM aleg7 kU l14 =
 optO (C lb n Qdk [.agg [.int .i64 jD, .int .i64 jG, .int .i64 jC]]) fun nC =>
 optO (CV.asI .i64 nC) fun j6 =>
 bif (j6 != 0) then
 (optO (C lb n Qdk [.agg [.int .i64 jD, .int .i64 jG, .int .i64 jC]]) fun o4 =>
 chkO (CV.isCell o4) (
 chkO (room (l14.length + 1) 24) (
 Qhz lb n jV jP jD jG jC jM aleg7 (kU && false) (l14 ++ [[o4, CV.str [112, 101, 114, 105, 111, 100]]]))))
 else
 (Qhz lb n jV jP jD jG jC jM aleg7 kU l14) := (Qae _).trans (by kernel_rfl)
theorem QmR (lb n : Nat) (jV : LB) (jP jD jG jC : Int) (jM : Bool) (aleg7 : LL) (vb : Bool) (l12 : LL) :
 Qht lb n jV jP jD jG jC jM aleg7 vb l12 =
 bif (decide (jP < 1)) then
 (chkO (room (l12.length + 1) 24) (
 QfG lb n jV jP jD jG jC jM aleg7 (vb && false) (l12 ++ [[CV.int .i64 2, CV.str [110, 117, 109, 98, 101, 114]]])))
 else
 (bif (decide (jP > 9999)) then
 (chkO (room (l12.length + 1) 24) (
 QfG lb n jV jP jD jG jC jM aleg7 (vb && false) (l12 ++ [[CV.int .i64 2, CV.str [110, 117, 109, 98, 101, 114]]])))
 else
 (QfG lb n jV jP jD jG jC jM aleg7 vb l12)) := (Qae _).trans (by kernel_rfl)
theorem Qqp (lb n : Nat) (jV : LB) (jP jD jG jC : Int) (jM : Bool) (aleg7 : LL) :
 top lb n QbX [.agg [.str jV, .int .i64 jP, .int .i64 jD, .int .i64 jG, .int .i64 jC, .list jM aleg7]] =
 optO (C lb n QfT [.str jV]) fun r9 =>
 optO (CV.asB r9) fun qg =>
 bif (!qg) then
 (Qht lb n jV jP jD jG jC jM aleg7 false [[CV.int .i64 5, CV.str [99, 97, 114, 114, 105, 101, 114]]])
 else
 (Qht lb n jV jP jD jG jC jM aleg7 true []) := by kernel_rfl
noncomputable def Qbs (lb n jR : Nat) (ja : Bool) (aair2 : LL) (jb : Bool) (adis4 : LL) (bcar5 : LB) (jg jd jf jc : Int) (je : Bool) (bleg12 : LL) (jE : Bool × LL) (yZ : Bool) (l242 : LL) (jI : Int) : Option CV :=
 hold (Qat (E0 lb n 0 993) 0 (Qag (sub (B Qah) [1, 1, 1, 0, 1, 0, 0]) ++ [8, 10, 12]) [7, 9, 11] (sub (B Qah) [1, 1, 1, 0, 1, 0, 0]) (Qai 0 (seqK (E0 lb n 0 996) (sub (B Qah) [1, 1, 1, 0]) (sub (B Qah) [1, 1, 1, 1]) (retK Tryz.prog (R Qah) 0 (outK (Qaf Tryz.prog Qah))))) jR ⟨fr 133 [(0, .val (.agg [.list ja aair2, .list jb adis4])), (1, .val (.agg [.str bcar5, .int .i64 jg, .int .i64 jd, .int .i64 jf, .int .i64 jc, .list je bleg12])), (2, .ptr 0 2 0), (3, .ptr 0 3 0), (4, .lst true true 83 []), (5, .lst true yZ 83 l242), (6, vI jI), (15, .val (.agg [.str bcar5, .int .i64 jg, .int .i64 jd, .int .i64 jf, .int .i64 jc, .list je bleg12])), (16, .val (.list jE.1 jE.2))], [bx 133 [(2, some [.val (.list ja aair2), .val (.list jb adis4)]), (3, some [vS bcar5, vI jg, vI jd, vI jf, vI jc, .val (.list je bleg12)])]], KK⟩)
noncomputable def QeD (lb n jR : Nat) (ja : Bool) (aair2 : LL) (jb : Bool) (adis4 : LL) (bcar5 : LB) (jg jd jf jc : Int) (je : Bool) (bleg12 : LL) (jI : Int) (s370 : LB) (jE : Bool × LL) (c363 : List CV) (j1 j0 j3 j4 j9 wb : CV) (y0 : Bool) (l374 : LL) : Option CV :=
 hold (E0 lb n 0 987 (sub (B Qah) [1, 1, 1, 0, 1, 0, 0, 1, 0, 0, 1, 1, 1]) (Qai 1 (seqK (E0 lb n 0 991) (sub (B Qah) [1, 1, 1, 0, 1, 0, 0, 1, 0]) (sub (B Qah) [1, 1, 1, 0, 1, 0, 0, 1, 1]) (QbL 0 (Qag (sub (B Qah) [1, 1, 1, 0, 1, 0, 0]) ++ [8, 10, 12]) [7, 9, 11] (Qat (E0 lb n 0 993) 0 (Qag (sub (B Qah) [1, 1, 1, 0, 1, 0, 0]) ++ [8, 10, 12]) [7, 9, 11] (sub (B Qah) [1, 1, 1, 0, 1, 0, 0]) (Qai 0 (seqK (E0 lb n 0 996) (sub (B Qah) [1, 1, 1, 0]) (sub (B Qah) [1, 1, 1, 1]) (retK Tryz.prog (R Qah) 0 (outK (Qaf Tryz.prog Qah))))) jR) (Qai 0 (seqK (E0 lb n 0 996) (sub (B Qah) [1, 1, 1, 0]) (sub (B Qah) [1, 1, 1, 1]) (retK Tryz.prog (R Qah) 0 (outK (Qaf Tryz.prog Qah)))))))) ⟨fr 133 [(0, .val (.agg [.list ja aair2, .list jb adis4])), (1, .val (.agg [.str bcar5, .int .i64 jg, .int .i64 jd, .int .i64 jf, .int .i64 jc, .list je bleg12])), (2, .ptr 0 2 0), (3, .ptr 0 3 0), (4, .lst true true 83 []), (5, .lst true y0 83 l374), (6, vI jI), (7, .ptr 0 7 0), (8, .val (.str (([108, 101, 103, 32] : LB) ++ s370))), (15, .val (.agg [.str bcar5, .int .i64 jg, .int .i64 jd, .int .i64 jf, .int .i64 jc, .list je bleg12])), (16, .val (.list jE.1 jE.2)), (35, .ptr 0 3 5), (36, .val (.list je bleg12)), (37, vI jI), (38, .cptr c363 0), (39, .val (.agg [j1, j0, j3, j4, j9])), (40, vI jI), (41, vV wb), (42, .val (.str (([108, 101, 103, 32] : LB) ++ s370)))], [bx 133 [(2, some [.val (.list ja aair2), .val (.list jb adis4)]), (3, some [vS bcar5, vI jg, vI jd, vI jf, vI jc, .val (.list je bleg12)]), (7, some [.val j1, .val j0, .val j3, .val j4, .val j9])]], KK⟩)
noncomputable def Qdy (lb n jR : Nat) (ja : Bool) (aair2 : LL) (jb : Bool) (adis4 : LL) (bcar5 : LB) (jg jd jf jc : Int) (je : Bool) (bleg12 : LL) (jI : Int) (s370 : LB) (wA wz : CV) (jE : Bool × LL) (c363 : List CV) (j1 j0 j3 j4 j9 wb wu wK wq wJ wS wX wP wO wW wN wY wV wR wU : CV) (vj : Bool) (l399 : LL) : Option CV :=
 hold (E0 lb n 0 984 (sub (B Qah) [1, 1, 1, 0, 1, 0, 0, 1, 0, 0, 1, 1, 1, 1, 1, 1]) (Qai 1 (seqK (E0 lb n 0 991) (sub (B Qah) [1, 1, 1, 0, 1, 0, 0, 1, 0]) (sub (B Qah) [1, 1, 1, 0, 1, 0, 0, 1, 1]) (QbL 0 (Qag (sub (B Qah) [1, 1, 1, 0, 1, 0, 0]) ++ [8, 10, 12]) [7, 9, 11] (Qat (E0 lb n 0 993) 0 (Qag (sub (B Qah) [1, 1, 1, 0, 1, 0, 0]) ++ [8, 10, 12]) [7, 9, 11] (sub (B Qah) [1, 1, 1, 0, 1, 0, 0]) (Qai 0 (seqK (E0 lb n 0 996) (sub (B Qah) [1, 1, 1, 0]) (sub (B Qah) [1, 1, 1, 1]) (retK Tryz.prog (R Qah) 0 (outK (Qaf Tryz.prog Qah))))) jR) (Qai 0 (seqK (E0 lb n 0 996) (sub (B Qah) [1, 1, 1, 0]) (sub (B Qah) [1, 1, 1, 1]) (retK Tryz.prog (R Qah) 0 (outK (Qaf Tryz.prog Qah)))))))) ⟨fr 133 [(0, .val (.agg [.list ja aair2, .list jb adis4])), (1, .val (.agg [.str bcar5, .int .i64 jg, .int .i64 jd, .int .i64 jf, .int .i64 jc, .list je bleg12])), (2, .ptr 0 2 0), (3, .ptr 0 3 0), (4, .lst true true 83 []), (5, .lst true vj 83 l399), (6, vI jI), (7, .ptr 0 7 0), (8, .val (.str (([108, 101, 103, 32] : LB) ++ s370))), (9, .ptr 0 9 0), (10, vV wA), (11, .ptr 0 11 0), (12, vV wz), (15, .val (.agg [.str bcar5, .int .i64 jg, .int .i64 jd, .int .i64 jf, .int .i64 jc, .list je bleg12])), (16, .val (.list jE.1 jE.2)), (35, .ptr 0 3 5), (36, .val (.list je bleg12)), (37, vI jI), (38, .cptr c363 0), (39, .val (.agg [j1, j0, j3, j4, j9])), (40, vI jI), (41, vV wb), (42, .val (.str (([108, 101, 103, 32] : LB) ++ s370))), (52, vV wu), (53, .val (.agg [.list ja aair2, .list jb adis4])), (54, .ptr 0 7 0), (55, vV j1), (56, vV wu), (57, vV wK), (58, vV wA), (59, vV wq), (60, .val (.agg [.list ja aair2, .list jb adis4])), (61, .ptr 0 7 1), (62, vV j0), (63, vV wq), (64, vV wJ), (65, vV wz)], [bx 133 [(2, some [.val (.list ja aair2), .val (.list jb adis4)]), (3, some [vS bcar5, vI jg, vI jd, vI jf, vI jc, .val (.list je bleg12)]), (7, some [.val j1, .val j0, .val j3, .val j4, .val j9]), (9, some [.val wS, .val wX, .val wP, .val wO, .val wW]), (11, some [.val wN, .val wY, .val wV, .val wR, .val wU])]], KK⟩)
noncomputable def Qew (lb n jR : Nat) (ja : Bool) (aair2 : LL) (jb : Bool) (adis4 : LL) (bcar5 : LB) (jg jd jf jc : Int) (je : Bool) (bleg12 : LL) (jI : Int) (s370 : LB) (wA wz : CV) (jE : Bool × LL) (c363 : List CV) (j1 j0 j3 j4 j9 wb wu wK wq wJ wS wX wP wO wW wN wY wV wR wU : CV) (y5 : Bool) (l403 : LL) : Option CV :=
 hold (E0 lb n 0 983 (sub (B Qah) [1, 1, 1, 0, 1, 0, 0, 1, 0, 0, 1, 1, 1, 1, 1, 1, 1]) (Qai 1 (seqK (E0 lb n 0 991) (sub (B Qah) [1, 1, 1, 0, 1, 0, 0, 1, 0]) (sub (B Qah) [1, 1, 1, 0, 1, 0, 0, 1, 1]) (QbL 0 (Qag (sub (B Qah) [1, 1, 1, 0, 1, 0, 0]) ++ [8, 10, 12]) [7, 9, 11] (Qat (E0 lb n 0 993) 0 (Qag (sub (B Qah) [1, 1, 1, 0, 1, 0, 0]) ++ [8, 10, 12]) [7, 9, 11] (sub (B Qah) [1, 1, 1, 0, 1, 0, 0]) (Qai 0 (seqK (E0 lb n 0 996) (sub (B Qah) [1, 1, 1, 0]) (sub (B Qah) [1, 1, 1, 1]) (retK Tryz.prog (R Qah) 0 (outK (Qaf Tryz.prog Qah))))) jR) (Qai 0 (seqK (E0 lb n 0 996) (sub (B Qah) [1, 1, 1, 0]) (sub (B Qah) [1, 1, 1, 1]) (retK Tryz.prog (R Qah) 0 (outK (Qaf Tryz.prog Qah)))))))) ⟨fr 133 [(0, .val (.agg [.list ja aair2, .list jb adis4])), (1, .val (.agg [.str bcar5, .int .i64 jg, .int .i64 jd, .int .i64 jf, .int .i64 jc, .list je bleg12])), (2, .ptr 0 2 0), (3, .ptr 0 3 0), (4, .lst true true 83 []), (5, .lst true y5 83 l403), (6, vI jI), (7, .ptr 0 7 0), (8, .val (.str (([108, 101, 103, 32] : LB) ++ s370))), (9, .ptr 0 9 0), (10, vV wA), (11, .ptr 0 11 0), (12, vV wz), (15, .val (.agg [.str bcar5, .int .i64 jg, .int .i64 jd, .int .i64 jf, .int .i64 jc, .list je bleg12])), (16, .val (.list jE.1 jE.2)), (35, .ptr 0 3 5), (36, .val (.list je bleg12)), (37, vI jI), (38, .cptr c363 0), (39, .val (.agg [j1, j0, j3, j4, j9])), (40, vI jI), (41, vV wb), (42, .val (.str (([108, 101, 103, 32] : LB) ++ s370))), (52, vV wu), (53, .val (.agg [.list ja aair2, .list jb adis4])), (54, .ptr 0 7 0), (55, vV j1), (56, vV wu), (57, vV wK), (58, vV wA), (59, vV wq), (60, .val (.agg [.list ja aair2, .list jb adis4])), (61, .ptr 0 7 1), (62, vV j0), (63, vV wq), (64, vV wJ), (65, vV wz)], [bx 133 [(2, some [.val (.list ja aair2), .val (.list jb adis4)]), (3, some [vS bcar5, vI jg, vI jd, vI jf, vI jc, .val (.list je bleg12)]), (7, some [.val j1, .val j0, .val j3, .val j4, .val j9]), (9, some [.val wS, .val wX, .val wP, .val wO, .val wW]), (11, some [.val wN, .val wY, .val wV, .val wR, .val wU])]], KK⟩)
theorem Ql9 (lb n jR : Nat) (ja : Bool) (aair2 : LL) (jb : Bool) (adis4 : LL) (bcar5 : LB) (jg jd jf jc : Int) (je : Bool) (bleg12 : LL) (jI : Int) (s370 : LB) (wA wz : CV) (jE : Bool × LL) (c363 : List CV) (j1 j0 j3 j4 j9 wb wu wK wq wJ wS wX wP wO wW wN wY wV wR wU : CV) (y5 : Bool) (l403 : LL) :
 Qew lb n jR ja aair2 jb adis4 bcar5 jg jd jf jc je bleg12 jI s370 wA wz jE c363 j1 j0 j3 j4 j9 wb wu wK wq wJ wS wX wP wO wW wN wY wV wR wU y5 l403 =
 optO (C lb n Qct [j3]) fun na =>
 optO (CV.asB na) fun nx =>
 bif nx then
 (chkO (room (l403.length + 1) 24) (
 Qbs lb n jR ja aair2 jb adis4 bcar5 jg jd jf jc je bleg12 jE (y5 && false) (l403 ++ [[CV.int .i64 2, CV.str (([108, 101, 103, 32] : LB) ++ s370)]]) (IntKind.wrap .i64 (jI + 1))))
 else
 (optO (C lb n Qct [j4]) fun my =>
 optO (CV.asB my) fun mP =>
 bif mP then
 (chkO (room (l403.length + 1) 24) (
 Qbs lb n jR ja aair2 jb adis4 bcar5 jg jd jf jc je bleg12 jE (y5 && false) (l403 ++ [[CV.int .i64 2, CV.str (([108, 101, 103, 32] : LB) ++ s370)]]) (IntKind.wrap .i64 (jI + 1))))
 else
 (Qbs lb n jR ja aair2 jb adis4 bcar5 jg jd jf jc je bleg12 jE y5 l403 (IntKind.wrap .i64 (jI + 1)))) := (Qae _).trans (by kernel_rfl)
theorem QlK (lb n jR : Nat) (ja : Bool) (aair2 : LL) (jb : Bool) (adis4 : LL) (bcar5 : LB) (jg jd jf jc : Int) (je : Bool) (bleg12 : LL) (jI : Int) (s370 : LB) (wA wz : CV) (jE : Bool × LL) (c363 : List CV) (j1 j0 j3 j4 j9 wb wu wK wq wJ wS wX wP wO wW wN wY wV wR wU : CV) (vj : Bool) (l399 : LL) :
 Qdy lb n jR ja aair2 jb adis4 bcar5 jg jd jf jc je bleg12 jI s370 wA wz jE c363 j1 j0 j3 j4 j9 wb wu wK wq wJ wS wX wP wO wW wN wY wV wR wU vj l399 =
 optO (C lb n Qa5 [.list je bleg12, .int .i64 jI]) fun nu =>
 optO (CV.asB nu) fun mX =>
 bif mX then
 (chkO (room (l399.length + 1) 24) (
 Qew lb n jR ja aair2 jb adis4 bcar5 jg jd jf jc je bleg12 jI s370 wA wz jE c363 j1 j0 j3 j4 j9 wb wu wK wq wJ wS wX wP wO wW wN wY wV wR wU (vj && false) (l399 ++ [[CV.int .i64 15, CV.str (([108, 101, 103, 32] : LB) ++ s370)]])))
 else
 (Qew lb n jR ja aair2 jb adis4 bcar5 jg jd jf jc je bleg12 jI s370 wA wz jE c363 j1 j0 j3 j4 j9 wb wu wK wq wJ wS wX wP wO wW wN wY wV wR wU vj l399) := (Qae _).trans (by kernel_rfl)
theorem QlQ (lb n jR : Nat) (ja : Bool) (aair2 : LL) (jb : Bool) (adis4 : LL) (bcar5 : LB) (jg jd jf jc : Int) (je : Bool) (bleg12 : LL) (jI : Int) (s370 : LB) (jE : Bool × LL) (c363 : List CV) (j1 j0 j3 j4 j9 wb : CV) (y0 : Bool) (l374 : LL) :
 QeD lb n jR ja aair2 jb adis4 bcar5 jg jd jf jc je bleg12 jI s370 jE c363 j1 j0 j3 j4 j9 wb y0 l374 =
 optO (C lb n Qa9 [.agg [.list ja aair2, .list jb adis4], j1]) fun wu =>
 optO (CV.asT wu) fun nm =>
 optO (nm[0]?) fun wK =>
 optO (CV.asT wu) fun mD =>
 optO (mD[1]?) fun wA =>
 optO (CV.asA wK) fun c380 =>
 chkO (c380.length == 5) (
 optO (c380[0]?) fun wS =>
 optO (c380[1]?) fun wX =>
 optO (c380[2]?) fun wP =>
 optO (c380[3]?) fun wO =>
 optO (c380[4]?) fun wW =>
 optO (C lb n Qa9 [.agg [.list ja aair2, .list jb adis4], j0]) fun wq =>
 optO (CV.asT wq) fun ni =>
 optO (ni[0]?) fun wJ =>
 optO (CV.asT wq) fun mZ =>
 optO (mZ[1]?) fun wz =>
 optO (CV.asA wJ) fun c391 =>
 chkO (c391.length == 5) (
 optO (c391[0]?) fun wN =>
 optO (c391[1]?) fun wY =>
 optO (c391[2]?) fun wV =>
 optO (c391[3]?) fun wR =>
 optO (c391[4]?) fun wU =>
 optO (CV.asB wA) fun nq =>
 bif (!nq) then
 (chkO (room (l374.length + 1) 24) (
 Qdy lb n jR ja aair2 jb adis4 bcar5 jg jd jf jc je bleg12 jI s370 wA wz jE c363 j1 j0 j3 j4 j9 wb wu wK wq wJ wS wX wP wO wW wN wY wV wR wU (y0 && false) (l374 ++ [[CV.int .i64 14, CV.str (([108, 101, 103, 32] : LB) ++ s370)]])))
 else
 (optO (CV.asB wz) fun mU =>
 bif (!mU) then
 (chkO (room (l374.length + 1) 24) (
 Qdy lb n jR ja aair2 jb adis4 bcar5 jg jd jf jc je bleg12 jI s370 wA wz jE c363 j1 j0 j3 j4 j9 wb wu wK wq wJ wS wX wP wO wW wN wY wV wR wU (y0 && false) (l374 ++ [[CV.int .i64 14, CV.str (([108, 101, 103, 32] : LB) ++ s370)]])))
 else
 (Qdy lb n jR ja aair2 jb adis4 bcar5 jg jd jf jc je bleg12 jI s370 wA wz jE c363 j1 j0 j3 j4 j9 wb wu wK wq wJ wS wX wP wO wW wN wY wV wR wU y0 l374)))) := (Qae _).trans (by kernel_rfl)
noncomputable def QjB (lb n : Nat) (ja : Bool) (aair2 : LL) (jb : Bool) (adis4 : LL) (bcar5 : LB) (jg jd jf jc : Int) (je : Bool) (bleg12 : LL) (jE : Bool × LL) (ki : Bool) (v7 : LL) (wH : Int) : Option CV :=
 hold (E0 lb n 0 996 (sub (B Qah) [1, 1, 1, 1]) (retK Tryz.prog (R Qah) 0 (outK (Qaf Tryz.prog Qah))) ⟨fr 133 [(0, .val (.agg [.list ja aair2, .list jb adis4])), (1, .val (.agg [.str bcar5, .int .i64 jg, .int .i64 jd, .int .i64 jf, .int .i64 jc, .list je bleg12])), (2, .ptr 0 2 0), (3, .ptr 0 3 0), (4, .lst true true 83 []), (5, .lst true ki 83 v7), (6, vI wH), (15, .val (.agg [.str bcar5, .int .i64 jg, .int .i64 jd, .int .i64 jf, .int .i64 jc, .list je bleg12])), (16, .val (.list jE.1 jE.2))], [bx 133 [(2, some [.val (.list ja aair2), .val (.list jb adis4)]), (3, some [vS bcar5, vI jg, vI jd, vI jf, vI jc, .val (.list je bleg12)])]], KK⟩)
noncomputable def QcA (lb n vF : Nat) (ja : Bool) (aair2 : LL) (jb : Bool) (adis4 : LL) (bcar5 : LB) (jg jd jf jc : Int) (je : Bool) (bleg12 : LL) (wH : Int) (wL : CV) (jE : Bool × LL) (yU : Bool) (l429 : LL) (yt : Int) : Option CV :=
 hold (Qat (E0 lb n 0 991) 0 (Qag (sub (B Qah) [1, 1, 1, 1, 1, 0, 1, 0, 0]) ++ []) [] (sub (B Qah) [1, 1, 1, 1, 1, 0, 1, 0, 0]) (Qai 2 (seqK (E0 lb n 0 994) (sub (B Qah) [1, 1, 1, 1, 1, 0]) (sub (B Qah) [1, 1, 1, 1, 1, 1]) (retK Tryz.prog (R Qah) 0 (outK (Qaf Tryz.prog Qah))))) vF ⟨fr 133 [(0, .val (.agg [.list ja aair2, .list jb adis4])), (1, .val (.agg [.str bcar5, .int .i64 jg, .int .i64 jd, .int .i64 jf, .int .i64 jc, .list je bleg12])), (2, .ptr 0 2 0), (3, .ptr 0 3 0), (4, .lst true true 83 []), (5, .lst true yU 83 l429), (6, vI wH), (13, vV wL), (14, vI yt), (15, .val (.agg [.str bcar5, .int .i64 jg, .int .i64 jd, .int .i64 jf, .int .i64 jc, .list je bleg12])), (16, .val (.list jE.1 jE.2)), (99, .ptr 0 3 2), (100, .val (.agg [.int .i64 jd, .int .i64 jf, .int .i64 jc])), (101, vV wL)], [bx 133 [(2, some [.val (.list ja aair2), .val (.list jb adis4)]), (3, some [vS bcar5, vI jg, vI jd, vI jf, vI jc, .val (.list je bleg12)])]], KK⟩)
noncomputable def Qgz (lb n : Nat) (ja : Bool) (aair2 : LL) (jb : Bool) (adis4 : LL) (bcar5 : LB) (jg jd jf jc : Int) (je : Bool) (bleg12 : LL) (wH : Int) (wL : CV) (jE : Bool × LL) (v6 : Bool) (vU : LL) (oi : Int) : Option CV :=
 hold (E0 lb n 0 994 (sub (B Qah) [1, 1, 1, 1, 1, 1]) (retK Tryz.prog (R Qah) 0 (outK (Qaf Tryz.prog Qah))) ⟨fr 133 [(0, .val (.agg [.list ja aair2, .list jb adis4])), (1, .val (.agg [.str bcar5, .int .i64 jg, .int .i64 jd, .int .i64 jf, .int .i64 jc, .list je bleg12])), (2, .ptr 0 2 0), (3, .ptr 0 3 0), (4, .lst true true 83 []), (5, .lst true v6 83 vU), (6, vI wH), (13, vV wL), (14, vI oi), (15, .val (.agg [.str bcar5, .int .i64 jg, .int .i64 jd, .int .i64 jf, .int .i64 jc, .list je bleg12])), (16, .val (.list jE.1 jE.2)), (99, .ptr 0 3 2), (100, .val (.agg [.int .i64 jd, .int .i64 jf, .int .i64 jc])), (101, vV wL)], [bx 133 [(2, some [.val (.list ja aair2), .val (.list jb adis4)]), (3, some [vS bcar5, vI jg, vI jd, vI jf, vI jc, .val (.list je bleg12)])]], KK⟩)
theorem QeN (lb n : Nat) (ja : Bool) (aair2 : LL) (jb : Bool) (adis4 : LL) (bcar5 : LB) (jg jd jf jc : Int) (je : Bool) (bleg12 : LL) (wH : Int) (wL : CV) (jE : Bool × LL) (v6 : Bool) (vU : LL) (oi : Int) :
 Qgz lb n ja aair2 jb adis4 bcar5 jg jd jf jc je bleg12 wH wL jE v6 vU oi =
 some (.list v6 vU) := (Qae _).trans (by kernel_rfl)
theorem QcQ (lb n vF : Nat) (ja : Bool) (aair2 : LL) (jb : Bool) (adis4 : LL) (bcar5 : LB) (jg jd jf jc : Int) (je : Bool) (bleg12 : LL) (wH : Int) (wL : CV) (jE : Bool × LL) (yU : Bool) (l429 : LL) (yt : Int) :
 QcA lb n (vF + 1) ja aair2 jb adis4 bcar5 jg jd jf jc je bleg12 wH wL jE yU l429 yt =
 bif ((l429.length : Int) == 0) then
 (optO (CV.asL wL) fun mV =>
 bif (decide (yt < (mV.2.length : Int))) then
 (optO (CV.asL wL) fun mN =>
 optO (atL mN.2 yt) fun c446 =>
 chkO (c446.length == 1) (
 optO (c446[0]?) fun mG =>
 optO (C lb n Qbi [.agg [.list ja aair2, .list jb adis4], .agg [.str bcar5, .int .i64 jg, .int .i64 jd, .int .i64 jf, .int .i64 jc, .list je bleg12], mG]) fun m7 =>
 optO (C lb n Qa2 [m7]) fun ns =>
 optO (CV.asB ns) fun mM =>
 bif (!mM) then
 (optO (CV.asL wL) fun nh =>
 optO (atL nh.2 yt) fun c452 =>
 chkO (c452.length == 1) (
 optO (c452[0]?) fun nj =>
 optO (C lb n QfF [nj]) fun mL =>
 optO (CV.asS mL) fun s455 =>
 chkO (decide (([100, 97, 121, 32] : LB).length + s455.length ≤ 9223372036854775807)) (
 chkO (room (l429.length + 1) 24) (
 QcA lb n vF ja aair2 jb adis4 bcar5 jg jd jf jc je bleg12 wH wL jE (yU && false) (l429 ++ [[CV.int .i64 13, CV.str (([100, 97, 121, 32] : LB) ++ s455)]]) (IntKind.wrap .i64 (yt + 1))))))
 else
 (QcA lb n vF ja aair2 jb adis4 bcar5 jg jd jf jc je bleg12 wH wL jE yU l429 (IntKind.wrap .i64 (yt + 1)))))
 else
 (Qgz lb n ja aair2 jb adis4 bcar5 jg jd jf jc je bleg12 wH wL jE yU l429 yt))
 else
 (Qgz lb n ja aair2 jb adis4 bcar5 jg jd jf jc je bleg12 wH wL jE yU l429 yt) := (Qae _).trans (by kernel_rfl)
theorem Qmh (lb n : Nat) (ja : Bool) (aair2 : LL) (jb : Bool) (adis4 : LL) (bcar5 : LB) (jg jd jf jc : Int) (je : Bool) (bleg12 : LL) (jE : Bool × LL) (ki : Bool) (v7 : LL) (wH : Int) :
 QjB lb n ja aair2 jb adis4 bcar5 jg jd jf jc je bleg12 jE ki v7 wH =
 optO (C lb n QbA [.agg [.int .i64 jd, .int .i64 jf, .int .i64 jc]]) fun wL =>
 QcA lb n n ja aair2 jb adis4 bcar5 jg jd jf jc je bleg12 wH wL jE ki v7 0 := (Qae _).trans (by kernel_rfl)
theorem Qf0 (lb n jR : Nat) (ja : Bool) (aair2 : LL) (jb : Bool) (adis4 : LL) (bcar5 : LB) (jg jd jf jc : Int) (je : Bool) (bleg12 : LL) (jE : Bool × LL) (yZ : Bool) (l242 : LL) (jI : Int) :
 Qbs lb n (jR + 1) ja aair2 jb adis4 bcar5 jg jd jf jc je bleg12 jE yZ l242 jI =
 bif (decide (jI < (bleg12.length : Int))) then
 (optO (atL bleg12 jI) fun c363 =>
 chkO (c363.length == 5) (
 optO (c363[0]?) fun j1 =>
 optO (c363[1]?) fun j0 =>
 optO (c363[2]?) fun j3 =>
 optO (c363[3]?) fun j4 =>
 optO (c363[4]?) fun j9 =>
 optO (C lb n QcE [.int .i64 jI]) fun wb =>
 optO (CV.asS wb) fun s370 =>
 chkO (decide (([108, 101, 103, 32] : LB).length + s370.length ≤ 9223372036854775807)) (
 optO (C lb n QbB [j9, .int .i64 3, .int .i64 3]) fun nb =>
 optO (CV.asB nb) fun mC =>
 bif (!mC) then
 (chkO (room (l242.length + 1) 24) (
 QeD lb n jR ja aair2 jb adis4 bcar5 jg jd jf jc je bleg12 jI s370 jE c363 j1 j0 j3 j4 j9 wb (yZ && false) (l242 ++ [[CV.int .i64 5, CV.str (([108, 101, 103, 32] : LB) ++ s370)]])))
 else
 (QeD lb n jR ja aair2 jb adis4 bcar5 jg jd jf jc je bleg12 jI s370 jE c363 j1 j0 j3 j4 j9 wb yZ l242))))
 else
 (QjB lb n ja aair2 jb adis4 bcar5 jg jd jf jc je bleg12 jE yZ l242 jI) := (Qae _).trans (by kernel_rfl)
theorem QoO (lb n : Nat) (ja : Bool) (aair2 : LL) (jb : Bool) (adis4 : LL) (bcar5 : LB) (jg jd jf jc : Int) (je : Bool) (bleg12 : LL) :
 top lb n Qah [.agg [.list ja aair2, .list jb adis4], .agg [.str bcar5, .int .i64 jg, .int .i64 jd, .int .i64 jf, .int .i64 jc, .list je bleg12]] =
 optO (C lb n QbX [.agg [.str bcar5, .int .i64 jg, .int .i64 jd, .int .i64 jf, .int .i64 jc, .list je bleg12]]) fun jS =>
 optO (CV.asL jS) fun jE =>
 bif (decide ((bleg12.length : Int) < 1)) then
 (some (.list jE.1 jE.2))
 else
 (bif (decide ((bleg12.length : Int) > 6)) then
 (some (.list jE.1 jE.2))
 else
 (Qbs lb n n ja aair2 jb adis4 bcar5 jg jd jf jc je bleg12 jE jE.1 jE.2 0)) := by kernel_rfl
theorem Qpc (lb n : Nat) (a1 : Int) :
 top lb n QfF [.int .i64 a1] =
 optO (C lb n QbM [.int .i64 a1]) fun r2 =>
 optO (CV.asT r2) fun t3 =>
 optO (t3[0]?) fun x4 =>
 optO (CV.asT r2) fun t5 =>
 optO (t5[1]?) fun x6 =>
 optO (CV.asT r2) fun t7 =>
 optO (t7[2]?) fun x9 =>
 optO (CV.asI .i64 x4) fun yn =>
 bif (yn == 0) then
 (some (.str []))
 else
 (optO (CV.asI .i64 x4) fun gF =>
 optO (C lb n Qev [.int .i64 (IntKind.wrap .i64 (Int.tdiv gF 100))]) fun vc =>
 optO (CV.asI .i64 x4) fun kB =>
 optO (C lb n Qev [.int .i64 (Int.tmod kB 100)]) fun jj =>
 optO (CV.asS vc) fun s15 =>
 optO (CV.asS jj) fun s17 =>
 chkO (decide (s15.length + s17.length ≤ 9223372036854775807)) (
 chkO (decide ((s15 ++ s17).length + [45].length ≤ 9223372036854775807)) (
 optO (C lb n Qev [x6]) fun o4 =>
 optO (CV.asS o4) fun s19 =>
 chkO (decide (((s15 ++ s17) ++ [45]).length + s19.length ≤ 9223372036854775807)) (
 chkO (decide ((((s15 ++ s17) ++ [45]) ++ s19).length + [45].length ≤ 9223372036854775807)) (
 optO (C lb n Qev [x9]) fun wa =>
 optO (CV.asS wa) fun s21 =>
 chkO (decide (((((s15 ++ s17) ++ [45]) ++ s19) ++ [45]).length + s21.length ≤ 9223372036854775807)) (
 some (.str (((((s15 ++ s17) ++ [45]) ++ s19) ++ [45]) ++ s21)))))))) := by kernel_rfl
noncomputable def Qd5 (lb n yH : Nat) (j6 wn yd : Int) : Option CV :=
 hold (Qat (E0 lb n 0 994) 0 (Qag (sub (B QbM) [1, 1, 1, 0, 0, 0]) ++ []) [] (sub (B QbM) [1, 1, 1, 0, 0, 0]) (Qai 0 (seqK (E0 lb n 0 996) (sub (B QbM) [1, 1, 1, 0]) (sub (B QbM) [1, 1, 1, 1]) (retK Tryz.prog (R QbM) 0 (outK (Qaf Tryz.prog QbM))))) yH ⟨fr 33 [(0, vI j6), (2, vI 0), (3, vI 0), (4, vI 0), (5, vI wn), (6, vI yd)], [bx 33 []], KK⟩)
noncomputable def Qlg (lb n : Nat) (wF y6 wI : Int) : Option CV :=
 hold (E0 lb n 0 996 (sub (B QbM) [1, 1, 1, 1]) (retK Tryz.prog (R QbM) 0 (outK (Qaf Tryz.prog QbM))) ⟨fr 33 [(0, vI wF), (2, vI 0), (3, vI 0), (4, vI 0), (5, vI y6), (6, vI wI)], [bx 33 []], KK⟩)
theorem Qnj (lb n : Nat) (wF y6 wI : Int) :
 Qlg lb n wF y6 wI =
 some (.tup [.int .i64 y6, .int .i64 wI, .int .i64 (IntKind.wrap .i64 (wF + 1))]) := (Qae _).trans (by kernel_rfl)
theorem Qep (lb n yH : Nat) (j6 wn yd : Int) :
 Qd5 lb n (yH + 1) j6 wn yd =
 optO (C lb n QbU [.int .i64 wn, .int .i64 yd]) fun mc =>
 optO (CV.asI .i64 mc) fun qd =>
 bif (decide (j6 ≥ qd)) then
 (optO (C lb n QbU [.int .i64 wn, .int .i64 yd]) fun j7 =>
 optO (CV.asI .i64 j7) fun ml =>
 bif ((IntKind.wrap .i64 (yd + 1)) == 13) then
 (Qd5 lb n yH  (IntKind.wrap .i64 (j6 - ml)) (IntKind.wrap .i64 (wn + 1)) 1)
 else
 (Qd5 lb n yH  (IntKind.wrap .i64 (j6 - ml)) wn (IntKind.wrap .i64 (yd + 1))))
 else
 (Qlg lb n  j6 wn yd) := (Qae _).trans (by kernel_rfl)
theorem Qqs (lb n : Nat) (a1 : Int) :
 top lb n QbM [.int .i64 a1] =
 bif (decide (a1 < 0)) then
 (some (.tup [.int .i64 0, .int .i64 0, .int .i64 0]))
 else
 (bif (decide (a1 ≥ 36525)) then
 (some (.tup [.int .i64 0, .int .i64 0, .int .i64 0]))
 else
 (Qd5 lb n n  a1 2000 1)) := by kernel_rfl
theorem Qrl (lb n : Nat) (a1 : Int) :
 top lb n Qev [.int .i64 a1] =
 optO (bytesOf [[CV.int .u8 (IntKind.wrap .u8 (IntKind.wrap .i64 (48 + (IntKind.wrap .i64 (Int.tdiv a1 10)))))], [CV.int .u8 (IntKind.wrap .u8 (IntKind.wrap .i64 (48 + (Int.tmod a1 10))))]]) fun s2 =>
 some (.str s2) := by kernel_rfl
noncomputable def Qdf (lb n : Nat) (a1 b2 : Int) (b3 : Bool) : Option CV :=
 hold (E0 lb n 0 995 (sub (B QbU) [1, 0, 1, 0, 1]) (Qai 0 (seqK (E0 lb n 0 998) (sub (B QbU) [1, 0]) (sub (B QbU) [1, 1]) (retK Tryz.prog (R QbU) 0 (outK (Qaf Tryz.prog QbU))))) ⟨fr 16 [(0, vI a1), (1, vI b2), (4, vI 0), (5, vI b2), (6, vB b3)], [bx 16 []], KK⟩)
theorem Qlp (lb n : Nat) (a1 b2 : Int) (b3 : Bool) :
 Qdf lb n a1 b2 b3 =
 bif b3 then
 (some (.int .i64 30))
 else
 (bif (b2 == 2) then
 (bif ((Int.tmod a1 4) == 0) then
 (some (.int .i64 29))
 else
 (some (.int .i64 28)))
 else
 (some (.int .i64 31))) := (Qae _).trans (by kernel_rfl)
theorem Qos (lb n : Nat) (a1 b2 : Int) :
 top lb n QbU [.int .i64 a1, .int .i64 b2] =
 bif (b2 == 4) then
 (Qdf lb n a1 b2 (b2 == 4))
 else
 (bif (b2 == 6) then
 (Qdf lb n a1 b2 (b2 == 6))
 else
 (bif (b2 == 9) then
 (Qdf lb n a1 b2 (b2 == 9))
 else
 (Qdf lb n a1 b2 (b2 == 11)))) := by kernel_rfl
end Go.Proofs
