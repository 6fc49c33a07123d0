/- Equations of functions, printed by program. Conditions: none. -/
import Derived.Test.YtdcpdknginpohaaGreatDoorEv
namespace Go.Proofs
open Go.Am
set_option maxRecDepth 100000
set_option linter.unusedVariables false
noncomputable def r04_of_L1 :=
 fun lb n (yJ : Nat) (jv : Bool) (a2 : LL) (c3 : List CV) x4 (c5 : List CV) x6 yd i20 =>
 hold (Qat (E0 lb n 0 993) 0 (Qag (sub (B Qcl) [1, 1, 1, 0, 1, 0, 0]) ++ []) [] (sub (B Qcl) [1, 1, 1, 0, 1, 0, 0]) (Qai 0 (seqK (E0 lb n 0 996) (sub (B Qcl) [1, 1, 1, 0]) (sub (B Qcl) [1, 1, 1, 1]) (retK Tryz.prog (R Qcl) 0 (outK (Qaf Tryz.prog Qcl))))) yJ ⟨fr 46 [(0, .val (.list jv a2)), (2, .ptr 0 2 0), (3, vB false), (4, .ptr 0 4 0), (5, vI yd), (10, .val (.list jv a2)), (11, .cptr c3 0), (12, vV x4), (13, .val (.list jv a2)), (14, .val (.list jv a2)), (15, .val (.int .i64 (a2.length : Int))), (16, .val (.int .i64 (IntKind.wrap .i64 ((a2.length : Int) - 1)))), (17, .cptr c5 0), (18, vV x6), (19, .val (.agg [x4, x6, .int .i64 0]))], [bx 46 [(2, some [vI 0, vI 0, vI 0]), (4, some [.val x4, .val x6, vI i20])]], KK⟩)
noncomputable def QnK (lb n : Nat) (jv : Bool) (a2 : LL) (c3 : List CV) (x4 : CV) (c5 : List CV) (x6 : CV) (w4 oR : Int) : Option CV :=
 hold (E0 lb n 0 996 (sub (B Qcl) [1, 1, 1, 1]) (retK Tryz.prog (R Qcl) 0 (outK (Qaf Tryz.prog Qcl))) ⟨fr 46 [(0, .val (.list jv a2)), (2, .ptr 0 2 0), (3, vB false), (4, .ptr 0 4 0), (5, vI w4), (10, .val (.list jv a2)), (11, .cptr c3 0), (12, vV x4), (13, .val (.list jv a2)), (14, .val (.list jv a2)), (15, .val (.int .i64 (a2.length : Int))), (16, .val (.int .i64 (IntKind.wrap .i64 ((a2.length : Int) - 1)))), (17, .cptr c5 0), (18, vV x6), (19, .val (.agg [x4, x6, .int .i64 0]))], [bx 46 [(2, some [vI 0, vI 0, vI 0]), (4, some [.val x4, .val x6, vI oR])]], KK⟩)
theorem QoW (lb n : Nat) (jv : Bool) (a2 : LL) (c3 : List CV) (x4 : CV) (c5 : List CV) (x6 : CV) (w4 oR : Int) :
 QnK lb n jv a2 c3 x4 c5 x6 w4 oR =
 some (.tup [.agg [x4, x6, .int .i64 oR], .bool true]) := (Qae _).trans (by kernel_rfl)
theorem QhP (lb n yJ : Nat) (jv : Bool) (a2 : LL) (c3 : List CV) (x4 : CV) (c5 : List CV) (x6 : CV) (yd i20 : Int) :
 r04_of_L1 lb n (yJ + 1) jv a2 c3 x4 c5 x6 yd i20 =
 bif (decide (yd < (a2.length : Int))) then
 (optO (atL a2 yd) fun c30 =>
 chkO (c30.length == 1) (
 optO (c30[0]?) fun jt =>
 optO (C lb n QbE [jt]) fun pW =>
 optO (CV.asI .i64 pW) fun yA =>
 chkO (yA != 0) (
 bif ((Int.tmod (IntKind.wrap .i64 (Int.tdiv i20 yA)) 2) == 0) then
 (optO (atL a2 yd) fun c35 =>
 chkO (c35.length == 1) (
 optO (c35[0]?) fun yO =>
 optO (C lb n QbE [yO]) fun kT =>
 optO (CV.asI .i64 kT) fun w9 =>
 r04_of_L1 lb n yJ jv a2 c3 x4 c5 x6 (IntKind.wrap .i64 (yd + 1)) (IntKind.wrap .i64 (i20 + w9))))
 else
 (r04_of_L1 lb n yJ jv a2 c3 x4 c5 x6 (IntKind.wrap .i64 (yd + 1)) i20))))
 else
 (QnK lb n jv a2 c3 x4 c5 x6 yd i20) := (Qae _).trans (by kernel_rfl)
theorem Qr4 (lb n : Nat) (jv : Bool) (a2 : LL) :
 top lb n Qcl [.list jv a2] =
 bif ((a2.length : Int) == 0) then
 (some (.tup [.agg [.int .i64 0, .int .i64 0, .int .i64 0], .bool false]))
 else
 (optO (atL a2 0) fun c3 =>
 chkO (c3.length == 1) (
 optO (c3[0]?) fun x4 =>
 optO (atL a2 (IntKind.wrap .i64 ((a2.length : Int) - 1))) fun c5 =>
 chkO (c5.length == 1) (
 optO (c5[0]?) fun x6 =>
 chkO (CV.isCell x4) (
 chkO (CV.isCell x6) (
 r04_of_L1 lb n n jv a2 c3 x4 c5 x6 0 0))))) := by kernel_rfl
noncomputable def Qd7 (lb n yj : Nat) (jm jB js wy w5 wx : Int) (r7 : CV) (vN : Bool) (l23 : LL) (w6 : Int) : Option CV :=
 hold (Qat (E0 lb n 0 993) 0 (Qag (sub (B QbI) [1, 1, 1, 0, 1, 0, 0]) ++ []) [] (sub (B QbI) [1, 1, 1, 0, 1, 0, 0]) (Qai 0 (seqK (E0 lb n 0 996) (sub (B QbI) [1, 1, 1, 0]) (sub (B QbI) [1, 1, 1, 1]) (retK Tryz.prog (R QbI) 0 (outK (Qaf Tryz.prog QbI))))) yj ⟨fr 34 [(0, .val (.agg [.int .i64 jm, .int .i64 jB, .int .i64 js])), (1, .val (.agg [.int .i64 wy, .int .i64 w5, .int .i64 wx])), (2, .ptr 0 2 0), (3, .ptr 0 3 0), (4, .ptr 0 4 0), (5, vB false), (6, vV r7), (7, .lst true vN 3 l23), (8, vI w6), (9, .val (.agg [.int .i64 jm, .int .i64 jB, .int .i64 js])), (10, vV r7)], [bx 34 [(2, some [vI jm, vI jB, vI js]), (3, some [vI wy, vI w5, vI wx]), (4, some [vI 0, vI 0, vI 0])]], KK⟩)
noncomputable def Qhx (lb n : Nat) (jm jB js wy w5 wx : Int) (r7 : CV) (vM : Bool) (oQ : LL) (g9 : Int) : Option CV :=
 hold (E0 lb n 0 996 (sub (B QbI) [1, 1, 1, 1]) (retK Tryz.prog (R QbI) 0 (outK (Qaf Tryz.prog QbI))) ⟨fr 34 [(0, .val (.agg [.int .i64 jm, .int .i64 jB, .int .i64 js])), (1, .val (.agg [.int .i64 wy, .int .i64 w5, .int .i64 wx])), (2, .ptr 0 2 0), (3, .ptr 0 3 0), (4, .ptr 0 4 0), (5, vB false), (6, vV r7), (7, .lst true vM 3 oQ), (8, vI g9), (9, .val (.agg [.int .i64 jm, .int .i64 jB, .int .i64 js])), (10, vV r7)], [bx 34 [(2, some [vI jm, vI jB, vI js]), (3, some [vI wy, vI w5, vI wx]), (4, some [vI 0, vI 0, vI 0])]], KK⟩)
theorem Qm3 (lb n : Nat) (jm jB js wy w5 wx : Int) (r7 : CV) (vM : Bool) (oQ : LL) (g9 : Int) :
 Qhx lb n jm jB js wy w5 wx r7 vM oQ g9 =
 optO (C lb n Qcl [.list vM oQ]) fun me =>
 optO (CV.asT me) fun ql =>
 optO (ql[0]?) fun pF =>
 optO (CV.asT me) fun t51 =>
 optO (t51[1]?) fun gq =>
 optO (CV.asA pF) fun c53 =>
 chkO (c53.length == 3) (
 optO (c53[0]?) fun pn =>
 optO (c53[1]?) fun gm =>
 optO (c53[2]?) fun g0 =>
 some (.tup [.agg [pn, gm, g0], gq])) := (Qae _).trans (by kernel_rfl)
theorem QgM (lb n yj : Nat) (jm jB js wy w5 wx : Int) (r7 : CV) (vN : Bool) (l23 : LL) (w6 : Int) :
 Qd7 lb n (yj + 1) jm jB js wy w5 wx r7 vN l23 w6 =
 optO (CV.asL r7) fun nI =>
 bif (decide (w6 < (nI.2.length : Int))) then
 (optO (CV.asL r7) fun pi =>
 optO (atL pi.2 w6) fun c38 =>
 chkO (c38.length == 1) (
 optO (c38[0]?) fun vK =>
 optO (C lb n Qes [.agg [.int .i64 wy, .int .i64 w5, .int .i64 wx], vK]) fun gv =>
 optO (CV.asB gv) fun ma =>
 bif ma then
 (optO (CV.asL r7) fun pQ =>
 optO (atL pQ.2 w6) fun c43 =>
 chkO (c43.length == 1) (
 optO (c43[0]?) fun vP =>
 chkO (CV.isCell vP) (
 chkO (room (l23.length + 1) 8) (
 Qd7 lb n yj jm jB js wy w5 wx r7 (vN && false) (l23 ++ [[vP]]) (IntKind.wrap .i64 (w6 + 1))))))
 else
 (Qd7 lb n yj jm jB js wy w5 wx r7 vN l23 (IntKind.wrap .i64 (w6 + 1)))))
 else
 (Qhx lb n jm jB js wy w5 wx r7 vN l23 w6) := (Qae _).trans (by kernel_rfl)
theorem Qqb (lb n : Nat) (jm jB js wy w5 wx : Int) :
 top lb n QbI [.agg [.int .i64 jm, .int .i64 jB, .int .i64 js], .agg [.int .i64 wy, .int .i64 w5, .int .i64 wx]] =
 optO (C lb n QbA [.agg [.int .i64 jm, .int .i64 jB, .int .i64 js]]) fun r7 =>
 Qd7 lb n n jm jB js wy w5 wx r7 true [] 0 := by kernel_rfl
end Go.Proofs
