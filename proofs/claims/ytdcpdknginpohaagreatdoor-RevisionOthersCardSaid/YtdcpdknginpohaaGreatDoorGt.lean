/- Equations of functions, printed by program. Conditions: none. -/
import Derived.Test.YtdcpdknginpohaaGreatDoorEv
namespace Go.Proofs
open Go.Am
set_option maxRecDepth 100000
set_option linter.unusedVariables false
noncomputable def period_Normal_L1 :=
 fun lb n (mC : Nat) jk jK jC (l4 : LL) (ka : Nat) mI nK vH kc =>
 hold (QbP (X0 lb n 1 993) 1 (sub (B Qbb) [1, 1, 1, 0, 1, 0, 0]) (sub (B Qbb) [1, 1, 1, 0, 1, 0, 1]) [9] (fr 25 [(0, .val (.agg [.int .i64 jk, .int .i64 jK, .int .i64 jC])), (1, .ptr 0 1 0), (2, .ptr 0 2 0), (3, vB false), (4, .ptr 0 4 0), (5, .ptr 0 5 0), (7, .val (.agg [.int .i64 jk, .int .i64 jK, .int .i64 jC]))]) KK l4 (QcL (Qal 0 (seqK (E0 lb n 0 996) (sub (B Qbb) [1, 1, 1, 0]) (sub (B Qbb) [1, 1, 1, 1]) (retK Tryz.prog (R Qbb) 0 (outK (Qaj Tryz.prog Qbb))))) (fr 25 [(0, .val (.agg [.int .i64 jk, .int .i64 jK, .int .i64 jC])), (1, .ptr 0 1 0), (2, .ptr 0 2 0), (3, vB false), (4, .ptr 0 4 0), (5, .ptr 0 5 0), (7, .val (.agg [.int .i64 jk, .int .i64 jK, .int .i64 jC]))]) KK) mC ka [bx 26 [(1, some [vI jk, vI jK, vI jC]), (2, some [vI 0, vI 0, vI 0]), (4, some [.val mI, .val nK, vI vH]), (5, some [vB kc])]])
noncomputable def Qji (lb n : Nat) (jk jK jC : Int) (nS nC : CV) (yT : Int) (gu : Bool) : Option CV :=
 hold (E0 lb n 0 996 (sub (B Qbb) [1, 1, 1, 1]) (retK Tryz.prog (R Qbb) 0 (outK (Qaj Tryz.prog Qbb))) ⟨fr 25 [(0, .val (.agg [.int .i64 jk, .int .i64 jK, .int .i64 jC])), (1, .ptr 0 1 0), (2, .ptr 0 2 0), (3, vB false), (4, .ptr 0 4 0), (5, .ptr 0 5 0)], [bx 26 [(1, some [vI jk, vI jK, vI jC]), (2, some [vI 0, vI 0, vI 0]), (4, some [.val nS, .val nC, vI yT]), (5, some [vB gu])]], KK⟩)
theorem Ql2 (lb n : Nat) (jk jK jC : Int) (nS nC : CV) (yT : Int) (gu : Bool) :
 Qji lb n jk jK jC nS nC yT gu =
 some (.tup [.agg [nS, nC, .int .i64 yT], .bool gu]) := (Qad _).trans (by kernel_rfl)
theorem Qgs (lb n mC : Nat) (jk jK jC : Int) (l4 : LL) (ka : Nat) (mI nK : CV) (vH : Int) (kc : Bool) :
 period_Normal_L1 lb n (mC + 1) jk jK jC l4 ka mI nK vH kc =
 bif (decide (ka < l4.length)) then
 (optO (l4[ka]?) fun x23 =>
 optO (x23.head?) fun c24 =>
 bif (!kc) then
 (chkO (CV.isCell c24) (
 chkO (CV.isCell c24) (
 optO (C lb n QdV [c24]) fun oY =>
 optO (CV.asI .i64 oY) fun kg =>
 chkO (decide (0 ≤ kg)) (
 period_Normal_L1 lb n mC jk jK jC l4 (ka + 1) c24 c24 (IntKind.wrap .i64 ((BitVec.ofInt 64 vH ||| BitVec.ofInt 64 (IntKind.wrap .i64 (1 * 2 ^ (min (kg).toNat 64)))).toNat)) true))))
 else
 (chkO (CV.isCell c24) (
 optO (C lb n QdV [c24]) fun yG =>
 optO (CV.asI .i64 yG) fun mM =>
 chkO (decide (0 ≤ mM)) (
 period_Normal_L1 lb n mC jk jK jC l4 (ka + 1) mI c24 (IntKind.wrap .i64 ((BitVec.ofInt 64 vH ||| BitVec.ofInt 64 (IntKind.wrap .i64 (1 * 2 ^ (min (mM).toNat 64)))).toNat)) true))))
 else
 (Qji lb n jk jK jC mI nK vH kc) := (Qad _).trans (by kernel_rfl)
theorem QoV (lb n : Nat) (jk jK jC : Int) :
 top lb n Qbb [.agg [.int .i64 jk, .int .i64 jK, .int .i64 jC]] =
 optO (itEach [[.int .i64 jk, .int .i64 jK, .int .i64 jC]]) fun l4 =>
 chkO (l4.all fun x => x.length == 1) (
 period_Normal_L1 lb n n jk jK jC l4 0 (.int .i64 0) (.int .i64 0) 0 false) := by kernel_rfl
theorem QoN (lb n : Nat) (jk jK jC b4 c5 d6 : Int) :
 top lb n Qbm [.agg [.int .i64 jk, .int .i64 jK, .int .i64 jC], .int .i64 b4, .int .i64 c5, .int .i64 d6] =
 optO (C lb n Qbb [.agg [.int .i64 (if b4 > jk then b4 else jk), .int .i64 (if c5 < jK then c5 else jK), .int .i64 (IntKind.wrap .i64 ((BitVec.ofInt 64 jC &&& BitVec.ofInt 64 d6).toNat))]]) fun r7 =>
 optO (CV.asT r7) fun t9 =>
 optO (t9[0]?) fun jQ =>
 optO (CV.asT r7) fun zg =>
 optO (zg[1]?) fun wg =>
 optO (CV.asA jQ) fun c13 =>
 chkO (c13.length == 3) (
 optO (c13[0]?) fun yB =>
 optO (c13[1]?) fun yb =>
 optO (c13[2]?) fun oT =>
 some (.tup [.agg [yB, yb, oT], wg])) := by kernel_rfl
theorem Qrb (lb n : Nat) (jk jK jC wL w5 wO : Int) :
 top lb n Qgf [.agg [.int .i64 jk, .int .i64 jK, .int .i64 jC], .agg [.int .i64 wL, .int .i64 w5, .int .i64 wO]] =
 optO (C lb n Qbt [.agg [.int .i64 jk, .int .i64 jK, .int .i64 jC]]) fun r7 =>
 optO (CV.asI .i64 r7) fun i9 =>
 bif (i9 != 0) then
 (some (.tup [.agg [.int .i64 0, .int .i64 0, .int .i64 0], .bool false]))
 else
 (optO (C lb n Qbt [.agg [.int .i64 wL, .int .i64 w5, .int .i64 wO]]) fun o7 =>
 optO (CV.asI .i64 o7) fun y7 =>
 bif (y7 != 0) then
 (some (.tup [.agg [.int .i64 0, .int .i64 0, .int .i64 0], .bool false]))
 else
 (optO (C lb n Qbm [.agg [.int .i64 jk, .int .i64 jK, .int .i64 jC], .int .i64 wL, .int .i64 w5, .int .i64 wO]) fun yH =>
 optO (CV.asT yH) fun mJ =>
 optO (mJ[0]?) fun yB =>
 optO (CV.asT yH) fun mP =>
 optO (mP[1]?) fun oT =>
 optO (CV.asA yB) fun c18 =>
 chkO (c18.length == 3) (
 optO (c18[0]?) fun w7 =>
 optO (c18[1]?) fun wz =>
 optO (c18[2]?) fun ya =>
 some (.tup [.agg [w7, wz, ya], oT])))) := by kernel_rfl
noncomputable def Qh0 (lb n kD : Nat) (jO : Bool) (a2 : LL) (c3 : List CV) (x4 : CV) (c5 : List CV) (x6 : CV) (vb i20 : Int) : Option CV :=
 hold (Qau (E0 lb n 0 993) 0 (Qae (sub (B Qdu) [1, 1, 1, 0, 1, 0, 0]) ++ []) [] (sub (B Qdu) [1, 1, 1, 0, 1, 0, 0]) (Qal 0 (seqK (E0 lb n 0 996) (sub (B Qdu) [1, 1, 1, 0]) (sub (B Qdu) [1, 1, 1, 1]) (retK Tryz.prog (R Qdu) 0 (outK (Qaj Tryz.prog Qdu))))) kD ⟨fr 46 [(0, .val (.list jO a2)), (2, .ptr 0 2 0), (3, vB false), (4, .ptr 0 4 0), (5, vI vb), (10, .val (.list jO a2)), (11, .cptr c3 0), (12, vV x4), (13, .val (.list jO a2)), (14, .val (.list jO a2)), (15, .val (.int .i64 (a2.length : Int))), (16, .val (.int .i64 (IntKind.wrap .i64 ((a2.length : Int) - 1)))), (17, .cptr c5 0), (18, vV x6), (19, .val (.agg [x4, x6, .int .i64 0]))], [bx 46 [(2, some [vI 0, vI 0, vI 0]), (4, some [.val x4, .val x6, vI i20])]], KK⟩)
noncomputable def QrD (lb n : Nat) (jO : Bool) (a2 : LL) (c3 : List CV) (x4 : CV) (c5 : List CV) (x6 : CV) (kE nV : Int) : Option CV :=
 hold (E0 lb n 0 996 (sub (B Qdu) [1, 1, 1, 1]) (retK Tryz.prog (R Qdu) 0 (outK (Qaj Tryz.prog Qdu))) ⟨fr 46 [(0, .val (.list jO a2)), (2, .ptr 0 2 0), (3, vB false), (4, .ptr 0 4 0), (5, vI kE), (10, .val (.list jO a2)), (11, .cptr c3 0), (12, vV x4), (13, .val (.list jO a2)), (14, .val (.list jO a2)), (15, .val (.int .i64 (a2.length : Int))), (16, .val (.int .i64 (IntKind.wrap .i64 ((a2.length : Int) - 1)))), (17, .cptr c5 0), (18, vV x6), (19, .val (.agg [x4, x6, .int .i64 0]))], [bx 46 [(2, some [vI 0, vI 0, vI 0]), (4, some [.val x4, .val x6, vI nV])]], KK⟩)
theorem Qs0 (lb n : Nat) (jO : Bool) (a2 : LL) (c3 : List CV) (x4 : CV) (c5 : List CV) (x6 : CV) (kE nV : Int) :
 QrD lb n jO a2 c3 x4 c5 x6 kE nV =
 some (.tup [.agg [x4, x6, .int .i64 nV], .bool true]) := (Qad _).trans (by kernel_rfl)
theorem Qkx (lb n kD : Nat) (jO : Bool) (a2 : LL) (c3 : List CV) (x4 : CV) (c5 : List CV) (x6 : CV) (vb i20 : Int) :
 Qh0 lb n (kD + 1) jO a2 c3 x4 c5 x6 vb i20 =
 bif (decide (vb < (a2.length : Int))) then
 (optO (atL a2 vb) fun c30 =>
 chkO (c30.length == 1) (
 optO (c30[0]?) fun wj =>
 optO (C lb n Qcj [wj]) fun zO =>
 optO (CV.asI .i64 zO) fun kS =>
 chkO (kS != 0) (
 bif ((Int.tmod (IntKind.wrap .i64 (Int.tdiv i20 kS)) 2) == 0) then
 (optO (atL a2 vb) fun c35 =>
 chkO (c35.length == 1) (
 optO (c35[0]?) fun yA =>
 optO (C lb n Qcj [yA]) fun o5 =>
 optO (CV.asI .i64 o5) fun vM =>
 Qh0 lb n kD jO a2 c3 x4 c5 x6 (IntKind.wrap .i64 (vb + 1)) (IntKind.wrap .i64 (i20 + vM))))
 else
 (Qh0 lb n kD jO a2 c3 x4 c5 x6 (IntKind.wrap .i64 (vb + 1)) i20))))
 else
 (QrD lb n jO a2 c3 x4 c5 x6 vb i20) := (Qad _).trans (by kernel_rfl)
theorem Qw7 (lb n : Nat) (jO : Bool) (a2 : LL) :
 top lb n Qdu [.list jO a2] =
 bif ((a2.length : Int) == 0) then
 (some (.tup [.agg [.int .i64 0, .int .i64 0, .int .i64 0], .bool false]))
 else
 (optO (atL a2 0) fun c3 =>
 chkO (c3.length == 1) (
 optO (c3[0]?) fun x4 =>
 optO (atL a2 (IntKind.wrap .i64 ((a2.length : Int) - 1))) fun c5 =>
 chkO (c5.length == 1) (
 optO (c5[0]?) fun x6 =>
 chkO (CV.isCell x4) (
 chkO (CV.isCell x6) (
 Qh0 lb n n jO a2 c3 x4 c5 x6 0 0))))) := by kernel_rfl
noncomputable def Qf4 (lb n kp : Nat) (jk jK jC wL w5 wO : Int) (r7 : CV) (oO : Bool) (l23 : LL) (yW : Int) : Option CV :=
 hold (Qau (E0 lb n 0 993) 0 (Qae (sub (B Qcu) [1, 1, 1, 0, 1, 0, 0]) ++ []) [] (sub (B Qcu) [1, 1, 1, 0, 1, 0, 0]) (Qal 0 (seqK (E0 lb n 0 996) (sub (B Qcu) [1, 1, 1, 0]) (sub (B Qcu) [1, 1, 1, 1]) (retK Tryz.prog (R Qcu) 0 (outK (Qaj Tryz.prog Qcu))))) kp ⟨fr 34 [(0, .val (.agg [.int .i64 jk, .int .i64 jK, .int .i64 jC])), (1, .val (.agg [.int .i64 wL, .int .i64 w5, .int .i64 wO])), (2, .ptr 0 2 0), (3, .ptr 0 3 0), (4, .ptr 0 4 0), (5, vB false), (6, vV r7), (7, .lst true oO 3 l23), (8, vI yW), (9, .val (.agg [.int .i64 jk, .int .i64 jK, .int .i64 jC])), (10, vV r7)], [bx 34 [(2, some [vI jk, vI jK, vI jC]), (3, some [vI wL, vI w5, vI wO]), (4, some [vI 0, vI 0, vI 0])]], KK⟩)
noncomputable def QjY (lb n : Nat) (jk jK jC wL w5 wO : Int) (r7 : CV) (oL : Bool) (l46 : LL) (n5 : Int) : Option CV :=
 hold (E0 lb n 0 996 (sub (B Qcu) [1, 1, 1, 1]) (retK Tryz.prog (R Qcu) 0 (outK (Qaj Tryz.prog Qcu))) ⟨fr 34 [(0, .val (.agg [.int .i64 jk, .int .i64 jK, .int .i64 jC])), (1, .val (.agg [.int .i64 wL, .int .i64 w5, .int .i64 wO])), (2, .ptr 0 2 0), (3, .ptr 0 3 0), (4, .ptr 0 4 0), (5, vB false), (6, vV r7), (7, .lst true oL 3 l46), (8, vI n5), (9, .val (.agg [.int .i64 jk, .int .i64 jK, .int .i64 jC])), (10, vV r7)], [bx 34 [(2, some [vI jk, vI jK, vI jC]), (3, some [vI wL, vI w5, vI wO]), (4, some [vI 0, vI 0, vI 0])]], KK⟩)
theorem QqS (lb n : Nat) (jk jK jC wL w5 wO : Int) (r7 : CV) (oL : Bool) (l46 : LL) (n5 : Int) :
 QjY lb n jk jK jC wL w5 wO r7 oL l46 n5 =
 optO (C lb n Qdu [.list oL l46]) fun oN =>
 optO (CV.asT oN) fun mZ =>
 optO (mZ[0]?) fun gB =>
 optO (CV.asT oN) fun t51 =>
 optO (t51[1]?) fun ow =>
 optO (CV.asA gB) fun c53 =>
 chkO (c53.length == 3) (
 optO (c53[0]?) fun pp =>
 optO (c53[1]?) fun oo =>
 optO (c53[2]?) fun ou =>
 some (.tup [.agg [pp, oo, ou], ow])) := (Qad _).trans (by kernel_rfl)
theorem Qi6 (lb n kp : Nat) (jk jK jC wL w5 wO : Int) (r7 : CV) (oO : Bool) (l23 : LL) (yW : Int) :
 Qf4 lb n (kp + 1) jk jK jC wL w5 wO r7 oO l23 yW =
 optO (CV.asL r7) fun pF =>
 bif (decide (yW < (pF.2.length : Int))) then
 (optO (CV.asL r7) fun sG =>
 optO (atL sG.2 yW) fun c38 =>
 chkO (c38.length == 1) (
 optO (c38[0]?) fun gw =>
 optO (C lb n Qcz [.agg [.int .i64 wL, .int .i64 w5, .int .i64 wO], gw]) fun pI =>
 optO (CV.asB pI) fun k8 =>
 bif k8 then
 (optO (CV.asL r7) fun sJ =>
 optO (atL sJ.2 yW) fun c43 =>
 chkO (c43.length == 1) (
 optO (c43[0]?) fun k4 =>
 chkO (CV.isCell k4) (
 chkO (room (l23.length + 1) 8) (
 Qf4 lb n kp jk jK jC wL w5 wO r7 (oO && false) (l23 ++ [[k4]]) (IntKind.wrap .i64 (yW + 1))))))
 else
 (Qf4 lb n kp jk jK jC wL w5 wO r7 oO l23 (IntKind.wrap .i64 (yW + 1)))))
 else
 (QjY lb n jk jK jC wL w5 wO r7 oO l23 yW) := (Qad _).trans (by kernel_rfl)
theorem Qus (lb n : Nat) (jk jK jC wL w5 wO : Int) :
 top lb n Qcu [.agg [.int .i64 jk, .int .i64 jK, .int .i64 jC], .agg [.int .i64 wL, .int .i64 w5, .int .i64 wO]] =
 optO (C lb n Qcf [.agg [.int .i64 jk, .int .i64 jK, .int .i64 jC]]) fun r7 =>
 Qf4 lb n n jk jK jC wL w5 wO r7 true [] 0 := by kernel_rfl
noncomputable def Qek (lb n : Nat) (jk jK jC wL w5 wO : Int) (kU : Bool) (l35 : LL) : Option CV :=
 hold (E0 lb n 0 994 (sub (B Qbo) [1, 1, 1, 1, 1, 1]) (retK Tryz.prog (R Qbo) 0 (outK (Qaj Tryz.prog Qbo))) ⟨fr 57 [(0, .val (.agg [.int .i64 jk, .int .i64 jK, .int .i64 jC])), (1, .val (.agg [.int .i64 wL, .int .i64 w5, .int .i64 wO])), (2, .ptr 0 2 0), (3, .ptr 0 3 0), (4, .lst true true 28 []), (5, .ptr 0 5 0), (6, .clo Qd5 [.ptr 0 5 0]), (7, .clo Qd5 [.ptr 0 5 0])], [bx 57 [(2, some [vI jk, vI jK, vI jC]), (3, some [vI wL, vI w5, vI wO]), (5, some [.lst true kU 28 l35])]], KK⟩)
noncomputable def Qdv (lb n : Nat) (jk jK jC wL w5 wO : Int) (o0 : Bool) (l47 : LL) : Option CV :=
 hold (E0 lb n 0 993 (sub (B Qbo) [1, 1, 1, 1, 1, 1, 1]) (retK Tryz.prog (R Qbo) 0 (outK (Qaj Tryz.prog Qbo))) ⟨fr 57 [(0, .val (.agg [.int .i64 jk, .int .i64 jK, .int .i64 jC])), (1, .val (.agg [.int .i64 wL, .int .i64 w5, .int .i64 wO])), (2, .ptr 0 2 0), (3, .ptr 0 3 0), (4, .lst true true 28 []), (5, .ptr 0 5 0), (6, .clo Qd5 [.ptr 0 5 0]), (7, .clo Qd5 [.ptr 0 5 0])], [bx 57 [(2, some [vI jk, vI jK, vI jC]), (3, some [vI wL, vI w5, vI wO]), (5, some [.lst true o0 28 l47])]], KK⟩)
theorem Qlv (lb n : Nat) (jk jK jC wL w5 wO : Int) (o0 : Bool) (l47 : LL) :
 Qdv lb n jk jK jC wL w5 wO o0 l47 =
 optO (C lb n Qbm [.agg [.int .i64 jk, .int .i64 jK, .int .i64 jC], .int .i64 (IntKind.wrap .i64 (w5 + 1)), .int .i64 jK, .int .i64 127]) fun oN =>
 optO (CV.asT oN) fun mZ =>
 optO (mZ[0]?) fun gB =>
 optO (CV.asT oN) fun t51 =>
 optO (t51[1]?) fun ow =>
 optO (CV.asA gB) fun c53 =>
 chkO (c53.length == 3) (
 optO (c53[0]?) fun pp =>
 optO (c53[1]?) fun oo =>
 optO (c53[2]?) fun ou =>
 optO (CV.asB ow) fun sV =>
 bif sV then
 (chkO (room (l47.length + 1) 24) (
 some (.list (o0 && false) (l47 ++ [[pp, oo, ou]]))))
 else
 (some (.list o0 l47))) := (Qad _).trans (by kernel_rfl)
theorem Qlw (lb n : Nat) (jk jK jC wL w5 wO : Int) (kU : Bool) (l35 : LL) :
 Qek lb n jk jK jC wL w5 wO kU l35 =
 optO (C lb n Qbm [.agg [.int .i64 jk, .int .i64 jK, .int .i64 jC], .int .i64 wL, .int .i64 w5, .int .i64 (IntKind.wrap .i64 ((BitVec.ofInt 64 127 &&& ~~~BitVec.ofInt 64 wO).toNat))]) fun nW =>
 optO (CV.asT nW) fun t37 =>
 optO (t37[0]?) fun yE =>
 optO (CV.asT nW) fun pq =>
 optO (pq[1]?) fun kX =>
 optO (CV.asA yE) fun c41 =>
 chkO (c41.length == 3) (
 optO (c41[0]?) fun gi =>
 optO (c41[1]?) fun oi =>
 optO (c41[2]?) fun k4 =>
 optO (CV.asB kX) fun oL =>
 bif oL then
 (chkO (room (l35.length + 1) 24) (
 Qdv lb n jk jK jC wL w5 wO (kU && false) (l35 ++ [[gi, oi, k4]])))
 else
 (Qdv lb n jk jK jC wL w5 wO kU l35)) := (Qad _).trans (by kernel_rfl)
theorem QfP (lb n : Nat) (jk jK jC wL w5 wO : Int) :
 top lb n Qbo [.agg [.int .i64 jk, .int .i64 jK, .int .i64 jC], .agg [.int .i64 wL, .int .i64 w5, .int .i64 wO]] =
 optO (C lb n Qbt [.agg [.int .i64 jk, .int .i64 jK, .int .i64 jC]]) fun r7 =>
 optO (CV.asI .i64 r7) fun i9 =>
 bif (i9 != 0) then
 (some (.list true []))
 else
 (optO (C lb n Qbt [.agg [.int .i64 wL, .int .i64 w5, .int .i64 wO]]) fun o7 =>
 optO (CV.asI .i64 o7) fun y7 =>
 bif (y7 != 0) then
 (optO (C lb n Qbb [.agg [.int .i64 jk, .int .i64 jK, .int .i64 jC]]) fun yH =>
 optO (CV.asT yH) fun mJ =>
 optO (mJ[0]?) fun yB =>
 optO (CV.asT yH) fun mP =>
 optO (mP[1]?) fun oT =>
 optO (CV.asA yB) fun c18 =>
 chkO (c18.length == 3) (
 optO (c18[0]?) fun w7 =>
 optO (c18[1]?) fun wz =>
 optO (c18[2]?) fun ya =>
 optO (CV.asB oT) fun oO =>
 bif oO then
 (some (.list false [[w7, wz, ya]]))
 else
 (some (.list true []))))
 else
 (optO (C lb n Qbm [.agg [.int .i64 jk, .int .i64 jK, .int .i64 jC], .int .i64 jk, .int .i64 (IntKind.wrap .i64 (wL - 1)), .int .i64 127]) fun w6 =>
 optO (CV.asT w6) fun pj =>
 optO (pj[0]?) fun wI =>
 optO (CV.asT w6) fun pn =>
 optO (pn[1]?) fun wD =>
 optO (CV.asA wI) fun c28 =>
 chkO (c28.length == 3) (
 optO (c28[0]?) fun wx =>
 optO (c28[1]?) fun wH =>
 optO (c28[2]?) fun wj =>
 optO (CV.asB wD) fun gu =>
 bif gu then
 (Qek lb n jk jK jC wL w5 wO false [[wx, wH, wj]])
 else
 (Qek lb n jk jK jC wL w5 wO true [])))) := by kernel_rfl
end Go.Proofs
