/- Equations of functions, printed by program. Conditions: none. -/
import Derived.Test.YtdcpdknginpohaaGreatDoorEv
namespace Go.Proofs
open Go.Am
set_option maxRecDepth 100000
set_option linter.unusedVariables false
noncomputable def period_Normal_L1 :=
 fun lb n (nx : Nat) jj jM jo (l4 : LL) (kh : Nat) ng pu vR kx =>
 hold (QbT (X0 lb n 1 993) 1 (sub (B Qbf) [1, 1, 1, 0, 1, 0, 0]) (sub (B Qbf) [1, 1, 1, 0, 1, 0, 1]) [9] (fr 25 [(0, .val (.agg [.int .i64 jj, .int .i64 jM, .int .i64 jo])), (1, .ptr 0 1 0), (2, .ptr 0 2 0), (3, vB false), (4, .ptr 0 4 0), (5, .ptr 0 5 0), (7, .val (.agg [.int .i64 jj, .int .i64 jM, .int .i64 jo]))]) KK l4 (QcU (Qaj 0 (seqK (E0 lb n 0 996) (sub (B Qbf) [1, 1, 1, 0]) (sub (B Qbf) [1, 1, 1, 1]) (retK Tryz.prog (R Qbf) 0 (outK (Qag Tryz.prog Qbf))))) (fr 25 [(0, .val (.agg [.int .i64 jj, .int .i64 jM, .int .i64 jo])), (1, .ptr 0 1 0), (2, .ptr 0 2 0), (3, vB false), (4, .ptr 0 4 0), (5, .ptr 0 5 0), (7, .val (.agg [.int .i64 jj, .int .i64 jM, .int .i64 jo]))]) KK) nx kh [bx 26 [(1, some [vI jj, vI jM, vI jo]), (2, some [vI 0, vI 0, vI 0]), (4, some [.val ng, .val pu, vI vR]), (5, some [vB kx])]])
noncomputable def Qjk (lb n : Nat) (jj jM jo : Int) (pn pd : CV) (y7 : Int) (gV : Bool) : Option CV :=
 hold (E0 lb n 0 996 (sub (B Qbf) [1, 1, 1, 1]) (retK Tryz.prog (R Qbf) 0 (outK (Qag Tryz.prog Qbf))) ⟨fr 25 [(0, .val (.agg [.int .i64 jj, .int .i64 jM, .int .i64 jo])), (1, .ptr 0 1 0), (2, .ptr 0 2 0), (3, vB false), (4, .ptr 0 4 0), (5, .ptr 0 5 0)], [bx 26 [(1, some [vI jj, vI jM, vI jo]), (2, some [vI 0, vI 0, vI 0]), (4, some [.val pn, .val pd, vI y7]), (5, some [vB gV])]], KK⟩)
theorem Qmf (lb n : Nat) (jj jM jo : Int) (pn pd : CV) (y7 : Int) (gV : Bool) :
 Qjk lb n jj jM jo pn pd y7 gV =
 some (.tup [.agg [pn, pd, .int .i64 y7], .bool gV]) := (Qaf _).trans (by kernel_rfl)
theorem QgJ (lb n nx : Nat) (jj jM jo : Int) (l4 : LL) (kh : Nat) (ng pu : CV) (vR : Int) (kx : Bool) :
 period_Normal_L1 lb n (nx + 1) jj jM jo l4 kh ng pu vR kx =
 bif (decide (kh < l4.length)) then
 (optO (l4[kh]?) fun x23 =>
 optO (x23.head?) fun c24 =>
 bif (!kx) then
 (chkO (CV.isCell c24) (
 chkO (CV.isCell c24) (
 optO (C lb n Qdk [c24]) fun nb =>
 optO (CV.asI .i64 nb) fun kp =>
 chkO (decide (0 ≤ kp)) (
 period_Normal_L1 lb n nx jj jM jo l4 (kh + 1) c24 c24 (IntKind.wrap .i64 ((BitVec.ofInt 64 vR ||| BitVec.ofInt 64 (IntKind.wrap .i64 (1 * 2 ^ (min (kp).toNat 64)))).toNat)) true))))
 else
 (chkO (CV.isCell c24) (
 optO (C lb n Qdk [c24]) fun wI =>
 optO (CV.asI .i64 wI) fun m8 =>
 chkO (decide (0 ≤ m8)) (
 period_Normal_L1 lb n nx jj jM jo l4 (kh + 1) ng c24 (IntKind.wrap .i64 ((BitVec.ofInt 64 vR ||| BitVec.ofInt 64 (IntKind.wrap .i64 (1 * 2 ^ (min (m8).toNat 64)))).toNat)) true))))
 else
 (Qjk lb n jj jM jo ng pu vR kx) := (Qaf _).trans (by kernel_rfl)
theorem Qo6 (lb n : Nat) (jj jM jo : Int) :
 top lb n Qbf [.agg [.int .i64 jj, .int .i64 jM, .int .i64 jo]] =
 optO (itEach [[.int .i64 jj, .int .i64 jM, .int .i64 jo]]) fun l4 =>
 chkO (l4.all fun x => x.length == 1) (
 period_Normal_L1 lb n n jj jM jo l4 0 (.int .i64 0) (.int .i64 0) 0 false) := by kernel_rfl
theorem QoY (lb n : Nat) (jj jM jo b4 c5 d6 : Int) :
 top lb n Qbr [.agg [.int .i64 jj, .int .i64 jM, .int .i64 jo], .int .i64 b4, .int .i64 c5, .int .i64 d6] =
 optO (C lb n Qbf [.agg [.int .i64 (if b4 > jj then b4 else jj), .int .i64 (if c5 < jM then c5 else jM), .int .i64 (IntKind.wrap .i64 ((BitVec.ofInt 64 jo &&& BitVec.ofInt 64 d6).toNat))]]) fun r7 =>
 optO (CV.asT r7) fun t9 =>
 optO (t9[0]?) fun jR =>
 optO (CV.asT r7) fun zX =>
 optO (zX[1]?) fun wm =>
 optO (CV.asA jR) fun c13 =>
 chkO (c13.length == 3) (
 optO (c13[0]?) fun yI =>
 optO (c13[1]?) fun yc =>
 optO (c13[2]?) fun gt =>
 some (.tup [.agg [yI, yc, gt], wm])) := by kernel_rfl
theorem Qq1 (lb n : Nat) (jj jM jo wL w4 wO : Int) :
 top lb n QeW [.agg [.int .i64 jj, .int .i64 jM, .int .i64 jo], .agg [.int .i64 wL, .int .i64 w4, .int .i64 wO]] =
 optO (C lb n Qbq [.agg [.int .i64 jj, .int .i64 jM, .int .i64 jo]]) fun r7 =>
 optO (CV.asI .i64 r7) fun i9 =>
 bif (i9 != 0) then
 (some (.tup [.agg [.int .i64 0, .int .i64 0, .int .i64 0], .bool false]))
 else
 (optO (C lb n Qbq [.agg [.int .i64 wL, .int .i64 w4, .int .i64 wO]]) fun na =>
 optO (CV.asI .i64 na) fun vf =>
 bif (vf != 0) then
 (some (.tup [.agg [.int .i64 0, .int .i64 0, .int .i64 0], .bool false]))
 else
 (optO (C lb n Qbr [.agg [.int .i64 jj, .int .i64 jM, .int .i64 jo], .int .i64 wL, .int .i64 w4, .int .i64 wO]) fun y6 =>
 optO (CV.asT y6) fun mZ =>
 optO (mZ[0]?) fun yI =>
 optO (CV.asT y6) fun m9 =>
 optO (m9[1]?) fun gt =>
 optO (CV.asA yI) fun c18 =>
 chkO (c18.length == 3) (
 optO (c18[0]?) fun w8 =>
 optO (c18[1]?) fun wA =>
 optO (c18[2]?) fun yi =>
 some (.tup [.agg [w8, wA, yi], gt])))) := by kernel_rfl
noncomputable def Qig (lb n kL : Nat) (jK : Bool) (a2 : LL) (c3 : List CV) (x4 : CV) (c5 : List CV) (x6 : CV) (vj i20 : Int) : Option CV :=
 hold (Qas (E0 lb n 0 993) 0 (Qad (sub (B Qdu) [1, 1, 1, 0, 1, 0, 0]) ++ []) [] (sub (B Qdu) [1, 1, 1, 0, 1, 0, 0]) (Qaj 0 (seqK (E0 lb n 0 996) (sub (B Qdu) [1, 1, 1, 0]) (sub (B Qdu) [1, 1, 1, 1]) (retK Tryz.prog (R Qdu) 0 (outK (Qag Tryz.prog Qdu))))) kL ⟨fr 46 [(0, .val (.list jK a2)), (2, .ptr 0 2 0), (3, vB false), (4, .ptr 0 4 0), (5, vI vj), (10, .val (.list jK a2)), (11, .cptr c3 0), (12, vV x4), (13, .val (.list jK a2)), (14, .val (.list jK a2)), (15, .val (.int .i64 (a2.length : Int))), (16, .val (.int .i64 (IntKind.wrap .i64 ((a2.length : Int) - 1)))), (17, .cptr c5 0), (18, vV x6), (19, .val (.agg [x4, x6, .int .i64 0]))], [bx 46 [(2, some [vI 0, vI 0, vI 0]), (4, some [.val x4, .val x6, vI i20])]], KK⟩)
noncomputable def Qr9 (lb n : Nat) (jK : Bool) (a2 : LL) (c3 : List CV) (x4 : CV) (c5 : List CV) (x6 : CV) (oM ph : Int) : Option CV :=
 hold (E0 lb n 0 996 (sub (B Qdu) [1, 1, 1, 1]) (retK Tryz.prog (R Qdu) 0 (outK (Qag Tryz.prog Qdu))) ⟨fr 46 [(0, .val (.list jK a2)), (2, .ptr 0 2 0), (3, vB false), (4, .ptr 0 4 0), (5, vI oM), (10, .val (.list jK a2)), (11, .cptr c3 0), (12, vV x4), (13, .val (.list jK a2)), (14, .val (.list jK a2)), (15, .val (.int .i64 (a2.length : Int))), (16, .val (.int .i64 (IntKind.wrap .i64 ((a2.length : Int) - 1)))), (17, .cptr c5 0), (18, vV x6), (19, .val (.agg [x4, x6, .int .i64 0]))], [bx 46 [(2, some [vI 0, vI 0, vI 0]), (4, some [.val x4, .val x6, vI ph])]], KK⟩)
theorem Qtx (lb n : Nat) (jK : Bool) (a2 : LL) (c3 : List CV) (x4 : CV) (c5 : List CV) (x6 : CV) (oM ph : Int) :
 Qr9 lb n jK a2 c3 x4 c5 x6 oM ph =
 some (.tup [.agg [x4, x6, .int .i64 ph], .bool true]) := (Qaf _).trans (by kernel_rfl)
theorem Qk2 (lb n kL : Nat) (jK : Bool) (a2 : LL) (c3 : List CV) (x4 : CV) (c5 : List CV) (x6 : CV) (vj i20 : Int) :
 Qig lb n (kL + 1) jK a2 c3 x4 c5 x6 vj i20 =
 bif (decide (vj < (a2.length : Int))) then
 (optO (atL a2 vj) fun c30 =>
 chkO (c30.length == 1) (
 optO (c30[0]?) fun jZ =>
 optO (C lb n Qco [jZ]) fun rj =>
 optO (CV.asI .i64 rj) fun k8 =>
 chkO (k8 != 0) (
 bif ((Int.tmod (IntKind.wrap .i64 (Int.tdiv i20 k8)) 2) == 0) then
 (optO (atL a2 vj) fun c35 =>
 chkO (c35.length == 1) (
 optO (c35[0]?) fun yG =>
 optO (C lb n Qco [yG]) fun pO =>
 optO (CV.asI .i64 pO) fun vW =>
 Qig lb n kL jK a2 c3 x4 c5 x6 (IntKind.wrap .i64 (vj + 1)) (IntKind.wrap .i64 (i20 + vW))))
 else
 (Qig lb n kL jK a2 c3 x4 c5 x6 (IntKind.wrap .i64 (vj + 1)) i20))))
 else
 (Qr9 lb n jK a2 c3 x4 c5 x6 vj i20) := (Qaf _).trans (by kernel_rfl)
theorem QwO (lb n : Nat) (jK : Bool) (a2 : LL) :
 top lb n Qdu [.list jK a2] =
 bif ((a2.length : Int) == 0) then
 (some (.tup [.agg [.int .i64 0, .int .i64 0, .int .i64 0], .bool false]))
 else
 (optO (atL a2 0) fun c3 =>
 chkO (c3.length == 1) (
 optO (c3[0]?) fun x4 =>
 optO (atL a2 (IntKind.wrap .i64 ((a2.length : Int) - 1))) fun c5 =>
 chkO (c5.length == 1) (
 optO (c5[0]?) fun x6 =>
 chkO (CV.isCell x4) (
 chkO (CV.isCell x6) (
 Qig lb n n jK a2 c3 x4 c5 x6 0 0))))) := by kernel_rfl
noncomputable def Qgc (lb n oi : Nat) (jj jM jo wL w4 wO : Int) (r7 : CV) (gg : Bool) (l23 : LL) (kc : Int) : Option CV :=
 hold (Qas (E0 lb n 0 993) 0 (Qad (sub (B Qcv) [1, 1, 1, 0, 1, 0, 0]) ++ []) [] (sub (B Qcv) [1, 1, 1, 0, 1, 0, 0]) (Qaj 0 (seqK (E0 lb n 0 996) (sub (B Qcv) [1, 1, 1, 0]) (sub (B Qcv) [1, 1, 1, 1]) (retK Tryz.prog (R Qcv) 0 (outK (Qag Tryz.prog Qcv))))) oi ⟨fr 34 [(0, .val (.agg [.int .i64 jj, .int .i64 jM, .int .i64 jo])), (1, .val (.agg [.int .i64 wL, .int .i64 w4, .int .i64 wO])), (2, .ptr 0 2 0), (3, .ptr 0 3 0), (4, .ptr 0 4 0), (5, vB false), (6, vV r7), (7, .lst true gg 3 l23), (8, vI kc), (9, .val (.agg [.int .i64 jj, .int .i64 jM, .int .i64 jo])), (10, vV r7)], [bx 34 [(2, some [vI jj, vI jM, vI jo]), (3, some [vI wL, vI w4, vI wO]), (4, some [vI 0, vI 0, vI 0])]], KK⟩)
noncomputable def Qkb (lb n : Nat) (jj jM jo wL w4 wO : Int) (r7 : CV) (ot : Bool) (l46 : LL) (qs : Int) : Option CV :=
 hold (E0 lb n 0 996 (sub (B Qcv) [1, 1, 1, 1]) (retK Tryz.prog (R Qcv) 0 (outK (Qag Tryz.prog Qcv))) ⟨fr 34 [(0, .val (.agg [.int .i64 jj, .int .i64 jM, .int .i64 jo])), (1, .val (.agg [.int .i64 wL, .int .i64 w4, .int .i64 wO])), (2, .ptr 0 2 0), (3, .ptr 0 3 0), (4, .ptr 0 4 0), (5, vB false), (6, vV r7), (7, .lst true ot 3 l46), (8, vI qs), (9, .val (.agg [.int .i64 jj, .int .i64 jM, .int .i64 jo])), (10, vV r7)], [bx 34 [(2, some [vI jj, vI jM, vI jo]), (3, some [vI wL, vI w4, vI wO]), (4, some [vI 0, vI 0, vI 0])]], KK⟩)
theorem Qq3 (lb n : Nat) (jj jM jo wL w4 wO : Int) (r7 : CV) (ot : Bool) (l46 : LL) (qs : Int) :
 Qkb lb n jj jM jo wL w4 wO r7 ot l46 qs =
 optO (C lb n Qdu [.list ot l46]) fun gk =>
 optO (CV.asT gk) fun nr =>
 optO (nr[0]?) fun gK =>
 optO (CV.asT gk) fun t51 =>
 optO (t51[1]?) fun gv =>
 optO (CV.asA gK) fun c53 =>
 chkO (c53.length == 3) (
 optO (c53[0]?) fun qb =>
 optO (c53[1]?) fun gH =>
 optO (c53[2]?) fun oL =>
 some (.tup [.agg [qb, gH, oL], gv])) := (Qaf _).trans (by kernel_rfl)
theorem Qje (lb n oi : Nat) (jj jM jo wL w4 wO : Int) (r7 : CV) (gg : Bool) (l23 : LL) (kc : Int) :
 Qgc lb n (oi + 1) jj jM jo wL w4 wO r7 gg l23 kc =
 optO (CV.asL r7) fun lE =>
 bif (decide (kc < (lE.2.length : Int))) then
 (optO (CV.asL r7) fun qe =>
 optO (atL qe.2 kc) fun c38 =>
 chkO (c38.length == 1) (
 optO (c38[0]?) fun oU =>
 optO (C lb n Qj0 [.agg [.int .i64 wL, .int .i64 w4, .int .i64 wO], oU]) fun p9 =>
 optO (CV.asB p9) fun oh =>
 bif oh then
 (optO (CV.asL r7) fun lC =>
 optO (atL lC.2 kc) fun c43 =>
 chkO (c43.length == 1) (
 optO (c43[0]?) fun oj =>
 chkO (CV.isCell oj) (
 chkO (room (l23.length + 1) 8) (
 Qgc lb n oi jj jM jo wL w4 wO r7 (gg && false) (l23 ++ [[oj]]) (IntKind.wrap .i64 (kc + 1))))))
 else
 (Qgc lb n oi jj jM jo wL w4 wO r7 gg l23 (IntKind.wrap .i64 (kc + 1)))))
 else
 (Qkb lb n jj jM jo wL w4 wO r7 gg l23 kc) := (Qaf _).trans (by kernel_rfl)
theorem QuO (lb n : Nat) (jj jM jo wL w4 wO : Int) :
 top lb n Qcv [.agg [.int .i64 jj, .int .i64 jM, .int .i64 jo], .agg [.int .i64 wL, .int .i64 w4, .int .i64 wO]] =
 optO (C lb n Qck [.agg [.int .i64 jj, .int .i64 jM, .int .i64 jo]]) fun r7 =>
 Qgc lb n n jj jM jo wL w4 wO r7 true [] 0 := by kernel_rfl
noncomputable def Qei (lb n : Nat) (jj jM jo wL w4 wO : Int) (k4 : Bool) (l35 : LL) : Option CV :=
 hold (E0 lb n 0 994 (sub (B Qbt) [1, 1, 1, 1, 1, 1]) (retK Tryz.prog (R Qbt) 0 (outK (Qag Tryz.prog Qbt))) ⟨fr 57 [(0, .val (.agg [.int .i64 jj, .int .i64 jM, .int .i64 jo])), (1, .val (.agg [.int .i64 wL, .int .i64 w4, .int .i64 wO])), (2, .ptr 0 2 0), (3, .ptr 0 3 0), (4, .lst true true 28 []), (5, .ptr 0 5 0), (6, .clo QdX [.ptr 0 5 0]), (7, .clo QdX [.ptr 0 5 0])], [bx 57 [(2, some [vI jj, vI jM, vI jo]), (3, some [vI wL, vI w4, vI wO]), (5, some [.lst true k4 28 l35])]], KK⟩)
noncomputable def Qdx (lb n : Nat) (jj jM jo wL w4 wO : Int) (gB : Bool) (l47 : LL) : Option CV :=
 hold (E0 lb n 0 993 (sub (B Qbt) [1, 1, 1, 1, 1, 1, 1]) (retK Tryz.prog (R Qbt) 0 (outK (Qag Tryz.prog Qbt))) ⟨fr 57 [(0, .val (.agg [.int .i64 jj, .int .i64 jM, .int .i64 jo])), (1, .val (.agg [.int .i64 wL, .int .i64 w4, .int .i64 wO])), (2, .ptr 0 2 0), (3, .ptr 0 3 0), (4, .lst true true 28 []), (5, .ptr 0 5 0), (6, .clo QdX [.ptr 0 5 0]), (7, .clo QdX [.ptr 0 5 0])], [bx 57 [(2, some [vI jj, vI jM, vI jo]), (3, some [vI wL, vI w4, vI wO]), (5, some [.lst true gB 28 l47])]], KK⟩)
theorem Qlv (lb n : Nat) (jj jM jo wL w4 wO : Int) (gB : Bool) (l47 : LL) :
 Qdx lb n jj jM jo wL w4 wO gB l47 =
 optO (C lb n Qbr [.agg [.int .i64 jj, .int .i64 jM, .int .i64 jo], .int .i64 (IntKind.wrap .i64 (w4 + 1)), .int .i64 jM, .int .i64 127]) fun gk =>
 optO (CV.asT gk) fun nr =>
 optO (nr[0]?) fun gK =>
 optO (CV.asT gk) fun t51 =>
 optO (t51[1]?) fun gv =>
 optO (CV.asA gK) fun c53 =>
 chkO (c53.length == 3) (
 optO (c53[0]?) fun qb =>
 optO (c53[1]?) fun gH =>
 optO (c53[2]?) fun oL =>
 optO (CV.asB gv) fun lm =>
 bif lm then
 (chkO (room (l47.length + 1) 24) (
 some (.list (gB && false) (l47 ++ [[qb, gH, oL]]))))
 else
 (some (.list gB l47))) := (Qaf _).trans (by kernel_rfl)
theorem Qlo (lb n : Nat) (jj jM jo wL w4 wO : Int) (k4 : Bool) (l35 : LL) :
 Qei lb n jj jM jo wL w4 wO k4 l35 =
 optO (C lb n Qbr [.agg [.int .i64 jj, .int .i64 jM, .int .i64 jo], .int .i64 wL, .int .i64 w4, .int .i64 (IntKind.wrap .i64 ((BitVec.ofInt 64 127 &&& ~~~BitVec.ofInt 64 wO).toNat))]) fun gP =>
 optO (CV.asT gP) fun t37 =>
 optO (t37[0]?) fun yJ =>
 optO (CV.asT gP) fun pJ =>
 optO (pJ[1]?) fun oc =>
 optO (CV.asA yJ) fun c41 =>
 chkO (c41.length == 3) (
 optO (c41[0]?) fun gI =>
 optO (c41[1]?) fun gw =>
 optO (c41[2]?) fun oj =>
 optO (CV.asB oc) fun ot =>
 bif ot then
 (chkO (room (l35.length + 1) 24) (
 Qdx lb n jj jM jo wL w4 wO (k4 && false) (l35 ++ [[gI, gw, oj]])))
 else
 (Qdx lb n jj jM jo wL w4 wO k4 l35)) := (Qaf _).trans (by kernel_rfl)
theorem Qf6 (lb n : Nat) (jj jM jo wL w4 wO : Int) :
 top lb n Qbt [.agg [.int .i64 jj, .int .i64 jM, .int .i64 jo], .agg [.int .i64 wL, .int .i64 w4, .int .i64 wO]] =
 optO (C lb n Qbq [.agg [.int .i64 jj, .int .i64 jM, .int .i64 jo]]) fun r7 =>
 optO (CV.asI .i64 r7) fun i9 =>
 bif (i9 != 0) then
 (some (.list true []))
 else
 (optO (C lb n Qbq [.agg [.int .i64 wL, .int .i64 w4, .int .i64 wO]]) fun na =>
 optO (CV.asI .i64 na) fun vf =>
 bif (vf != 0) then
 (optO (C lb n Qbf [.agg [.int .i64 jj, .int .i64 jM, .int .i64 jo]]) fun y6 =>
 optO (CV.asT y6) fun mZ =>
 optO (mZ[0]?) fun yI =>
 optO (CV.asT y6) fun m9 =>
 optO (m9[1]?) fun gt =>
 optO (CV.asA yI) fun c18 =>
 chkO (c18.length == 3) (
 optO (c18[0]?) fun w8 =>
 optO (c18[1]?) fun wA =>
 optO (c18[2]?) fun yi =>
 optO (CV.asB gt) fun gg =>
 bif gg then
 (some (.list false [[w8, wA, yi]]))
 else
 (some (.list true []))))
 else
 (optO (C lb n Qbr [.agg [.int .i64 jj, .int .i64 jM, .int .i64 jo], .int .i64 jj, .int .i64 (IntKind.wrap .i64 (wL - 1)), .int .i64 127]) fun w5 =>
 optO (CV.asT w5) fun pN =>
 optO (pN[0]?) fun wG =>
 optO (CV.asT w5) fun qg =>
 optO (qg[1]?) fun wC =>
 optO (CV.asA wG) fun c28 =>
 chkO (c28.length == 3) (
 optO (c28[0]?) fun j1 =>
 optO (c28[1]?) fun yo =>
 optO (c28[2]?) fun jZ =>
 optO (CV.asB wC) fun gV =>
 bif gV then
 (Qei lb n jj jM jo wL w4 wO false [[j1, yo, jZ]])
 else
 (Qei lb n jj jM jo wL w4 wO true [])))) := by kernel_rfl
end Go.Proofs
