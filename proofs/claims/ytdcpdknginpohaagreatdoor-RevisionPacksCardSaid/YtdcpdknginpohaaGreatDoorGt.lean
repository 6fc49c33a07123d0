/- Equations of functions, printed by program. Conditions: none. -/
import Derived.Test.YtdcpdknginpohaaGreatDoorEv
namespace Go.Proofs
open Go.Am
set_option maxRecDepth 100000
set_option linter.unusedVariables false
noncomputable def period_Normal_L1 :=
 fun lb n (kJ : Nat) je ji jj (l4 : LL) (y0 : Nat) kD oT j6 yI =>
 hold (Qbl (X0 lb n 1 993) 1 (sub (B QaR) [1, 1, 1, 0, 1, 0, 0]) (sub (B QaR) [1, 1, 1, 0, 1, 0, 1]) [9] (fr 25 [(0, .val (.agg [.int .i64 je, .int .i64 ji, .int .i64 jj])), (1, .ptr 0 1 0), (2, .ptr 0 2 0), (3, vB false), (4, .ptr 0 4 0), (5, .ptr 0 5 0), (7, .val (.agg [.int .i64 je, .int .i64 ji, .int .i64 jj]))]) KK l4 (Qb8 (Qaj 0 (seqK (E0 lb n 0 996) (sub (B QaR) [1, 1, 1, 0]) (sub (B QaR) [1, 1, 1, 1]) (retK Tryz.prog (R QaR) 0 (outK (Qaf Tryz.prog QaR))))) (fr 25 [(0, .val (.agg [.int .i64 je, .int .i64 ji, .int .i64 jj])), (1, .ptr 0 1 0), (2, .ptr 0 2 0), (3, vB false), (4, .ptr 0 4 0), (5, .ptr 0 5 0), (7, .val (.agg [.int .i64 je, .int .i64 ji, .int .i64 jj]))]) KK) kJ y0 [bx 26 [(1, some [vI je, vI ji, vI jj]), (2, some [vI 0, vI 0, vI 0]), (4, some [.val kD, .val oT, vI j6]), (5, some [vB yI])]])
noncomputable def QhC (lb n : Nat) (je ji jj : Int) (oS oA : CV) (wl : Int) (oV : Bool) : Option CV :=
 hold (E0 lb n 0 996 (sub (B QaR) [1, 1, 1, 1]) (retK Tryz.prog (R QaR) 0 (outK (Qaf Tryz.prog QaR))) ⟨fr 25 [(0, .val (.agg [.int .i64 je, .int .i64 ji, .int .i64 jj])), (1, .ptr 0 1 0), (2, .ptr 0 2 0), (3, vB false), (4, .ptr 0 4 0), (5, .ptr 0 5 0)], [bx 26 [(1, some [vI je, vI ji, vI jj]), (2, some [vI 0, vI 0, vI 0]), (4, some [.val oS, .val oA, vI wl]), (5, some [vB oV])]], KK⟩)
theorem Qj2 (lb n : Nat) (je ji jj : Int) (oS oA : CV) (wl : Int) (oV : Bool) :
 QhC lb n je ji jj oS oA wl oV =
 some (.tup [.agg [oS, oA, .int .i64 wl], .bool oV]) := (Qad _).trans (by kernel_rfl)
theorem Qe5 (lb n kJ : Nat) (je ji jj : Int) (l4 : LL) (y0 : Nat) (kD oT : CV) (j6 : Int) (yI : Bool) :
 period_Normal_L1 lb n (kJ + 1) je ji jj l4 y0 kD oT j6 yI =
 bif (decide (y0 < l4.length)) then
 (optO (l4[y0]?) fun x23 =>
 optO (x23.head?) fun c24 =>
 bif (!yI) then
 (chkO (CV.isCell c24) (
 chkO (CV.isCell c24) (
 optO (C lb n Qcn [c24]) fun kB =>
 optO (CV.asI .i64 kB) fun yr =>
 chkO (decide (0 ≤ yr)) (
 period_Normal_L1 lb n kJ je ji jj l4 (y0 + 1) c24 c24 (IntKind.wrap .i64 ((BitVec.ofInt 64 j6 ||| BitVec.ofInt 64 (IntKind.wrap .i64 (1 * 2 ^ (min (yr).toNat 64)))).toNat)) true))))
 else
 (chkO (CV.isCell c24) (
 optO (C lb n Qcn [c24]) fun vC =>
 optO (CV.asI .i64 vC) fun vG =>
 chkO (decide (0 ≤ vG)) (
 period_Normal_L1 lb n kJ je ji jj l4 (y0 + 1) kD c24 (IntKind.wrap .i64 ((BitVec.ofInt 64 j6 ||| BitVec.ofInt 64 (IntKind.wrap .i64 (1 * 2 ^ (min (vG).toNat 64)))).toNat)) true))))
 else
 (QhC lb n je ji jj kD oT j6 yI) := (Qad _).trans (by kernel_rfl)
theorem Qmi (lb n : Nat) (je ji jj : Int) :
 top lb n QaR [.agg [.int .i64 je, .int .i64 ji, .int .i64 jj]] =
 optO (itEach [[.int .i64 je, .int .i64 ji, .int .i64 jj]]) fun l4 =>
 chkO (l4.all fun x => x.length == 1) (
 period_Normal_L1 lb n n je ji jj l4 0 (.int .i64 0) (.int .i64 0) 0 false) := by kernel_rfl
noncomputable def Qgc (lb n yd : Nat) (jh : Bool) (a2 : LL) (c3 : List CV) (x4 : CV) (c5 : List CV) (x6 : CV) (yb i20 : Int) : Option CV :=
 hold (Qas (E0 lb n 0 993) 0 (Qag (sub (B Qcf) [1, 1, 1, 0, 1, 0, 0]) ++ []) [] (sub (B Qcf) [1, 1, 1, 0, 1, 0, 0]) (Qaj 0 (seqK (E0 lb n 0 996) (sub (B Qcf) [1, 1, 1, 0]) (sub (B Qcf) [1, 1, 1, 1]) (retK Tryz.prog (R Qcf) 0 (outK (Qaf Tryz.prog Qcf))))) yd ⟨fr 46 [(0, .val (.list jh a2)), (2, .ptr 0 2 0), (3, vB false), (4, .ptr 0 4 0), (5, vI yb), (10, .val (.list jh a2)), (11, .cptr c3 0), (12, vV x4), (13, .val (.list jh a2)), (14, .val (.list jh a2)), (15, .val (.int .i64 (a2.length : Int))), (16, .val (.int .i64 (IntKind.wrap .i64 ((a2.length : Int) - 1)))), (17, .cptr c5 0), (18, vV x6), (19, .val (.agg [x4, x6, .int .i64 0]))], [bx 46 [(2, some [vI 0, vI 0, vI 0]), (4, some [.val x4, .val x6, vI i20])]], KK⟩)
noncomputable def Qo1 (lb n : Nat) (jh : Bool) (a2 : LL) (c3 : List CV) (x4 : CV) (c5 : List CV) (x6 : CV) (yq oL : Int) : Option CV :=
 hold (E0 lb n 0 996 (sub (B Qcf) [1, 1, 1, 1]) (retK Tryz.prog (R Qcf) 0 (outK (Qaf Tryz.prog Qcf))) ⟨fr 46 [(0, .val (.list jh a2)), (2, .ptr 0 2 0), (3, vB false), (4, .ptr 0 4 0), (5, vI yq), (10, .val (.list jh a2)), (11, .cptr c3 0), (12, vV x4), (13, .val (.list jh a2)), (14, .val (.list jh a2)), (15, .val (.int .i64 (a2.length : Int))), (16, .val (.int .i64 (IntKind.wrap .i64 ((a2.length : Int) - 1)))), (17, .cptr c5 0), (18, vV x6), (19, .val (.agg [x4, x6, .int .i64 0]))], [bx 46 [(2, some [vI 0, vI 0, vI 0]), (4, some [.val x4, .val x6, vI oL])]], KK⟩)
theorem QpR (lb n : Nat) (jh : Bool) (a2 : LL) (c3 : List CV) (x4 : CV) (c5 : List CV) (x6 : CV) (yq oL : Int) :
 Qo1 lb n jh a2 c3 x4 c5 x6 yq oL =
 some (.tup [.agg [x4, x6, .int .i64 oL], .bool true]) := (Qad _).trans (by kernel_rfl)
theorem QiP (lb n yd : Nat) (jh : Bool) (a2 : LL) (c3 : List CV) (x4 : CV) (c5 : List CV) (x6 : CV) (yb i20 : Int) :
 Qgc lb n (yd + 1) jh a2 c3 x4 c5 x6 yb i20 =
 bif (decide (yb < (a2.length : Int))) then
 (optO (atL a2 yb) fun c30 =>
 chkO (c30.length == 1) (
 optO (c30[0]?) fun jF =>
 optO (C lb n QbL [jF]) fun pg =>
 optO (CV.asI .i64 pg) fun vH =>
 chkO (vH != 0) (
 bif ((Int.tmod (IntKind.wrap .i64 (Int.tdiv i20 vH)) 2) == 0) then
 (optO (atL a2 yb) fun c35 =>
 chkO (c35.length == 1) (
 optO (c35[0]?) fun yW =>
 optO (C lb n QbL [yW]) fun kA =>
 optO (CV.asI .i64 kA) fun w5 =>
 Qgc lb n yd jh a2 c3 x4 c5 x6 (IntKind.wrap .i64 (yb + 1)) (IntKind.wrap .i64 (i20 + w5))))
 else
 (Qgc lb n yd jh a2 c3 x4 c5 x6 (IntKind.wrap .i64 (yb + 1)) i20))))
 else
 (Qo1 lb n jh a2 c3 x4 c5 x6 yb i20) := (Qad _).trans (by kernel_rfl)
theorem Qtk (lb n : Nat) (jh : Bool) (a2 : LL) :
 top lb n Qcf [.list jh a2] =
 bif ((a2.length : Int) == 0) then
 (some (.tup [.agg [.int .i64 0, .int .i64 0, .int .i64 0], .bool false]))
 else
 (optO (atL a2 0) fun c3 =>
 chkO (c3.length == 1) (
 optO (c3[0]?) fun x4 =>
 optO (atL a2 (IntKind.wrap .i64 ((a2.length : Int) - 1))) fun c5 =>
 chkO (c5.length == 1) (
 optO (c5[0]?) fun x6 =>
 chkO (CV.isCell x4) (
 chkO (CV.isCell x6) (
 Qgc lb n n jh a2 c3 x4 c5 x6 0 0))))) := by kernel_rfl
theorem Qpb (lb n : Nat) (je ji jj : Int) :
 top lb n Qhz [.agg [.int .i64 je, .int .i64 ji, .int .i64 jj]] =
 optO (C lb n Qbk [.agg [.int .i64 je, .int .i64 ji, .int .i64 jj]]) fun r4 =>
 optO (C lb n Qcf [r4]) fun r5 =>
 optO (CV.asT r5) fun t6 =>
 optO (t6[0]?) fun x7 =>
 optO (CV.asT r5) fun t9 =>
 optO (t9[1]?) fun jq =>
 optO (CV.asA x7) fun c11 =>
 chkO (c11.length == 3) (
 optO (c11[0]?) fun jD =>
 optO (c11[1]?) fun jS =>
 optO (c11[2]?) fun pJ =>
 some (.tup [.agg [jD, jS, pJ], jq])) := by kernel_rfl
noncomputable def Qeq (lb n ye : Nat) (je ji jj jl jm jn : Int) (r7 : CV) (vK : Bool) (l23 : LL) (wX : Int) : Option CV :=
 hold (Qas (E0 lb n 0 993) 0 (Qag (sub (B Qbt) [1, 1, 1, 0, 1, 0, 0]) ++ []) [] (sub (B Qbt) [1, 1, 1, 0, 1, 0, 0]) (Qaj 0 (seqK (E0 lb n 0 996) (sub (B Qbt) [1, 1, 1, 0]) (sub (B Qbt) [1, 1, 1, 1]) (retK Tryz.prog (R Qbt) 0 (outK (Qaf Tryz.prog Qbt))))) ye ⟨fr 34 [(0, .val (.agg [.int .i64 je, .int .i64 ji, .int .i64 jj])), (1, .val (.agg [.int .i64 jl, .int .i64 jm, .int .i64 jn])), (2, .ptr 0 2 0), (3, .ptr 0 3 0), (4, .ptr 0 4 0), (5, vB false), (6, vV r7), (7, .lst true vK 3 l23), (8, vI wX), (9, .val (.agg [.int .i64 je, .int .i64 ji, .int .i64 jj])), (10, vV r7)], [bx 34 [(2, some [vI je, vI ji, vI jj]), (3, some [vI jl, vI jm, vI jn]), (4, some [vI 0, vI 0, vI 0])]], KK⟩)
noncomputable def Qiq (lb n : Nat) (je ji jj jl jm jn : Int) (r7 : CV) (oB : Bool) (oM : LL) (gp : Int) : Option CV :=
 hold (E0 lb n 0 996 (sub (B Qbt) [1, 1, 1, 1]) (retK Tryz.prog (R Qbt) 0 (outK (Qaf Tryz.prog Qbt))) ⟨fr 34 [(0, .val (.agg [.int .i64 je, .int .i64 ji, .int .i64 jj])), (1, .val (.agg [.int .i64 jl, .int .i64 jm, .int .i64 jn])), (2, .ptr 0 2 0), (3, .ptr 0 3 0), (4, .ptr 0 4 0), (5, vB false), (6, vV r7), (7, .lst true oB 3 oM), (8, vI gp), (9, .val (.agg [.int .i64 je, .int .i64 ji, .int .i64 jj])), (10, vV r7)], [bx 34 [(2, some [vI je, vI ji, vI jj]), (3, some [vI jl, vI jm, vI jn]), (4, some [vI 0, vI 0, vI 0])]], KK⟩)
theorem QnQ (lb n : Nat) (je ji jj jl jm jn : Int) (r7 : CV) (oB : Bool) (oM : LL) (gp : Int) :
 Qiq lb n je ji jj jl jm jn r7 oB oM gp =
 optO (C lb n Qcf [.list oB oM]) fun gO =>
 optO (CV.asT gO) fun pw =>
 optO (pw[0]?) fun vp =>
 optO (CV.asT gO) fun t51 =>
 optO (t51[1]?) fun yV =>
 optO (CV.asA vp) fun c53 =>
 chkO (c53.length == 3) (
 optO (c53[0]?) fun gu =>
 optO (c53[1]?) fun yZ =>
 optO (c53[2]?) fun yU =>
 some (.tup [.agg [gu, yZ, yU], yV])) := (Qad _).trans (by kernel_rfl)
theorem Qhj (lb n ye : Nat) (je ji jj jl jm jn : Int) (r7 : CV) (vK : Bool) (l23 : LL) (wX : Int) :
 Qeq lb n (ye + 1) je ji jj jl jm jn r7 vK l23 wX =
 optO (CV.asL r7) fun pC =>
 bif (decide (wX < (pC.2.length : Int))) then
 (optO (CV.asL r7) fun pG =>
 optO (atL pG.2 wX) fun c38 =>
 chkO (c38.length == 1) (
 optO (c38[0]?) fun gL =>
 optO (C lb n Qf9 [.agg [.int .i64 jl, .int .i64 jm, .int .i64 jn], gL]) fun gI =>
 optO (CV.asB gI) fun gm =>
 bif gm then
 (optO (CV.asL r7) fun gE =>
 optO (atL gE.2 wX) fun c43 =>
 chkO (c43.length == 1) (
 optO (c43[0]?) fun vP =>
 chkO (CV.isCell vP) (
 chkO (room (l23.length + 1) 8) (
 Qeq lb n ye je ji jj jl jm jn r7 (vK && false) (l23 ++ [[vP]]) (IntKind.wrap .i64 (wX + 1))))))
 else
 (Qeq lb n ye je ji jj jl jm jn r7 vK l23 (IntKind.wrap .i64 (wX + 1)))))
 else
 (Qiq lb n je ji jj jl jm jn r7 vK l23 wX) := (Qad _).trans (by kernel_rfl)
theorem Qre (lb n : Nat) (je ji jj jl jm jn : Int) :
 top lb n Qbt [.agg [.int .i64 je, .int .i64 ji, .int .i64 jj], .agg [.int .i64 jl, .int .i64 jm, .int .i64 jn]] =
 optO (C lb n Qbk [.agg [.int .i64 je, .int .i64 ji, .int .i64 jj]]) fun r7 =>
 Qeq lb n n je ji jj jl jm jn r7 true [] 0 := by kernel_rfl
end Go.Proofs
