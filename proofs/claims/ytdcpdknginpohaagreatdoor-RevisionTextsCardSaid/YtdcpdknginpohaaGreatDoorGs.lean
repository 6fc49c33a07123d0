/- Equations of functions, printed by program. Conditions: none. -/
import Derived.Test.YtdcpdknginpohaaGreatDoorEv
namespace Go.Proofs
open Go.Am
set_option maxRecDepth 100000
set_option linter.unusedVariables false
noncomputable def flight_Parse_L1 :=
 fun lb n (v6 : Nat) a1 x4 r2 x6 (c12 : List CV) jB (wL : Bool × LL) (l39 : LL) jp wx jR jS (y4 : Nat) v70 (kM : Bool) (l72 : LL) =>
 hold (QbJ (X0 lb n 1 989) 1 (sub (B Qbd) [1, 1, 1, 1, 1, 1, 1, 0, 1, 0, 0]) (sub (B Qbd) [1, 1, 1, 1, 1, 1, 1, 0, 1, 0, 1]) [59] (fr 107 [(0, vS a1), (2, .ptr 0 2 0), (3, .ptr 0 3 0), (4, vV x4), (5, .ptr 0 5 0), (6, .ptr 0 6 0), (9, vV r2), (10, vS a1), (11, vV r2), (12, vV x4), (13, vV x6), (28, vV x4), (29, .cptr c12 0), (30, vV jB), (31, .val (.agg [jB, .int .i64 0, .int .i64 0, .int .i64 0, .int .i64 0, .list true []])), (56, vV x4), (57, .val (.list wL.1 ((wL.2.take ((wL.2.length : Int).toNat)).drop 3)))]) KK l39 (QcA (Qat 0 (seqK (E0 lb n 0 992) (sub (B Qbd) [1, 1, 1, 1, 1, 1, 1, 0]) (sub (B Qbd) [1, 1, 1, 1, 1, 1, 1, 1]) (retK Tryz.prog (R Qbd) 0 (outK (Qad Tryz.prog Qbd))))) (fr 107 [(0, vS a1), (2, .ptr 0 2 0), (3, .ptr 0 3 0), (4, vV x4), (5, .ptr 0 5 0), (6, .ptr 0 6 0), (9, vV r2), (10, vS a1), (11, vV r2), (12, vV x4), (13, vV x6), (28, vV x4), (29, .cptr c12 0), (30, vV jB), (31, .val (.agg [jB, .int .i64 0, .int .i64 0, .int .i64 0, .int .i64 0, .list true []])), (56, vV x4), (57, .val (.list wL.1 ((wL.2.take ((wL.2.length : Int).toNat)).drop 3)))]) KK) v6 y4 [bx 109 [(2, some [.val (.str []), vI 0, vI 0, vI 0, vI 0, .lst true true 94 []]), (3, some [vI 0]), (5, some [.val v70]), (6, some [.val jB, .val jp, .val wx, .val jR, .val jS, .lst true kM 94 l72])]])
noncomputable def Qjw (lb n : Nat) (a1 : LB) (x4 r2 x6 : CV) (c12 : List CV) (jB jp wx jR jS k9 : CV) (vp : Bool) (vc : LL) : Option CV :=
 hold (E0 lb n 0 992 (sub (B Qbd) [1, 1, 1, 1, 1, 1, 1, 1]) (retK Tryz.prog (R Qbd) 0 (outK (Qad Tryz.prog Qbd))) ⟨fr 107 [(0, vS a1), (2, .ptr 0 2 0), (3, .ptr 0 3 0), (4, vV x4), (5, .ptr 0 5 0), (6, .ptr 0 6 0), (9, vV r2), (10, vS a1), (11, vV r2), (12, vV x4), (13, vV x6), (28, vV x4), (29, .cptr c12 0), (30, vV jB), (31, .val (.agg [jB, .int .i64 0, .int .i64 0, .int .i64 0, .int .i64 0, .list true []]))], [bx 109 [(2, some [.val (.str []), vI 0, vI 0, vI 0, vI 0, .lst true true 94 []]), (3, some [vI 0]), (5, some [.val k9]), (6, some [.val jB, .val jp, .val wx, .val jR, .val jS, .lst true vp 94 vc])]], KK⟩)
theorem QmD (lb n : Nat) (a1 : LB) (x4 r2 x6 : CV) (c12 : List CV) (jB jp wx jR jS k9 : CV) (vp : Bool) (vc : LL) :
 Qjw lb n a1 x4 r2 x6 c12 jB jp wx jR jS k9 vp vc =
 optO (C lb n QaT [.agg [jB, jp, wx, jR, jS, .list vp vc]]) fun vZ =>
 chkO (CV.isCell vZ) (
 optO (CV.asI .i64 vZ) fun mu =>
 bif (mu != 0) then
 (chkO (CV.isCell vZ) (
 some (.tup [.agg [.str [], .int .i64 0, .int .i64 0, .int .i64 0, .int .i64 0, .list true []], vZ])))
 else
 (some (.tup [.agg [jB, jp, wx, jR, jS, .list vp vc], .int .i64 0]))) := (Qab _).trans (by kernel_rfl)
theorem QgI (lb n v6 : Nat) (a1 : LB) (x4 r2 x6 : CV) (c12 : List CV) (jB : CV) (wL : Bool × LL) (l39 : LL) (jp wx jR jS : CV) (y4 : Nat) (v70 : CV) (kM : Bool) (l72 : LL) :
 flight_Parse_L1 lb n (v6 + 1) a1 x4 r2 x6 c12 jB wL l39 jp wx jR jS y4 v70 kM l72 =
 bif (decide (y4 < l39.length)) then
 (optO (l39[y4]?) fun x104 =>
 optO (x104.head?) fun vm =>
 optO (CV.asL vm) fun gU =>
 optO (atL gU.2 0) fun c107 =>
 chkO (c107.length == 1) (
 optO (c107[0]?) fun gy =>
 optO (CV.asL vm) fun oh =>
 optO (atL oh.2 1) fun c110 =>
 chkO (c110.length == 1) (
 optO (c110[0]?) fun y0 =>
 optO (CV.asL vm) fun mB =>
 optO (atL mB.2 4) fun c113 =>
 chkO (c113.length == 1) (
 optO (c113[0]?) fun yL =>
 chkO (CV.isCell gy) (
 chkO (CV.isCell y0) (
 chkO (CV.isCell yL) (
 optO (CV.asL vm) fun mq =>
 optO (atL mq.2 2) fun c116 =>
 chkO (c116.length == 1) (
 optO (c116[0]?) fun od =>
 optO (C lb n Qb2 [od]) fun v7 =>
 optO (CV.asT v7) fun t119 =>
 optO (t119[0]?) fun vl =>
 optO (CV.asT v7) fun mF =>
 optO (mF[1]?) fun kc =>
 chkO (CV.isCell vl) (
 chkO (CV.isCell kc) (
 optO (CV.asI .i64 kc) fun gY =>
 bif (gY != 0) then
 (chkO (CV.isCell kc) (
 some (.tup [.agg [.str [], .int .i64 0, .int .i64 0, .int .i64 0, .int .i64 0, .list true []], kc])))
 else
 (optO (CV.asL vm) fun og =>
 optO (atL og.2 3) fun c125 =>
 chkO (c125.length == 1) (
 optO (c125[0]?) fun kb =>
 optO (C lb n Qb2 [kb]) fun o4 =>
 optO (CV.asT o4) fun mo =>
 optO (mo[0]?) fun gn =>
 optO (CV.asT o4) fun md =>
 optO (md[1]?) fun vA =>
 chkO (CV.isCell gn) (
 chkO (CV.isCell vA) (
 optO (CV.asI .i64 vA) fun mt =>
 bif (mt != 0) then
 (chkO (CV.isCell vA) (
 some (.tup [.agg [.str [], .int .i64 0, .int .i64 0, .int .i64 0, .int .i64 0, .list true []], vA])))
 else
 (chkO (room (l72.length + 1) 64) (
 flight_Parse_L1 lb n v6 a1 x4 r2 x6 c12 jB wL l39 jp wx jR jS (y4 + 1) vA (kM && false) (l72 ++ [[gy, y0, vl, gn, yL]])))))))))))))))))
 else
 (Qjw lb n a1 x4 r2 x6 c12 jB jp wx jR jS v70 kM l72) := (Qab _).trans (by kernel_rfl)
theorem Qo5 (lb n : Nat) (a1 : LB) :
 top lb n Qbd [.str a1] =
 optO (C lb n QbC [.str a1]) fun r2 =>
 optO (CV.asT r2) fun t3 =>
 optO (t3[0]?) fun x4 =>
 optO (CV.asT r2) fun t5 =>
 optO (t5[1]?) fun x6 =>
 chkO (CV.isCell x6) (
 optO (CV.asI .i64 x6) fun i7 =>
 bif (i7 != 0) then
 (chkO (CV.isCell x6) (
 some (.tup [.agg [.str [], .int .i64 0, .int .i64 0, .int .i64 0, .int .i64 0, .list true []], x6])))
 else
 (optO (CV.asL x4) fun p9 =>
 bif (decide ((p9.2.length : Int) < 8)) then
 (some (.tup [.agg [.str [], .int .i64 0, .int .i64 0, .int .i64 0, .int .i64 0, .list true []], .int .i64 3]))
 else
 (optO (CV.asL x4) fun jW =>
 bif ((Int.tmod (jW.2.length : Int) 5) != 3) then
 (some (.tup [.agg [.str [], .int .i64 0, .int .i64 0, .int .i64 0, .int .i64 0, .list true []], .int .i64 3]))
 else
 (optO (CV.asL x4) fun gD =>
 optO (atL gD.2 0) fun c12 =>
 chkO (c12.length == 1) (
 optO (c12[0]?) fun jB =>
 chkO (CV.isCell jB) (
 optO (CV.asL x4) fun ke =>
 optO (atL ke.2 1) fun c15 =>
 chkO (c15.length == 1) (
 optO (c15[0]?) fun jx =>
 optO (C lb n Qb2 [jx]) fun jo =>
 optO (CV.asT jo) fun yj =>
 optO (yj[0]?) fun jp =>
 optO (CV.asT jo) fun t21 =>
 optO (t21[1]?) fun js =>
 chkO (CV.isCell jp) (
 chkO (CV.isCell js) (
 optO (CV.asI .i64 js) fun wm =>
 bif (wm != 0) then
 (chkO (CV.isCell js) (
 some (.tup [.agg [.str [], .int .i64 0, .int .i64 0, .int .i64 0, .int .i64 0, .list true []], js])))
 else
 (optO (CV.asL x4) fun gC =>
 optO (atL gC.2 2) fun c25 =>
 chkO (c25.length == 1) (
 optO (c25[0]?) fun jQ =>
 optO (C lb n Qfc [jQ]) fun yC =>
 optO (CV.asT yC) fun o5 =>
 optO (o5[0]?) fun k5 =>
 optO (CV.asT yC) fun ks =>
 optO (ks[1]?) fun jH =>
 optO (CV.asA k5) fun c33 =>
 chkO (c33.length == 3) (
 optO (c33[0]?) fun wx =>
 optO (c33[1]?) fun jR =>
 optO (c33[2]?) fun jS =>
 chkO (CV.isCell jH) (
 optO (CV.asI .i64 jH) fun i37 =>
 bif (i37 != 0) then
 (chkO (CV.isCell jH) (
 some (.tup [.agg [.str [], .int .i64 0, .int .i64 0, .int .i64 0, .int .i64 0, .list true []], jH])))
 else
 (optO (CV.asL x4) fun wL =>
 chkO (wL.2.all (·.length == 1)) (
 chkO (decide ((0 : Int) ≤ 3 ∧ 3 ≤ (wL.2.length : Int))) (
 optO (itChunk [[.list wL.1 ((wL.2.take ((wL.2.length : Int).toNat)).drop 3)], [.int .i64 5]]) fun l39 =>
 chkO (l39.all fun x => x.length == 1) (
 flight_Parse_L1 lb n n a1 x4 r2 x6 c12 jB wL l39 jp wx jR jS 0 jH true []))))))))))))))))) := by kernel_rfl
end Go.Proofs
