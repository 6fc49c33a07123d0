/- Equations of functions, printed by program. Conditions: none. -/
import Derived.Test.YtdcpdknginpohaaGreatDoorEv
namespace Go.Proofs
open Go.Am
set_option maxRecDepth 100000
set_option linter.unusedVariables false
noncomputable def r07_Parse_L1 :=
 fun lb n (oG : Nat) a1 x4 jX jx r2 x6 jG (c12 : List CV) jB j0 j8 (c22 : List CV) j5 jQ (c36 : List CV) jM jI jH jN wK (yZ : Bool) (l69 : LL) =>
 hold (QaB (E0 lb n 0 987) 0 (Qaj (sub (B Qb3) [1, 1, 1, 1, 1, 1, 1, 1, 1, 0, 1, 0, 0]) ++ [10, 11, 12, 11]) [] (sub (B Qb3) [1, 1, 1, 1, 1, 1, 1, 1, 1, 0, 1, 0, 0]) (Qat 0 (seqK (E0 lb n 0 990) (sub (B Qb3) [1, 1, 1, 1, 1, 1, 1, 1, 1, 0]) (sub (B Qb3) [1, 1, 1, 1, 1, 1, 1, 1, 1, 1]) (retK Tryz.prog (R Qb3) 0 (outK (Qad Tryz.prog Qb3))))) oG ⟨fr 125 [(0, vS a1), (2, .ptr 0 2 0), (3, vI 0), (4, vV x4), (5, vV jX), (6, vV jx), (7, .ptr 0 7 0), (8, .ptr 0 8 0), (9, vI wK), (13, vV r2), (14, vS a1), (15, vV r2), (16, vV x4), (17, vV x6), (33, vV jG), (34, vV x4), (35, .cptr c12 0), (36, vV jB), (37, vV jG), (38, vV jx), (39, vV j0), (44, vV j8), (45, vV x4), (46, .cptr c22 0), (47, vV j5), (48, vV j8), (49, vV jQ), (50, vV jX), (55, vV x4), (56, .cptr c36 0), (57, vV jM), (58, vV jx), (59, .val (.agg [jI, jH, jN])), (60, .val (.agg [jM, jx, jI, jH, jN, .list true []]))], [bx 125 [(2, some [.val (.str []), vI 0, vI 0, vI 0, vI 0, .lst true true 94 []]), (7, some [.val jI, .val jH, .val jN]), (8, some [.val jM, .val jx, .val jI, .val jH, .val jN, .lst true yZ 94 l69])]], KK⟩)
noncomputable def QmT (lb n : Nat) (a1 : LB) (x4 jX jx r2 x6 jG : CV) (c12 : List CV) (jB j0 j8 : CV) (c22 : List CV) (j5 jQ : CV) (c36 : List CV) (jM jI jH jN : CV) (i127 : Int) (vh : Bool) (vi : LL) : Option CV :=
 hold (E0 lb n 0 990 (sub (B Qb3) [1, 1, 1, 1, 1, 1, 1, 1, 1, 1]) (retK Tryz.prog (R Qb3) 0 (outK (Qad Tryz.prog Qb3))) ⟨fr 125 [(0, vS a1), (2, .ptr 0 2 0), (3, vI 0), (4, vV x4), (5, vV jX), (6, vV jx), (7, .ptr 0 7 0), (8, .ptr 0 8 0), (9, vI i127), (13, vV r2), (14, vS a1), (15, vV r2), (16, vV x4), (17, vV x6), (33, vV jG), (34, vV x4), (35, .cptr c12 0), (36, vV jB), (37, vV jG), (38, vV jx), (39, vV j0), (44, vV j8), (45, vV x4), (46, .cptr c22 0), (47, vV j5), (48, vV j8), (49, vV jQ), (50, vV jX), (55, vV x4), (56, .cptr c36 0), (57, vV jM), (58, vV jx), (59, .val (.agg [jI, jH, jN])), (60, .val (.agg [jM, jx, jI, jH, jN, .list true []]))], [bx 125 [(2, some [.val (.str []), vI 0, vI 0, vI 0, vI 0, .lst true true 94 []]), (7, some [.val jI, .val jH, .val jN]), (8, some [.val jM, .val jx, .val jI, .val jH, .val jN, .lst true vh 94 vi])]], KK⟩)
theorem Qpz (lb n : Nat) (a1 : LB) (x4 jX jx r2 x6 jG : CV) (c12 : List CV) (jB j0 j8 : CV) (c22 : List CV) (j5 jQ : CV) (c36 : List CV) (jM jI jH jN : CV) (i127 : Int) (vh : Bool) (vi : LL) :
 QmT lb n a1 x4 jX jx r2 x6 jG c12 jB j0 j8 c22 j5 jQ c36 jM jI jH jN i127 vh vi =
 optO (C lb n Qbh [.agg [jM, jx, jI, jH, jN, .list vh vi]]) fun gt =>
 optO (CV.asT gt) fun gW =>
 optO (gW[0]?) fun p8 =>
 optO (CV.asT gt) fun g0 =>
 optO (g0[1]?) fun gb =>
 optO (CV.asI .i64 gb) fun mg =>
 bif (mg != 0) then
 (some (.tup [.agg [.str [], .int .i64 0, .int .i64 0, .int .i64 0, .int .i64 0, .list true []], gb]))
 else
 (some (.tup [.agg [jM, jx, jI, jH, jN, .list vh vi], .int .i64 0])) := (Qab _).trans (by kernel_rfl)
theorem Qig (lb n oG : Nat) (a1 : LB) (x4 jX jx r2 x6 jG : CV) (c12 : List CV) (jB j0 j8 : CV) (c22 : List CV) (j5 jQ : CV) (c36 : List CV) (jM jI jH jN : CV) (wK : Int) (yZ : Bool) (l69 : LL) :
 r07_Parse_L1 lb n (oG + 1) a1 x4 jX jx r2 x6 jG c12 jB j0 j8 c22 j5 jQ c36 jM jI jH jN wK yZ l69 =
 optO (CV.asL x4) fun mP =>
 bif (decide (wK < (mP.2.length : Int))) then
 (optO (CV.asL x4) fun mD =>
 optO (atL mD.2 (IntKind.wrap .i64 (wK + 2))) fun c101 =>
 chkO (c101.length == 1) (
 optO (c101[0]?) fun mw =>
 optO (C lb n Qan [mw]) fun yK =>
 optO (CV.asT yK) fun oe =>
 optO (oe[0]?) fun v8 =>
 optO (CV.asT yK) fun oa =>
 optO (oa[1]?) fun ka =>
 optO (CV.asI .i64 ka) fun g9 =>
 bif (g9 != 0) then
 (some (.tup [.agg [.str [], .int .i64 0, .int .i64 0, .int .i64 0, .int .i64 0, .list true []], ka]))
 else
 (optO (CV.asL x4) fun oh =>
 optO (atL oh.2 (IntKind.wrap .i64 (wK + 3))) fun c110 =>
 chkO (c110.length == 1) (
 optO (c110[0]?) fun y0 =>
 optO (C lb n Qan [y0]) fun gF =>
 optO (CV.asT gF) fun gZ =>
 optO (gZ[0]?) fun yL =>
 optO (CV.asT gF) fun mM =>
 optO (mM[1]?) fun kd =>
 optO (CV.asI .i64 kd) fun mN =>
 bif (mN != 0) then
 (some (.tup [.agg [.str [], .int .i64 0, .int .i64 0, .int .i64 0, .int .i64 0, .list true []], kd]))
 else
 (optO (CV.asL x4) fun mz =>
 optO (atL mz.2 wK) fun c119 =>
 chkO (c119.length == 1) (
 optO (c119[0]?) fun vl =>
 optO (CV.asL x4) fun mr =>
 optO (atL mr.2 (IntKind.wrap .i64 (wK + 1))) fun c122 =>
 chkO (c122.length == 1) (
 optO (c122[0]?) fun o9 =>
 optO (CV.asL x4) fun og =>
 optO (atL og.2 (IntKind.wrap .i64 (wK + 4))) fun c125 =>
 chkO (c125.length == 1) (
 optO (c125[0]?) fun kb =>
 chkO (CV.isCell vl) (
 chkO (CV.isCell o9) (
 chkO (CV.isCell v8) (
 chkO (CV.isCell yL) (
 chkO (CV.isCell kb) (
 chkO (room (l69.length + 1) 64) (
 r07_Parse_L1 lb n oG a1 x4 jX jx r2 x6 jG c12 jB j0 j8 c22 j5 jQ c36 jM jI jH jN (IntKind.wrap .i64 (wK + 5)) (yZ && false) (l69 ++ [[vl, o9, v8, yL, kb]])))))))))))))))
 else
 (QmT lb n a1 x4 jX jx r2 x6 jG c12 jB j0 j8 c22 j5 jQ c36 jM jI jH jN wK yZ l69) := (Qab _).trans (by kernel_rfl)
theorem Qso (lb n : Nat) (a1 : LB) :
 top lb n Qb3 [.str a1] =
 optO (C lb n QbE [.str a1]) fun r2 =>
 optO (CV.asT r2) fun t3 =>
 optO (t3[0]?) fun x4 =>
 optO (CV.asT r2) fun t5 =>
 optO (t5[1]?) fun x6 =>
 optO (CV.asI .i64 x6) fun i7 =>
 bif (i7 != 0) then
 (some (.tup [.agg [.str [], .int .i64 0, .int .i64 0, .int .i64 0, .int .i64 0, .list true []], x6]))
 else
 (optO (CV.asL x4) fun p9 =>
 bif (decide ((p9.2.length : Int) < 8)) then
 (some (.tup [.agg [.str [], .int .i64 0, .int .i64 0, .int .i64 0, .int .i64 0, .list true []], .int .i64 3]))
 else
 (optO (CV.asL x4) fun jW =>
 bif ((Int.tmod (IntKind.wrap .i64 ((jW.2.length : Int) - 3)) 5) != 0) then
 (some (.tup [.agg [.str [], .int .i64 0, .int .i64 0, .int .i64 0, .int .i64 0, .list true []], .int .i64 3]))
 else
 (optO (CV.asL x4) fun gD =>
 optO (atL gD.2 1) fun c12 =>
 chkO (c12.length == 1) (
 optO (c12[0]?) fun jB =>
 optO (C lb n Qan [jB]) fun jG =>
 optO (CV.asT jG) fun mU =>
 optO (mU[0]?) fun jx =>
 optO (CV.asT jG) fun pZ =>
 optO (pZ[1]?) fun j0 =>
 optO (CV.asI .i64 j0) fun i20 =>
 bif (i20 != 0) then
 (some (.tup [.agg [.str [], .int .i64 0, .int .i64 0, .int .i64 0, .int .i64 0, .list true []], j0]))
 else
 (optO (CV.asL x4) fun nR =>
 optO (atL nR.2 2) fun c22 =>
 chkO (c22.length == 1) (
 optO (c22[0]?) fun j5 =>
 optO (C lb n Qah [j5]) fun j8 =>
 optO (CV.asT j8) fun kh =>
 optO (kh[0]?) fun jQ =>
 optO (CV.asT j8) fun vf =>
 optO (vf[1]?) fun jX =>
 optO (CV.asA jQ) fun c29 =>
 chkO (c29.length == 3) (
 optO (c29[0]?) fun jI =>
 optO (c29[1]?) fun jH =>
 optO (c29[2]?) fun jN =>
 optO (CV.asI .i64 jX) fun o8 =>
 bif (o8 != 0) then
 (some (.tup [.agg [.str [], .int .i64 0, .int .i64 0, .int .i64 0, .int .i64 0, .list true []], jX]))
 else
 (optO (CV.asL x4) fun ny =>
 optO (atL ny.2 0) fun c36 =>
 chkO (c36.length == 1) (
 optO (c36[0]?) fun jM =>
 chkO (CV.isCell jM) (
 chkO (CV.isCell jx) (
 r07_Parse_L1 lb n n a1 x4 jX jx r2 x6 jG c12 jB j0 j8 c22 j5 jQ c36 jM jI jH jN 3 true []))))))))))) := by kernel_rfl
end Go.Proofs
