/- Equations of functions, printed by program. Conditions: none. -/
import Derived.Test.YtdcpdknginpohaaGreatDoorEv
namespace Go.Proofs
open Go.Am
set_option maxRecDepth 100000
set_option linter.unusedVariables false
theorem Qui (lb n jO) (a2 : LL) (ko) (b4 : LL) (c5 : LB) (d6 e7 : Int) :
 top lb n Qe3 [.list jO a2, .list ko b4, .str c5, .int .i64 d6, .int .i64 e7] =
 optO (C lb n Qcy [.list jO a2, .str c5, .int .i64 d6, .int .i64 e7]) fun r9 =>
 optO (CV.asT r9) fun pE =>
 optO (pE[0]?) fun wd =>
 optO (CV.asT r9) fun mL =>
 optO (mL[1]?) fun wA =>
 optO (CV.asA wd) fun c14 =>
 chkO (c14.length == 6) (
 optO (c14[0]?) fun yb =>
 optO (c14[1]?) fun oT =>
 optO (c14[2]?) fun wJ =>
 optO (c14[3]?) fun w7 =>
 optO (c14[4]?) fun wz =>
 optO (c14[5]?) fun ya =>
 optO (C lb n Qcy [.list ko b4, .str c5, .int .i64 d6, .int .i64 e7]) fun gx =>
 optO (CV.asT gx) fun mQ =>
 optO (mQ[0]?) fun w4 =>
 optO (CV.asT gx) fun pL =>
 optO (pL[1]?) fun wQ =>
 optO (CV.asA w4) fun c27 =>
 chkO (c27.length == 6) (
 optO (c27[0]?) fun wW =>
 optO (c27[1]?) fun wx =>
 optO (c27[2]?) fun wH =>
 optO (c27[3]?) fun wj =>
 optO (c27[4]?) fun wS =>
 optO (c27[5]?) fun wC =>
 optO (CV.asB wA) fun kY =>
 optO (CV.asB wQ) fun yX =>
 bif (kY == yX) then
 (optO (C lb n Qbu [ya, wC]) fun o5 =>
 some (o5))
 else
 (some (.bool false)))) := by kernel_rfl
noncomputable def l10_RevisionOthers_L1 :=
 fun lb n (oW : Nat) (ja : Bool) (aair2 : LL) (jb : Bool) (adis4 : LL) (jI : Bool) (b6 : LL) wn wG wc jG jN jH wm wl (j5 : Bool) (wh : LL) vd wW wH vc kt =>
 hold (Qau (E0 lb n 0 991) 0 (Qae (sub (B Qa6) [1, 1, 1, 1, 1, 0, 1, 0, 0]) ++ [13]) [12] (sub (B Qa6) [1, 1, 1, 1, 1, 0, 1, 0, 0]) (Qal 0 (seqK (E0 lb n 0 994) (sub (B Qa6) [1, 1, 1, 1, 1, 0]) (sub (B Qa6) [1, 1, 1, 1, 1, 1]) (retK Tryz.prog (R Qa6) 0 (outK (Qaj Tryz.prog Qa6))))) oW ⟨fr 139 [(0, .val (.agg [.list ja aair2, .list jb adis4])), (1, .val (.list jI b6)), (2, .val (.agg [.int .i64 wn, .str wG, .int .i64 wc, .int .i64 jG, .int .i64 jN, .int .i64 jH, .int .i64 wm, .str wl, .list j5 wh])), (3, vI vd), (4, .ptr 0 4 0), (6, .ptr 0 6 0), (8, vB false), (9, vV wW), (10, vV wH), (11, vI kt), (26, vV vc), (27, .val (.agg [.list ja aair2, .list jb adis4])), (28, .val (.list jI b6)), (29, .val (.agg [.int .i64 wn, .str wG, .int .i64 wc, .int .i64 jG, .int .i64 jN, .int .i64 jH, .int .i64 wm, .str wl, .list j5 wh])), (30, vV vc), (31, vV wW), (32, vV wH)], [bx 139 [(4, some [.val (.list ja aair2), .val (.list jb adis4)]), (6, some [vI wn, vS wG, vI wc, vI jG, vI jN, vI jH, vI wm, vS wl, .val (.list j5 wh)])]], KK⟩)
noncomputable def QcB (lb n : Nat) (ja : Bool) (aair2 : LL) (jb : Bool) (adis4 : LL) (jI : Bool) (b6 : LL) (wn : Int) (wG : LB) (wc jG jN jH wm : Int) (wl : LB) (j5 : Bool) (wh : LL) (vd : Int) (wW wH vc : CV) (n9 : Int) : Option CV :=
 hold (E0 lb n 0 994 (sub (B Qa6) [1, 1, 1, 1, 1, 1]) (retK Tryz.prog (R Qa6) 0 (outK (Qaj Tryz.prog Qa6))) ⟨fr 139 [(0, .val (.agg [.list ja aair2, .list jb adis4])), (1, .val (.list jI b6)), (2, .val (.agg [.int .i64 wn, .str wG, .int .i64 wc, .int .i64 jG, .int .i64 jN, .int .i64 jH, .int .i64 wm, .str wl, .list j5 wh])), (3, vI vd), (4, .ptr 0 4 0), (6, .ptr 0 6 0), (8, vB false), (9, vV wW), (10, vV wH), (11, vI n9), (26, vV vc), (27, .val (.agg [.list ja aair2, .list jb adis4])), (28, .val (.list jI b6)), (29, .val (.agg [.int .i64 wn, .str wG, .int .i64 wc, .int .i64 jG, .int .i64 jN, .int .i64 jH, .int .i64 wm, .str wl, .list j5 wh])), (30, vV vc), (31, vV wW), (32, vV wH)], [bx 139 [(4, some [.val (.list ja aair2), .val (.list jb adis4)]), (6, some [vI wn, vS wG, vI wc, vI jG, vI jN, vI jH, vI wm, vS wl, .val (.list j5 wh)])]], KK⟩)
theorem Qjg (lb n : Nat) (ja : Bool) (aair2 : LL) (jb : Bool) (adis4 : LL) (jI : Bool) (b6 : LL) (wn : Int) (wG : LB) (wc jG jN jH wm : Int) (wl : LB) (j5 : Bool) (wh : LL) (vd : Int) (wW wH vc : CV) (n9 : Int) :
 QcB lb n ja aair2 jb adis4 jI b6 wn wG wc jG jN jH wm wl j5 wh vd wW wH vc n9 =
 optO (C lb n Qcy [wW, .str wG, .int .i64 wc, .int .i64 vd]) fun pW =>
 optO (CV.asT pW) fun sK =>
 optO (sK[0]?) fun li =>
 optO (CV.asT pW) fun zC =>
 optO (zC[1]?) fun mF =>
 optO (CV.asA li) fun c100 =>
 chkO (c100.length == 6) (
 optO (c100[0]?) fun lu =>
 optO (c100[1]?) fun lA =>
 optO (c100[2]?) fun lz =>
 optO (c100[3]?) fun lB =>
 optO (c100[4]?) fun ly =>
 optO (c100[5]?) fun lw =>
 bif (wn == 2) then
 (bif (wn != 2) then
 (optO (C lb n Qbd []) fun qU =>
 some (qU))
 else
 (optO (CV.asB mF) fun q9 =>
 bif (!q9) then
 (optO (C lb n Qbd []) fun qD =>
 some (qD))
 else
 (optO (C lb n Qcz [.agg [.int .i64 jG, .int .i64 jN, .int .i64 jH], .int .i64 vd]) fun qp =>
 optO (CV.asB qp) fun qO =>
 bif (!qO) then
 (optO (C lb n Qbd []) fun si =>
 some (si))
 else
 (some (.bool false)))))
 else
 (bif (wn != 1) then
 (bif (wn != 2) then
 (optO (C lb n Qbd []) fun qb =>
 some (qb))
 else
 (optO (CV.asB mF) fun qN =>
 bif (!qN) then
 (optO (C lb n Qbd []) fun pZ =>
 some (pZ))
 else
 (optO (C lb n Qcz [.agg [.int .i64 jG, .int .i64 jN, .int .i64 jH], .int .i64 vd]) fun qv =>
 optO (CV.asB qv) fun sA =>
 bif (!sA) then
 (optO (C lb n Qbd []) fun nm =>
 some (nm))
 else
 (some (.bool false)))))
 else
 (optO (C lb n Qcz [.agg [.int .i64 jG, .int .i64 jN, .int .i64 jH], .int .i64 vd]) fun qm =>
 optO (CV.asB mF) fun q8 =>
 optO (CV.asB qm) fun sj =>
 bif (q8 == sj) then
 (bif (wn != 2) then
 (optO (C lb n Qbd []) fun qh =>
 some (qh))
 else
 (optO (CV.asB mF) fun oJ =>
 bif (!oJ) then
 (optO (C lb n Qbd []) fun sq =>
 some (sq))
 else
 (optO (C lb n Qcz [.agg [.int .i64 jG, .int .i64 jN, .int .i64 jH], .int .i64 vd]) fun qW =>
 optO (CV.asB qW) fun sx =>
 bif (!sx) then
 (optO (C lb n Qbd []) fun qc =>
 some (qc))
 else
 (some (.bool false)))))
 else
 (optO (C lb n Qcz [.agg [.int .i64 jG, .int .i64 jN, .int .i64 jH], .int .i64 vd]) fun sc =>
 optO (CV.asB sc) fun qz =>
 bif (!qz) then
 (bif (wn != 2) then
 (optO (C lb n Qbd []) fun qk =>
 some (qk))
 else
 (optO (CV.asB mF) fun sr =>
 bif (!sr) then
 (optO (C lb n Qbd []) fun qH =>
 some (qH))
 else
 (optO (C lb n Qcz [.agg [.int .i64 jG, .int .i64 jN, .int .i64 jH], .int .i64 vd]) fun qn =>
 optO (CV.asB qn) fun qY =>
 bif (!qY) then
 (optO (C lb n Qbd []) fun kd =>
 some (kd))
 else
 (some (.bool false)))))
 else
 (some (.bool false)))))) := (Qad _).trans (by kernel_rfl)
theorem QeU (lb n oW : Nat) (ja : Bool) (aair2 : LL) (jb : Bool) (adis4 : LL) (jI : Bool) (b6 : LL) (wn : Int) (wG : LB) (wc jG jN jH wm : Int) (wl : LB) (j5 : Bool) (wh : LL) (vd : Int) (wW wH vc : CV) (kt : Int) :
 l10_RevisionOthers_L1 lb n (oW + 1) ja aair2 jb adis4 jI b6 wn wG wc jG jN jH wm wl j5 wh vd wW wH vc kt =
 bif (decide (kt < (b6.length : Int))) then
 (optO (atL b6 kt) fun c77 =>
 chkO (c77.length == 6) (
 optO (c77[0]?) fun gc =>
 optO (c77[1]?) fun nE =>
 optO (c77[2]?) fun lF =>
 optO (c77[3]?) fun kx =>
 optO (c77[4]?) fun kC =>
 optO (c77[5]?) fun v8 =>
 optO (CV.asS gc) fun sW =>
 bif (sW == wG) then
 (optO (CV.asI .i64 nE) fun i85 =>
 bif (i85 == wc) then
 (optO (C lb n Qcz [.agg [.int .i64 jG, .int .i64 jN, .int .i64 jH], .int .i64 vd]) fun mS =>
 optO (CV.asB mS) fun zS =>
 bif (!zS) then
 (optO (C lb n Qe3 [.list jI b6, wW, gc, nE, .int .i64 vd]) fun pf =>
 optO (CV.asB pf) fun n7 =>
 bif (!n7) then
 (some (.bool false))
 else
 (l10_RevisionOthers_L1 lb n oW ja aair2 jb adis4 jI b6 wn wG wc jG jN jH wm wl j5 wh vd wW wH vc (IntKind.wrap .i64 (kt + 1))))
 else
 (l10_RevisionOthers_L1 lb n oW ja aair2 jb adis4 jI b6 wn wG wc jG jN jH wm wl j5 wh vd wW wH vc (IntKind.wrap .i64 (kt + 1))))
 else
 (optO (C lb n Qe3 [.list jI b6, wW, gc, nE, .int .i64 vd]) fun o4 =>
 optO (CV.asB o4) fun mN =>
 bif (!mN) then
 (some (.bool false))
 else
 (l10_RevisionOthers_L1 lb n oW ja aair2 jb adis4 jI b6 wn wG wc jG jN jH wm wl j5 wh vd wW wH vc (IntKind.wrap .i64 (kt + 1)))))
 else
 (optO (C lb n Qe3 [.list jI b6, wW, gc, nE, .int .i64 vd]) fun ze =>
 optO (CV.asB ze) fun go =>
 bif (!go) then
 (some (.bool false))
 else
 (l10_RevisionOthers_L1 lb n oW ja aair2 jb adis4 jI b6 wn wG wc jG jN jH wm wl j5 wh vd wW wH vc (IntKind.wrap .i64 (kt + 1))))))
 else
 (QcB lb n ja aair2 jb adis4 jI b6 wn wG wc jG jN jH wm wl j5 wh vd wW wH vc kt) := (Qad _).trans (by kernel_rfl)
theorem Qdp (lb n : Nat) (ja : Bool) (aair2 : LL) (jb : Bool) (adis4 : LL) (jI : Bool) (b6 : LL) (wn : Int) (wG : LB) (wc jG jN jH wm : Int) (wl : LB) (j5 : Bool) (wh : LL) (vd : Int) :
 top lb n Qa6 [.agg [.list ja aair2, .list jb adis4], .list jI b6, .agg [.int .i64 wn, .str wG, .int .i64 wc, .int .i64 jG, .int .i64 jN, .int .i64 jH, .int .i64 wm, .str wl, .list j5 wh], .int .i64 vd] =
 optO (C lb n Qkg [.agg [.list ja aair2, .list jb adis4], .list jI b6]) fun yq =>
 optO (CV.asB yq) fun zQ =>
 bif (!zQ) then
 (optO (C lb n Qbd []) fun gx =>
 some (gx))
 else
 (optO (C lb n Qj2 [.agg [.int .i64 wn, .str wG, .int .i64 wc, .int .i64 jG, .int .i64 jN, .int .i64 jH, .int .i64 wm, .str wl, .list j5 wh]]) fun w6 =>
 optO (CV.asB w6) fun n6 =>
 bif (!n6) then
 (optO (C lb n Qbd []) fun oY =>
 some (oY))
 else
 (optO (C lb n Qbi [.agg [.list ja aair2, .list jb adis4], .list jI b6, .agg [.int .i64 wn, .str wG, .int .i64 wc, .int .i64 jG, .int .i64 jN, .int .i64 jH, .int .i64 wm, .str wl, .list j5 wh]]) fun vc =>
 optO (CV.asT vc) fun pC =>
 optO (pC[0]?) fun wW =>
 optO (CV.asT vc) fun zn =>
 optO (zn[1]?) fun wH =>
 optO (CV.asI .i64 wH) fun yT =>
 bif (yT != 0) then
 (optO (CV.asL wW) fun pi =>
 bif ((pi.2.length : Int) == 0) then
 (optO (C lb n Qbd []) fun sY =>
 some (sY))
 else
 (some (.bool false)))
 else
 (optO (C lb n Qaf [.agg [.list ja aair2, .list jb adis4], wW]) fun zw =>
 optO (CV.asL zw) fun pF =>
 bif (decide ((pF.2.length : Int) > 0)) then
 (some (.bool false))
 else
 (l10_RevisionOthers_L1 lb n n ja aair2 jb adis4 jI b6 wn wG wc jG jN jH wm wl j5 wh vd wW wH vc 0)))) := by kernel_rfl
end Go.Proofs
