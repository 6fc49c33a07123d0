/- Equations of functions, printed by program. Conditions: none. -/
import Derived.Test.YtdcpdknginpohaaGreatDoorEv
namespace Go.Proofs
open Go.Am
set_option maxRecDepth 100000
set_option linter.unusedVariables false
noncomputable def revision_split_L1 :=
 fun lb n (pJ : Nat) (ja : Bool) (aair2 : LL) (jb : Bool) (adis4 : LL) bcar5 jg jd jf jc (je : Bool) (bleg12 : LL) wm wp wq jE j7 jF wv wu (wd : Bool) (ww : LL) kt (oB : Bool × LL) =>
 hold (Qar (E0 lb n 0 994) 0 (Qad (sub (B Qan) [1, 1, 0, 1, 0, 0]) ++ []) [10, 11] (sub (B Qan) [1, 1, 0, 1, 0, 0]) (Qaj 0 (seqK (E0 lb n 0 997) (sub (B Qan) [1, 1, 0]) (sub (B Qan) [1, 1, 1]) (retK Tryz.prog (R Qan) 0 (outK (Qaf Tryz.prog Qan))))) pJ ⟨fr 55 [(0, .val (.agg [.list ja aair2, .list jb adis4])), (1, .val (.agg [.str bcar5, .int .i64 jg, .int .i64 jd, .int .i64 jf, .int .i64 jc, .list je bleg12])), (2, .val (.agg [.int .i64 wm, .str wp, .int .i64 wq, .int .i64 jE, .int .i64 j7, .int .i64 jF, .int .i64 wv, .str wu, .list wd ww])), (3, .ptr 0 3 0), (4, .ptr 0 4 0), (5, .ptr 0 5 0), (6, .lst true true 42 []), (7, vI 0), (8, .lst true true 42 []), (14, .ptr 0 4 2), (15, .val (.agg [.int .i64 jd, .int .i64 jf, .int .i64 jc])), (16, .ptr 0 5 3), (17, .val (.agg [.int .i64 jE, .int .i64 j7, .int .i64 jF])), (18, vV kt), (19, .val (.int .i64 (oB.2.length : Int))), (20, vI 0)], [bx 55 [(3, some [.val (.list ja aair2), .val (.list jb adis4)]), (4, some [vS bcar5, vI jg, vI jd, vI jf, vI jc, .val (.list je bleg12)]), (5, some [vI wm, vS wp, vI wq, vI jE, vI j7, vI jF, vI wv, vS wu, .val (.list wd ww)])]], KK⟩)
noncomputable def Qet (lb n kd : Nat) (ja : Bool) (aair2 : LL) (jb : Bool) (adis4 : LL) (bcar5 : LB) (jg jd jf jc : Int) (je : Bool) (bleg12 : LL) (wm : Int) (wp : LB) (wq jE j7 jF wv : Int) (wu : LB) (wd : Bool) (ww : LL) (kt : CV) (oB : Bool × LL) (gT pI : Nat) (oR : Int) (l46 : LL) : Option CV :=
 hold (Qar (E0 lb n 0 994) 0 (Qad (sub (B Qan) [1, 1, 0, 1, 0, 0]) ++ []) [10, 11] (sub (B Qan) [1, 1, 0, 1, 0, 0]) (Qaj 0 (seqK (E0 lb n 0 997) (sub (B Qan) [1, 1, 0]) (sub (B Qan) [1, 1, 1]) (retK Tryz.prog (R Qan) 0 (outK (Qaf Tryz.prog Qan))))) kd ⟨fr 55 [(0, .val (.agg [.list ja aair2, .list jb adis4])), (1, .val (.agg [.str bcar5, .int .i64 jg, .int .i64 jd, .int .i64 jf, .int .i64 jc, .list je bleg12])), (2, .val (.agg [.int .i64 wm, .str wp, .int .i64 wq, .int .i64 jE, .int .i64 j7, .int .i64 jF, .int .i64 wv, .str wu, .list wd ww])), (3, .ptr 0 3 0), (4, .ptr 0 4 0), (5, .ptr 0 5 0), (6, .lst true true 42 []), (7, vI 0), (8, .rsl 42 0 8 0 gT pI), (14, .ptr 0 4 2), (15, .val (.agg [.int .i64 jd, .int .i64 jf, .int .i64 jc])), (16, .ptr 0 5 3), (17, .val (.agg [.int .i64 jE, .int .i64 j7, .int .i64 jF])), (18, vV kt), (19, .val (.int .i64 (oB.2.length : Int))), (20, vI oR)], [bx 55 [(3, some [.val (.list ja aair2), .val (.list jb adis4)]), (4, some [vS bcar5, vI jg, vI jd, vI jf, vI jc, .val (.list je bleg12)]), (5, some [vI wm, vS wp, vI wq, vI jE, vI j7, vI jF, vI wv, vS wu, .val (.list wd ww)]), (8, some [.row 42 l46])]], KK⟩)
noncomputable def Qev (lb n : Nat) (ja : Bool) (aair2 : LL) (jb : Bool) (adis4 : LL) (bcar5 : LB) (jg jd jf jc : Int) (je : Bool) (bleg12 : LL) (wm : Int) (wp : LB) (wq jE j7 jF wv : Int) (wu : LB) (wd : Bool) (ww : LL) (yI ov : Nat) (l60 : LL) : Option CV :=
 hold (E0 lb n 0 997 (sub (B Qan) [1, 1, 1]) (retK Tryz.prog (R Qan) 0 (outK (Qaf Tryz.prog Qan))) ⟨fr 55 [(0, .val (.agg [.list ja aair2, .list jb adis4])), (1, .val (.agg [.str bcar5, .int .i64 jg, .int .i64 jd, .int .i64 jf, .int .i64 jc, .list je bleg12])), (2, .val (.agg [.int .i64 wm, .str wp, .int .i64 wq, .int .i64 jE, .int .i64 j7, .int .i64 jF, .int .i64 wv, .str wu, .list wd ww])), (3, .ptr 0 3 0), (4, .ptr 0 4 0), (5, .ptr 0 5 0), (6, .lst true true 42 []), (7, vI 0), (8, .rsl 42 0 8 0 yI ov)], [bx 55 [(3, some [.val (.list ja aair2), .val (.list jb adis4)]), (4, some [vS bcar5, vI jg, vI jd, vI jf, vI jc, .val (.list je bleg12)]), (5, some [vI wm, vS wp, vI wq, vI jE, vI j7, vI jF, vI wv, vS wu, .val (.list wd ww)]), (8, some [.row 42 l60])]], KK⟩)
noncomputable def Qbp (lb n : Nat) (K : AV → List (List (Option (List AV))) → Option CV) (jK wc : Nat) (wa : Int) (wk : Bool) (wi : LL) (wh : Bool) (wg : LL) (wj : LB) (wl jT jQ jP : Int) (jR : Bool) (jO : LL) (jS : Int) (jU : LB) (jW jZ jN jY jV : Int) (jX : LB) (j0 : Bool) (j5 oG : LL) (wR wQ wP wS wT wO : CV) : Option CV :=
 I8 lb n Qaa [.rsl 42 0 8 0 jK wc, vI wa, .val (.fn Qae)] [bx 55 [(3, some [.val (.list wk wi), .val (.list wh wg)]), (4, some [vS wj, vI wl, vI jT, vI jQ, vI jP, .val (.list jR jO)]), (5, some [vI jS, vS jU, vI jW, vI jZ, vI jN, vI jY, vI jV, vS jX, .val (.list j0 j5)]), (8, some [.row 42 oG]), (12, some [.val wR, .val wQ, .val wP, .val wS, .val wT, .val wO])], bx 9 []] K
noncomputable def Qex (lb n yI : Nat) (ja : Bool) (aair2 : LL) (jb : Bool) (adis4 : LL) (bcar5 : LB) (jg jd jf jc : Int) (je : Bool) (bleg12 : LL) (wm : Int) (wp : LB) (wq jE j7 jF wv : Int) (wu : LB) (wd : Bool) (ww l60 : LL) (k4 kZ kw kP kf kT ga : CV) : AV → List (List (Option (List AV))) → Option CV :=
 (inlK (opAt (QaE (sub (B Qao) [])) 4) ⟨fr 9 [(0, .rsl 42 0 8 0 (yI + 1) (yI + 1)), (1, .val (.fn Qae)), (4, .rsl 42 0 8 0 (yI + 1) (yI + 1)), (5, .rsl 42 0 8 0 (yI + 1) (yI + 1)), (6, .val (.int .i64 ((yI + 1 : Nat) : Int))), (7, .val (.fn Qae))], [bx 55 [(3, some [.val (.list ja aair2), .val (.list jb adis4)]), (4, some [vS bcar5, vI jg, vI jd, vI jf, vI jc, .val (.list je bleg12)]), (5, some [vI wm, vS wp, vI wq, vI jE, vI j7, vI jF, vI wv, vS wu, .val (.list wd ww)]), (8, some [.row 42 (l60 ++ [[k4, kZ, kw, kP, kf, kT]])]), (12, some [.val k4, .val kZ, .val kw, .val kP, .val kf, .val kT])], bx 9 []], KK⟩ (opsK Tryz.prog (C lb n) (I8 lb n) 1 (QaE (sub (B Qao) [])) ((QaE (sub (B Qao) [])).drop 5) ((retK Tryz.prog (R Qao) 1 (inlK (opAt (QaE (sub (B Qan) [1, 1, 1, 1, 0])) 1) ⟨fr 55 [(0, .val (.agg [.list ja aair2, .list jb adis4])), (1, .val (.agg [.str bcar5, .int .i64 jg, .int .i64 jd, .int .i64 jf, .int .i64 jc, .list je bleg12])), (2, .val (.agg [.int .i64 wm, .str wp, .int .i64 wq, .int .i64 jE, .int .i64 j7, .int .i64 jF, .int .i64 wv, .str wu, .list wd ww])), (3, .ptr 0 3 0), (4, .ptr 0 4 0), (5, .ptr 0 5 0), (6, .lst true true 42 []), (7, vI 0), (8, .rsl 42 0 8 0 (yI + 1) (yI + 1)), (13, vV ga), (52, .rsl 42 0 8 0 (yI + 1) (yI + 1))], [bx 55 [(3, some [.val (.list ja aair2), .val (.list jb adis4)]), (4, some [vS bcar5, vI jg, vI jd, vI jf, vI jc, .val (.list je bleg12)]), (5, some [vI wm, vS wp, vI wq, vI jE, vI j7, vI jF, vI wv, vS wu, .val (.list wd ww)]), (8, some [.row 42 (l60 ++ [[k4, kZ, kw, kP, kf, kT]])]), (12, some [.val k4, .val kZ, .val kw, .val kP, .val kf, .val kT])]], KK⟩ (opsK Tryz.prog (C lb n) (I9 lb n) 0 (QaE (sub (B Qan) [1, 1, 1, 1, 0])) ((QaE (sub (B Qan) [1, 1, 1, 1, 0])).drop 2) ((seqK (E0 lb n 0 995) (sub (B Qan) [1, 1, 1, 1, 0]) (sub (B Qan) [1, 1, 1, 1, 1]) (retK Tryz.prog (R Qan) 0 (outK (Qaf Tryz.prog Qan)))) .normal)))) .normal)))
theorem QlY (lb n yI : Nat) (ja : Bool) (aair2 : LL) (jb : Bool) (adis4 : LL) (bcar5 : LB) (jg jd jf jc : Int) (je : Bool) (bleg12 : LL) (wm : Int) (wp : LB) (wq jE j7 jF wv : Int) (wu : LB) (wd : Bool) (ww l60 : LL) (k4 kZ kw kP kf kT ga : CV) (l75 : LL) (tO : Bool) :
 Qex lb n yI ja aair2 jb adis4 bcar5 jg jd jf jc je bleg12 wm wp wq jE j7 jF wv wu wd ww l60 k4 kZ kw kP kf kT ga (.val (.tup [])) [bx 55 [(3, some [.val (.list ja aair2), .val (.list jb adis4)]), (4, some [vS bcar5, vI jg, vI jd, vI jf, vI jc, .val (.list je bleg12)]), (5, some [vI wm, vS wp, vI wq, vI jE, vI j7, vI jF, vI wv, vS wu, .val (.list wd ww)]), (8, some [.row 42 l75]), (12, some [.val k4, .val kZ, .val kw, .val kP, .val kf, .val kT])], bx 9 []] =
 chkO (decide ((0 + (yI + 1)) ≤ l75.length)) (
 some (.tup [.list false ((l75.drop 0).take (yI + 1)), .int .i64 0])) := by kernel_rfl
noncomputable def Qcf (lb n : Nat) (K : AV → List (List (Option (List AV))) → Option CV) (jK wc : Nat) (wa : Int) (wk : Bool) (wi : LL) (wh : Bool) (wg : LL) (wj : LB) (wl jT jQ jP : Int) (jR : Bool) (jO : LL) (jS : Int) (jU : LB) (jW jZ jN jY jV : Int) (jX : LB) (j0 : Bool) (j5 oG : LL) : Option CV :=
 I8 lb n Qaa [.rsl 42 0 8 0 jK wc, vI wa, .val (.fn Qae)] [bx 55 [(3, some [.val (.list wk wi), .val (.list wh wg)]), (4, some [vS wj, vI wl, vI jT, vI jQ, vI jP, .val (.list jR jO)]), (5, some [vI jS, vS jU, vI jW, vI jZ, vI jN, vI jY, vI jV, vS jX, .val (.list j0 j5)]), (8, some [.row 42 oG])], bx 9 []] K
noncomputable def Qer (lb n yI ov : Nat) (ja : Bool) (aair2 : LL) (jb : Bool) (adis4 : LL) (bcar5 : LB) (jg jd jf jc : Int) (je : Bool) (bleg12 : LL) (wm : Int) (wp : LB) (wq jE j7 jF wv : Int) (wu : LB) (wd : Bool) (ww l60 : LL) : AV → List (List (Option (List AV))) → Option CV :=
 (inlK (opAt (QaE (sub (B Qao) [])) 4) ⟨fr 9 [(0, .rsl 42 0 8 0 yI ov), (1, .val (.fn Qae)), (4, .rsl 42 0 8 0 yI ov), (5, .rsl 42 0 8 0 yI ov), (6, .val (.int .i64 ((yI : Nat) : Int))), (7, .val (.fn Qae))], [bx 55 [(3, some [.val (.list ja aair2), .val (.list jb adis4)]), (4, some [vS bcar5, vI jg, vI jd, vI jf, vI jc, .val (.list je bleg12)]), (5, some [vI wm, vS wp, vI wq, vI jE, vI j7, vI jF, vI wv, vS wu, .val (.list wd ww)]), (8, some [.row 42 l60])], bx 9 []], KK⟩ (opsK Tryz.prog (C lb n) (I8 lb n) 1 (QaE (sub (B Qao) [])) ((QaE (sub (B Qao) [])).drop 5) ((retK Tryz.prog (R Qao) 1 (inlK (opAt (QaE (sub (B Qan) [1, 1, 1, 1, 0])) 1) ⟨fr 55 [(0, .val (.agg [.list ja aair2, .list jb adis4])), (1, .val (.agg [.str bcar5, .int .i64 jg, .int .i64 jd, .int .i64 jf, .int .i64 jc, .list je bleg12])), (2, .val (.agg [.int .i64 wm, .str wp, .int .i64 wq, .int .i64 jE, .int .i64 j7, .int .i64 jF, .int .i64 wv, .str wu, .list wd ww])), (3, .ptr 0 3 0), (4, .ptr 0 4 0), (5, .ptr 0 5 0), (6, .lst true true 42 []), (7, vI 0), (8, .rsl 42 0 8 0 yI ov), (52, .rsl 42 0 8 0 yI ov)], [bx 55 [(3, some [.val (.list ja aair2), .val (.list jb adis4)]), (4, some [vS bcar5, vI jg, vI jd, vI jf, vI jc, .val (.list je bleg12)]), (5, some [vI wm, vS wp, vI wq, vI jE, vI j7, vI jF, vI wv, vS wu, .val (.list wd ww)]), (8, some [.row 42 l60])]], KK⟩ (opsK Tryz.prog (C lb n) (I9 lb n) 0 (QaE (sub (B Qan) [1, 1, 1, 1, 0])) ((QaE (sub (B Qan) [1, 1, 1, 1, 0])).drop 2) ((seqK (E0 lb n 0 995) (sub (B Qan) [1, 1, 1, 1, 0]) (sub (B Qan) [1, 1, 1, 1, 1]) (retK Tryz.prog (R Qan) 0 (outK (Qaf Tryz.prog Qan)))) .normal)))) .normal)))
theorem QlX (lb n yI ov : Nat) (ja : Bool) (aair2 : LL) (jb : Bool) (adis4 : LL) (bcar5 : LB) (jg jd jf jc : Int) (je : Bool) (bleg12 : LL) (wm : Int) (wp : LB) (wq jE j7 jF wv : Int) (wu : LB) (wd : Bool) (ww l60 l77 : LL) (tQ : Bool) :
 Qer lb n yI ov ja aair2 jb adis4 bcar5 jg jd jf jc je bleg12 wm wp wq jE j7 jF wv wu wd ww l60 (.val (.tup [])) [bx 55 [(3, some [.val (.list ja aair2), .val (.list jb adis4)]), (4, some [vS bcar5, vI jg, vI jd, vI jf, vI jc, .val (.list je bleg12)]), (5, some [vI wm, vS wp, vI wq, vI jE, vI j7, vI jF, vI wv, vS wu, .val (.list wd ww)]), (8, some [.row 42 l77])], bx 9 []] =
 chkO (decide ((0 + yI) ≤ l77.length)) (
 some (.tup [.list false ((l77.drop 0).take yI), .int .i64 0])) := by kernel_rfl
theorem QlB (lb n : Nat) (ja : Bool) (aair2 : LL) (jb : Bool) (adis4 : LL) (bcar5 : LB) (jg jd jf jc : Int) (je : Bool) (bleg12 : LL) (wm : Int) (wp : LB) (wq jE j7 jF wv : Int) (wu : LB) (wd : Bool) (ww : LL) (yI ov : Nat) (l60 : LL) :
 Qev lb n ja aair2 jb adis4 bcar5 jg jd jf jc je bleg12 wm wp wq jE j7 jF wv wu wd ww yI ov l60 =
 bif (wm != 2) then
 (optO (C lb n Qau [.agg [.str bcar5, .int .i64 jg, .int .i64 jd, .int .i64 jf, .int .i64 jc, .list je bleg12], .agg [.int .i64 wm, .str wp, .int .i64 wq, .int .i64 jE, .int .i64 j7, .int .i64 jF, .int .i64 wv, .str wu, .list wd ww]]) fun rX =>
 optO (CV.asA rX) fun c62 =>
 chkO (c62.length == 6) (
 optO (c62[0]?) fun k4 =>
 optO (c62[1]?) fun kZ =>
 optO (c62[2]?) fun kw =>
 optO (c62[3]?) fun kP =>
 optO (c62[4]?) fun kf =>
 optO (c62[5]?) fun kT =>
 optO (C lb n Qai [.agg [.list ja aair2, .list jb adis4], .agg [k4, kZ, kw, kP, kf, kT]]) fun ga =>
 optO (CV.asL ga) fun rf =>
 bif (decide ((rf.2.length : Int) > 0)) then
 (optO (CV.asL ga) fun go =>
 optO (atL go.2 0) fun c73 =>
 chkO (c73.length == 2) (
 optO (c73[0]?) fun ro =>
 some (.tup [.list true [], ro])))
 else
 (chkO (decide (yI = l60.length)) (
 chkO (room (yI + 1) 72) (
 Qbp lb n (Qex lb n yI ja aair2 jb adis4 bcar5 jg jd jf jc je bleg12 wm wp wq jE j7 jF wv wu wd ww l60 k4 kZ kw kP kf kT ga) (yI + 1) (yI + 1) ((yI + 1 : Nat) : Int) ja aair2 jb adis4 bcar5 jg jd jf jc je bleg12 wm wp wq jE j7 jF wv wu wd ww (l60 ++ [[k4, kZ, kw, kP, kf, kT]]) k4 kZ kw kP kf kT)))))
 else
 (Qcf lb n (Qer lb n yI ov ja aair2 jb adis4 bcar5 jg jd jf jc je bleg12 wm wp wq jE j7 jF wv wu wd ww l60) yI ov ((yI : Nat) : Int) ja aair2 jb adis4 bcar5 jg jd jf jc je bleg12 wm wp wq jE j7 jF wv wu wd ww l60) := (Qac _).trans (by kernel_rfl)
theorem Qga (lb n kd : Nat) (ja : Bool) (aair2 : LL) (jb : Bool) (adis4 : LL) (bcar5 : LB) (jg jd jf jc : Int) (je : Bool) (bleg12 : LL) (wm : Int) (wp : LB) (wq jE j7 jF wv : Int) (wu : LB) (wd : Bool) (ww : LL) (kt : CV) (oB : Bool × LL) (gT pI : Nat) (oR : Int) (l46 : LL) :
 Qet lb n (kd + 1) ja aair2 jb adis4 bcar5 jg jd jf jc je bleg12 wm wp wq jE j7 jF wv wu wd ww kt oB gT pI oR l46 =
 bif (decide (oR < (oB.2.length : Int))) then
 (optO (CV.asL kt) fun tu =>
 optO (atL tu.2 oR) fun c54 =>
 chkO (c54.length == 3) (
 optO (c54[0]?) fun yX =>
 optO (c54[1]?) fun ve =>
 optO (c54[2]?) fun kc =>
 chkO (decide (gT = l46.length)) (
 chkO (room (gT + 1) 72) (
 Qet lb n kd ja aair2 jb adis4 bcar5 jg jd jf jc je bleg12 wm wp wq jE j7 jF wv wu wd ww kt oB (gT + 1) (gT + 1) (IntKind.wrap .i64 (oR + 1)) (l46 ++ [[CV.str bcar5, CV.int .i64 jg, yX, ve, kc, CV.list je bleg12]])))))
 else
 (Qev lb n ja aair2 jb adis4 bcar5 jg jd jf jc je bleg12 wm wp wq jE j7 jF wv wu wd ww gT pI l46) := (Qac _).trans (by kernel_rfl)
noncomputable def Qf4 (lb n : Nat) (ja : Bool) (aair2 : LL) (jb : Bool) (adis4 : LL) (bcar5 : LB) (jg jd jf jc : Int) (je : Bool) (bleg12 : LL) (wm : Int) (wp : LB) (wq jE j7 jF wv : Int) (wu : LB) (wd : Bool) (ww : LL) : Option CV :=
 hold (E0 lb n 0 997 (sub (B Qan) [1, 1, 1]) (retK Tryz.prog (R Qan) 0 (outK (Qaf Tryz.prog Qan))) ⟨fr 55 [(0, .val (.agg [.list ja aair2, .list jb adis4])), (1, .val (.agg [.str bcar5, .int .i64 jg, .int .i64 jd, .int .i64 jf, .int .i64 jc, .list je bleg12])), (2, .val (.agg [.int .i64 wm, .str wp, .int .i64 wq, .int .i64 jE, .int .i64 j7, .int .i64 jF, .int .i64 wv, .str wu, .list wd ww])), (3, .ptr 0 3 0), (4, .ptr 0 4 0), (5, .ptr 0 5 0), (6, .lst true true 42 []), (7, vI 0), (8, .lst true true 42 [])], [bx 55 [(3, some [.val (.list ja aair2), .val (.list jb adis4)]), (4, some [vS bcar5, vI jg, vI jd, vI jf, vI jc, .val (.list je bleg12)]), (5, some [vI wm, vS wp, vI wq, vI jE, vI j7, vI jF, vI wv, vS wu, .val (.list wd ww)])]], KK⟩)
noncomputable def Qen (lb n : Nat) (ja : Bool) (aair2 : LL) (jb : Bool) (adis4 : LL) (bcar5 : LB) (jg jd jf jc : Int) (je : Bool) (bleg12 : LL) (wm : Int) (wp : LB) (wq jE j7 jF wv : Int) (wu : LB) (wd : Bool) (ww : LL) (oL oK kY kW oD oO o9 : CV) : AV → List (List (Option (List AV))) → Option CV :=
 (inlK (opAt (QaE (sub (B Qao) [])) 4) ⟨fr 9 [(0, .rsl 42 0 8 0 1 1), (1, .val (.fn Qae)), (4, .rsl 42 0 8 0 1 1), (5, .rsl 42 0 8 0 1 1), (6, vI 1), (7, .val (.fn Qae))], [bx 55 [(3, some [.val (.list ja aair2), .val (.list jb adis4)]), (4, some [vS bcar5, vI jg, vI jd, vI jf, vI jc, .val (.list je bleg12)]), (5, some [vI wm, vS wp, vI wq, vI jE, vI j7, vI jF, vI wv, vS wu, .val (.list wd ww)]), (8, some [.row 42 [[oL, oK, kY, kW, oD, oO]]]), (12, some [.val oL, .val oK, .val kY, .val kW, .val oD, .val oO])], bx 9 []], KK⟩ (opsK Tryz.prog (C lb n) (I8 lb n) 1 (QaE (sub (B Qao) [])) ((QaE (sub (B Qao) [])).drop 5) ((retK Tryz.prog (R Qao) 1 (inlK (opAt (QaE (sub (B Qan) [1, 1, 1, 1, 0])) 1) ⟨fr 55 [(0, .val (.agg [.list ja aair2, .list jb adis4])), (1, .val (.agg [.str bcar5, .int .i64 jg, .int .i64 jd, .int .i64 jf, .int .i64 jc, .list je bleg12])), (2, .val (.agg [.int .i64 wm, .str wp, .int .i64 wq, .int .i64 jE, .int .i64 j7, .int .i64 jF, .int .i64 wv, .str wu, .list wd ww])), (3, .ptr 0 3 0), (4, .ptr 0 4 0), (5, .ptr 0 5 0), (6, .lst true true 42 []), (7, vI 0), (8, .rsl 42 0 8 0 1 1), (13, vV o9), (52, .rsl 42 0 8 0 1 1)], [bx 55 [(3, some [.val (.list ja aair2), .val (.list jb adis4)]), (4, some [vS bcar5, vI jg, vI jd, vI jf, vI jc, .val (.list je bleg12)]), (5, some [vI wm, vS wp, vI wq, vI jE, vI j7, vI jF, vI wv, vS wu, .val (.list wd ww)]), (8, some [.row 42 [[oL, oK, kY, kW, oD, oO]]]), (12, some [.val oL, .val oK, .val kY, .val kW, .val oD, .val oO])]], KK⟩ (opsK Tryz.prog (C lb n) (I9 lb n) 0 (QaE (sub (B Qan) [1, 1, 1, 1, 0])) ((QaE (sub (B Qan) [1, 1, 1, 1, 0])).drop 2) ((seqK (E0 lb n 0 995) (sub (B Qan) [1, 1, 1, 1, 0]) (sub (B Qan) [1, 1, 1, 1, 1]) (retK Tryz.prog (R Qan) 0 (outK (Qaf Tryz.prog Qan)))) .normal)))) .normal)))
theorem QlZ (lb n : Nat) (ja : Bool) (aair2 : LL) (jb : Bool) (adis4 : LL) (bcar5 : LB) (jg jd jf jc : Int) (je : Bool) (bleg12 : LL) (wm : Int) (wp : LB) (wq jE j7 jF wv : Int) (wu : LB) (wd : Bool) (ww : LL) (oL oK kY kW oD oO o9 : CV) (l92 : LL) (nK : Bool) :
 Qen lb n ja aair2 jb adis4 bcar5 jg jd jf jc je bleg12 wm wp wq jE j7 jF wv wu wd ww oL oK kY kW oD oO o9 (.val (.tup [])) [bx 55 [(3, some [.val (.list ja aair2), .val (.list jb adis4)]), (4, some [vS bcar5, vI jg, vI jd, vI jf, vI jc, .val (.list je bleg12)]), (5, some [vI wm, vS wp, vI wq, vI jE, vI j7, vI jF, vI wv, vS wu, .val (.list wd ww)]), (8, some [.row 42 l92]), (12, some [.val oL, .val oK, .val kY, .val kW, .val oD, .val oO])], bx 9 []] =
 chkO (decide ((1 : Nat) ≤ l92.length)) (
 some (.tup [.list false ((l92.drop 0).take 1), .int .i64 0])) := by kernel_rfl
theorem Qls (lb n : Nat) (ja : Bool) (aair2 : LL) (jb : Bool) (adis4 : LL) (bcar5 : LB) (jg jd jf jc : Int) (je : Bool) (bleg12 : LL) (wm : Int) (wp : LB) (wq jE j7 jF wv : Int) (wu : LB) (wd : Bool) (ww : LL) :
 Qf4 lb n ja aair2 jb adis4 bcar5 jg jd jf jc je bleg12 wm wp wq jE j7 jF wv wu wd ww =
 bif (wm != 2) then
 (optO (C lb n Qau [.agg [.str bcar5, .int .i64 jg, .int .i64 jd, .int .i64 jf, .int .i64 jc, .list je bleg12], .agg [.int .i64 wm, .str wp, .int .i64 wq, .int .i64 jE, .int .i64 j7, .int .i64 jF, .int .i64 wv, .str wu, .list wd ww]]) fun qD =>
 optO (CV.asA qD) fun c80 =>
 chkO (c80.length == 6) (
 optO (c80[0]?) fun oL =>
 optO (c80[1]?) fun oK =>
 optO (c80[2]?) fun kY =>
 optO (c80[3]?) fun kW =>
 optO (c80[4]?) fun oD =>
 optO (c80[5]?) fun oO =>
 optO (C lb n Qai [.agg [.list ja aair2, .list jb adis4], .agg [oL, oK, kY, kW, oD, oO]]) fun o9 =>
 optO (CV.asL o9) fun l0 =>
 bif (decide ((l0.2.length : Int) > 0)) then
 (optO (CV.asL o9) fun rq =>
 optO (atL rq.2 0) fun c90 =>
 chkO (c90.length == 2) (
 optO (c90[0]?) fun lM =>
 some (.tup [.list true [], lM])))
 else
 (Qbp lb n (Qen lb n ja aair2 jb adis4 bcar5 jg jd jf jc je bleg12 wm wp wq jE j7 jF wv wu wd ww oL oK kY kW oD oO o9) 1 1 1 ja aair2 jb adis4 bcar5 jg jd jf jc je bleg12 wm wp wq jE j7 jF wv wu wd ww [[oL, oK, kY, kW, oD, oO]] oL oK kY kW oD oO)))
 else
 (optO (C lb n Qao [.list true [], .fn Qae]) fun tP =>
 some (.tup [.list true [], .int .i64 0])) := (Qac _).trans (by kernel_rfl)
theorem Qku (lb n pJ : Nat) (ja : Bool) (aair2 : LL) (jb : Bool) (adis4 : LL) (bcar5 : LB) (jg jd jf jc : Int) (je : Bool) (bleg12 : LL) (wm : Int) (wp : LB) (wq jE j7 jF wv : Int) (wu : LB) (wd : Bool) (ww : LL) (kt : CV) (oB : Bool × LL) :
 revision_split_L1 lb n (pJ + 1) ja aair2 jb adis4 bcar5 jg jd jf jc je bleg12 wm wp wq jE j7 jF wv wu wd ww kt oB =
 bif (decide ((0 : Int) < (oB.2.length : Int))) then
 (optO (CV.asL kt) fun tD =>
 optO (atL tD.2 0) fun c34 =>
 chkO (c34.length == 3) (
 optO (c34[0]?) fun yF =>
 optO (c34[1]?) fun yN =>
 optO (c34[2]?) fun yE =>
 Qet lb n pJ ja aair2 jb adis4 bcar5 jg jd jf jc je bleg12 wm wp wq jE j7 jF wv wu wd ww kt oB 1 1 1 [[CV.str bcar5, CV.int .i64 jg, yF, yN, yE, CV.list je bleg12]]))
 else
 (Qf4 lb n ja aair2 jb adis4 bcar5 jg jd jf jc je bleg12 wm wp wq jE j7 jF wv wu wd ww ) := (Qac _).trans (by kernel_rfl)
theorem Qon (lb n : Nat) (ja : Bool) (aair2 : LL) (jb : Bool) (adis4 : LL) (bcar5 : LB) (jg jd jf jc : Int) (je : Bool) (bleg12 : LL) (wm : Int) (wp : LB) (wq jE j7 jF wv : Int) (wu : LB) (wd : Bool) (ww : LL) :
 top lb n Qan [.agg [.list ja aair2, .list jb adis4], .agg [.str bcar5, .int .i64 jg, .int .i64 jd, .int .i64 jf, .int .i64 jc, .list je bleg12], .agg [.int .i64 wm, .str wp, .int .i64 wq, .int .i64 jE, .int .i64 j7, .int .i64 jF, .int .i64 wv, .str wu, .list wd ww]] =
 optO (C lb n Qbs [.agg [.int .i64 jd, .int .i64 jf, .int .i64 jc], .agg [.int .i64 jE, .int .i64 j7, .int .i64 jF]]) fun kt =>
 optO (CV.asL kt) fun oB =>
 revision_split_L1 lb n n ja aair2 jb adis4 bcar5 jg jd jf jc je bleg12 wm wp wq jE j7 jF wv wu wd ww kt oB  := by kernel_rfl
noncomputable def Qcj (lb n kM : Nat) (K : AV → List (List (Option (List AV))) → Option CV) (jK wc : Nat) (wa : Int) (wk : Bool) (wi : LL) (wh : Bool) (wg : LL) (wj : LB) (wl jT jQ jP : Int) (jR : Bool) (jO : LL) (jS : Int) (jU : LB) (jW jZ jN jY jV : Int) (jX : LB) (j0 : Bool) (j5 : LL) (wR wQ wP wS wT wO : CV) (yY vj : Int) (vL : LL) : Option CV :=
 hold (Qar (E2 lb n 2 995) 2 (Qad (sub (B Qaa) [1, 1, 0, 0, 0]) ++ []) [] (sub (B Qaa) [1, 1, 0, 0, 0]) (Qaj 0 (seqK (E2 lb n 2 997) (sub (B Qaa) [1, 1, 0]) (sub (B Qaa) [1, 1, 1]) (retK Tryz.prog (R Qaa) 2 K))) kM ⟨fr 63 [(0, .rsl 42 0 8 0 jK wc), (1, vI wa), (2, .val (.fn Qae)), (6, vI 20), (7, vI yY), (8, vI vj), (10, vI 20)], [bx 55 [(3, some [.val (.list wk wi), .val (.list wh wg)]), (4, some [vS wj, vI wl, vI jT, vI jQ, vI jP, .val (.list jR jO)]), (5, some [vI jS, vS jU, vI jW, vI jZ, vI jN, vI jY, vI jV, vS jX, .val (.list j0 j5)]), (8, some [.row 42 vL]), (12, some [.val wR, .val wQ, .val wP, .val wS, .val wT, .val wO])], bx 9 [], bx 63 []], KK⟩)
noncomputable def Qfy (lb n pC jK wc : Nat) (wa yY vj : Int) (wk : Bool) (wi : LL) (wh : Bool) (wg : LL) (wj : LB) (wl jT jQ jP : Int) (jR : Bool) (jO : LL) (jS : Int) (jU : LB) (jW jZ jN jY jV : Int) (jX : LB) (j0 : Bool) (j5 vL : LL) (wR wQ wP wS wT wO : CV) (K : AV → List (List (Option (List AV))) → Option CV) (kM : Nat) (pi : Int) (pg : LL) : Option CV :=
 hold (Qar (E3 lb n 3 997) 3 (Qad (sub (B Qab) [1, 0, 0]) ++ [9, 9]) [] (sub (B Qab) [1, 0, 0]) (Qaj 0 (retK Tryz.prog (R Qab) 3 (inlK (opAt (QaE (sub (B Qaa) [1, 1, 0, 0, 0, 1, 0, 0])) 4) ⟨fr 63 [(0, .rsl 42 0 8 0 jK wc), (1, vI wa), (2, .val (.fn Qae)), (6, vI 20), (7, vI yY), (8, vI vj), (10, vI 20), (14, .rsl 42 0 8 0 jK wc), (15, vI yY), (16, vI vj), (17, .val (.fn Qae))], [bx 55 [(3, some [.val (.list wk wi), .val (.list wh wg)]), (4, some [vS wj, vI wl, vI jT, vI jQ, vI jP, .val (.list jR jO)]), (5, some [vI jS, vS jU, vI jW, vI jZ, vI jN, vI jY, vI jV, vS jX, .val (.list j0 j5)]), (8, some [.row 42 vL]), (12, some [.val wR, .val wQ, .val wP, .val wS, .val wT, .val wO])], bx 9 [], bx 63 []], KK⟩ (opsK Tryz.prog (C lb n) (I7 lb n) 2 (QaE (sub (B Qaa) [1, 1, 0, 0, 0, 1, 0, 0])) ((QaE (sub (B Qaa) [1, 1, 0, 0, 0, 1, 0, 0])).drop 5) ((seqK (E2 lb n 2 992) (sub (B Qaa) [1, 1, 0, 0, 0, 1, 0, 0]) (sub (B Qaa) [1, 1, 0, 0, 0, 1, 0, 1]) (Qaj 1 (QbK 2 (Qad (sub (B Qaa) [1, 1, 0, 0, 0]) ++ []) [] (Qar (E2 lb n 2 995) 2 (Qad (sub (B Qaa) [1, 1, 0, 0, 0]) ++ []) [] (sub (B Qaa) [1, 1, 0, 0, 0]) (Qaj 0 (seqK (E2 lb n 2 997) (sub (B Qaa) [1, 1, 0]) (sub (B Qaa) [1, 1, 1]) (retK Tryz.prog (R Qaa) 2 K))) kM) (Qaj 0 (seqK (E2 lb n 2 997) (sub (B Qaa) [1, 1, 0]) (sub (B Qaa) [1, 1, 1]) (retK Tryz.prog (R Qaa) 2 K)))))) .normal))))) pC ⟨fr 53 [(0, .rsl 42 0 8 0 jK wc), (1, vI yY), (2, vI vj), (3, .val (.fn Qae)), (8, vI pi), (10, vI yY), (11, .val (.int .i64 (IntKind.wrap .i64 (yY + 1))))], [bx 55 [(3, some [.val (.list wk wi), .val (.list wh wg)]), (4, some [vS wj, vI wl, vI jT, vI jQ, vI jP, .val (.list jR jO)]), (5, some [vI jS, vS jU, vI jW, vI jZ, vI jN, vI jY, vI jV, vS jX, .val (.list j0 j5)]), (8, some [.row 42 pg]), (12, some [.val wR, .val wQ, .val wP, .val wS, .val wT, .val wO])], bx 9 [], bx 63 [], bx 53 []], KK⟩)
noncomputable def Qdp (lb n : Nat) (K : AV → List (List (Option (List AV))) → Option CV) (jK wc : Nat) (wa : Int) (wk : Bool) (wi : LL) (wh : Bool) (wg : LL) (wj : LB) (wl jT jQ jP : Int) (jR : Bool) (jO : LL) (jS : Int) (jU : LB) (jW jZ jN jY jV : Int) (jX : LB) (j0 : Bool) (j5 : LL) (wR wQ wP wS wT wO : CV) (jC wG : Int) (wK : LL) : Option CV :=
 hold (E2 lb n 2 997 (sub (B Qaa) [1, 1, 1]) (retK Tryz.prog (R Qaa) 2 K) ⟨fr 63 [(0, .rsl 42 0 8 0 jK wc), (1, vI wa), (2, .val (.fn Qae)), (6, vI 20), (7, vI jC), (8, vI wG), (10, vI 20)], [bx 55 [(3, some [.val (.list wk wi), .val (.list wh wg)]), (4, some [vS wj, vI wl, vI jT, vI jQ, vI jP, .val (.list jR jO)]), (5, some [vI jS, vS jU, vI jW, vI jZ, vI jN, vI jY, vI jV, vS jX, .val (.list j0 j5)]), (8, some [.row 42 wK]), (12, some [.val wR, .val wQ, .val wP, .val wS, .val wT, .val wO])], bx 9 [], bx 63 []], KK⟩)
noncomputable def Qbh (lb n w4 jK wc : Nat) (wa jC wG : Int) (wk : Bool) (wi : LL) (wh : Bool) (wg : LL) (wj : LB) (wl jT jQ jP : Int) (jR : Bool) (jO : LL) (jS : Int) (jU : LB) (jW jZ jN jY jV : Int) (jX : LB) (j0 : Bool) (j5 wK : LL) (wR wQ wP wS wT wO : CV) (K : AV → List (List (Option (List AV))) → Option CV) (wU : Int) (kF : LL) : Option CV :=
 hold (Qar (E3 lb n 3 997) 3 (Qad (sub (B Qab) [1, 0, 0]) ++ [9, 9]) [] (sub (B Qab) [1, 0, 0]) (Qaj 0 (retK Tryz.prog (R Qab) 3 (inlK (opAt (QaE (sub (B Qaa) [1, 1, 1, 0])) 4) ⟨fr 63 [(0, .rsl 42 0 8 0 jK wc), (1, vI wa), (2, .val (.fn Qae)), (6, vI 20), (7, vI jC), (8, vI wG), (10, vI 20), (23, .rsl 42 0 8 0 jK wc), (24, vI jC), (25, vI wa), (26, .val (.fn Qae))], [bx 55 [(3, some [.val (.list wk wi), .val (.list wh wg)]), (4, some [vS wj, vI wl, vI jT, vI jQ, vI jP, .val (.list jR jO)]), (5, some [vI jS, vS jU, vI jW, vI jZ, vI jN, vI jY, vI jV, vS jX, .val (.list j0 j5)]), (8, some [.row 42 wK]), (12, some [.val wR, .val wQ, .val wP, .val wS, .val wT, .val wO])], bx 9 [], bx 63 []], KK⟩ (opsK Tryz.prog (C lb n) (I7 lb n) 2 (QaE (sub (B Qaa) [1, 1, 1, 0])) ((QaE (sub (B Qaa) [1, 1, 1, 0])).drop 5) ((seqK (E2 lb n 2 996) (sub (B Qaa) [1, 1, 1, 0]) (sub (B Qaa) [1, 1, 1, 1]) (retK Tryz.prog (R Qaa) 2 K)) .normal))))) w4 ⟨fr 53 [(0, .rsl 42 0 8 0 jK wc), (1, vI jC), (2, vI wa), (3, .val (.fn Qae)), (8, vI wU), (10, vI jC), (11, .val (.int .i64 (IntKind.wrap .i64 (jC + 1))))], [bx 55 [(3, some [.val (.list wk wi), .val (.list wh wg)]), (4, some [vS wj, vI wl, vI jT, vI jQ, vI jP, .val (.list jR jO)]), (5, some [vI jS, vS jU, vI jW, vI jZ, vI jN, vI jY, vI jV, vS jX, .val (.list j0 j5)]), (8, some [.row 42 kF]), (12, some [.val wR, .val wQ, .val wP, .val wS, .val wT, .val wO])], bx 9 [], bx 63 [], bx 53 []], KK⟩)
noncomputable def QbG (lb n k8 jK wc : Nat) (wa jC wG : Int) (wk : Bool) (wi : LL) (wh : Bool) (wg : LL) (wj : LB) (wl jT jQ jP : Int) (jR : Bool) (jO : LL) (jS : Int) (jU : LB) (jW jZ jN jY jV : Int) (jX : LB) (j0 : Bool) (j5 wK : LL) (wR wQ wP wS wT wO : CV) (K : AV → List (List (Option (List AV))) → Option CV) (w4 : Nat) (wU i1143 : Int) (yB : LL) : Option CV :=
 hold (Qar (E3 lb n 3 991) 3 (Qad (sub (B Qab) [1, 0, 0, 1, 0, 0, 1, 0, 0]) ++ []) [] (sub (B Qab) [1, 0, 0, 1, 0, 0, 1, 0, 0]) (Qaj 2 (Qaj 1 (seqK (E3 lb n 3 995) (sub (B Qab) [1, 0, 0, 1, 0]) (sub (B Qab) [1, 0, 0, 1, 1]) (QbK 3 (Qad (sub (B Qab) [1, 0, 0]) ++ [9, 9]) [] (Qar (E3 lb n 3 997) 3 (Qad (sub (B Qab) [1, 0, 0]) ++ [9, 9]) [] (sub (B Qab) [1, 0, 0]) (Qaj 0 (retK Tryz.prog (R Qab) 3 (inlK (opAt (QaE (sub (B Qaa) [1, 1, 1, 0])) 4) ⟨fr 63 [(0, .rsl 42 0 8 0 jK wc), (1, vI wa), (2, .val (.fn Qae)), (6, vI 20), (7, vI jC), (8, vI wG), (10, vI 20), (23, .rsl 42 0 8 0 jK wc), (24, vI jC), (25, vI wa), (26, .val (.fn Qae))], [bx 55 [(3, some [.val (.list wk wi), .val (.list wh wg)]), (4, some [vS wj, vI wl, vI jT, vI jQ, vI jP, .val (.list jR jO)]), (5, some [vI jS, vS jU, vI jW, vI jZ, vI jN, vI jY, vI jV, vS jX, .val (.list j0 j5)]), (8, some [.row 42 wK]), (12, some [.val wR, .val wQ, .val wP, .val wS, .val wT, .val wO])], bx 9 [], bx 63 []], KK⟩ (opsK Tryz.prog (C lb n) (I7 lb n) 2 (QaE (sub (B Qaa) [1, 1, 1, 0])) ((QaE (sub (B Qaa) [1, 1, 1, 0])).drop 5) ((seqK (E2 lb n 2 996) (sub (B Qaa) [1, 1, 1, 0]) (sub (B Qaa) [1, 1, 1, 1]) (retK Tryz.prog (R Qaa) 2 K)) .normal))))) w4) (Qaj 0 (retK Tryz.prog (R Qab) 3 (inlK (opAt (QaE (sub (B Qaa) [1, 1, 1, 0])) 4) ⟨fr 63 [(0, .rsl 42 0 8 0 jK wc), (1, vI wa), (2, .val (.fn Qae)), (6, vI 20), (7, vI jC), (8, vI wG), (10, vI 20), (23, .rsl 42 0 8 0 jK wc), (24, vI jC), (25, vI wa), (26, .val (.fn Qae))], [bx 55 [(3, some [.val (.list wk wi), .val (.list wh wg)]), (4, some [vS wj, vI wl, vI jT, vI jQ, vI jP, .val (.list jR jO)]), (5, some [vI jS, vS jU, vI jW, vI jZ, vI jN, vI jY, vI jV, vS jX, .val (.list j0 j5)]), (8, some [.row 42 wK]), (12, some [.val wR, .val wQ, .val wP, .val wS, .val wT, .val wO])], bx 9 [], bx 63 []], KK⟩ (opsK Tryz.prog (C lb n) (I7 lb n) 2 (QaE (sub (B Qaa) [1, 1, 1, 0])) ((QaE (sub (B Qaa) [1, 1, 1, 0])).drop 5) ((seqK (E2 lb n 2 996) (sub (B Qaa) [1, 1, 1, 0]) (sub (B Qaa) [1, 1, 1, 1]) (retK Tryz.prog (R Qaa) 2 K)) .normal))))))))) k8 ⟨fr 53 [(0, .rsl 42 0 8 0 jK wc), (1, vI jC), (2, vI wa), (3, .val (.fn Qae)), (8, vI wU), (9, vI i1143), (10, vI jC), (11, .val (.int .i64 (IntKind.wrap .i64 (jC + 1)))), (17, vI wU)], [bx 55 [(3, some [.val (.list wk wi), .val (.list wh wg)]), (4, some [vS wj, vI wl, vI jT, vI jQ, vI jP, .val (.list jR jO)]), (5, some [vI jS, vS jU, vI jW, vI jZ, vI jN, vI jY, vI jV, vS jX, .val (.list j0 j5)]), (8, some [.row 42 yB]), (12, some [.val wR, .val wQ, .val wP, .val wS, .val wT, .val wO])], bx 9 [], bx 63 [], bx 53 []], KK⟩)
noncomputable def Qcg (lb n jK wc : Nat) (wa jC wG : Int) (wk : Bool) (wi : LL) (wh : Bool) (wg : LL) (wj : LB) (wl jT jQ jP : Int) (jR : Bool) (jO : LL) (jS : Int) (jU : LB) (jW jZ jN jY jV : Int) (jX : LB) (j0 : Bool) (j5 wK : LL) (wR wQ wP wS wT wO : CV) (K : AV → List (List (Option (List AV))) → Option CV) (w4 : Nat) (wU oJ : Int) (k6 : LL) : Option CV :=
 hold (E3 lb n 3 995 (sub (B Qab) [1, 0, 0, 1, 1]) (QbK 3 (Qad (sub (B Qab) [1, 0, 0]) ++ [9, 9]) [] (Qar (E3 lb n 3 997) 3 (Qad (sub (B Qab) [1, 0, 0]) ++ [9, 9]) [] (sub (B Qab) [1, 0, 0]) (Qaj 0 (retK Tryz.prog (R Qab) 3 (inlK (opAt (QaE (sub (B Qaa) [1, 1, 1, 0])) 4) ⟨fr 63 [(0, .rsl 42 0 8 0 jK wc), (1, vI wa), (2, .val (.fn Qae)), (6, vI 20), (7, vI jC), (8, vI wG), (10, vI 20), (23, .rsl 42 0 8 0 jK wc), (24, vI jC), (25, vI wa), (26, .val (.fn Qae))], [bx 55 [(3, some [.val (.list wk wi), .val (.list wh wg)]), (4, some [vS wj, vI wl, vI jT, vI jQ, vI jP, .val (.list jR jO)]), (5, some [vI jS, vS jU, vI jW, vI jZ, vI jN, vI jY, vI jV, vS jX, .val (.list j0 j5)]), (8, some [.row 42 wK]), (12, some [.val wR, .val wQ, .val wP, .val wS, .val wT, .val wO])], bx 9 [], bx 63 []], KK⟩ (opsK Tryz.prog (C lb n) (I7 lb n) 2 (QaE (sub (B Qaa) [1, 1, 1, 0])) ((QaE (sub (B Qaa) [1, 1, 1, 0])).drop 5) ((seqK (E2 lb n 2 996) (sub (B Qaa) [1, 1, 1, 0]) (sub (B Qaa) [1, 1, 1, 1]) (retK Tryz.prog (R Qaa) 2 K)) .normal))))) w4) (Qaj 0 (retK Tryz.prog (R Qab) 3 (inlK (opAt (QaE (sub (B Qaa) [1, 1, 1, 0])) 4) ⟨fr 63 [(0, .rsl 42 0 8 0 jK wc), (1, vI wa), (2, .val (.fn Qae)), (6, vI 20), (7, vI jC), (8, vI wG), (10, vI 20), (23, .rsl 42 0 8 0 jK wc), (24, vI jC), (25, vI wa), (26, .val (.fn Qae))], [bx 55 [(3, some [.val (.list wk wi), .val (.list wh wg)]), (4, some [vS wj, vI wl, vI jT, vI jQ, vI jP, .val (.list jR jO)]), (5, some [vI jS, vS jU, vI jW, vI jZ, vI jN, vI jY, vI jV, vS jX, .val (.list j0 j5)]), (8, some [.row 42 wK]), (12, some [.val wR, .val wQ, .val wP, .val wS, .val wT, .val wO])], bx 9 [], bx 63 []], KK⟩ (opsK Tryz.prog (C lb n) (I7 lb n) 2 (QaE (sub (B Qaa) [1, 1, 1, 0])) ((QaE (sub (B Qaa) [1, 1, 1, 0])).drop 5) ((seqK (E2 lb n 2 996) (sub (B Qaa) [1, 1, 1, 0]) (sub (B Qaa) [1, 1, 1, 1]) (retK Tryz.prog (R Qaa) 2 K)) .normal)))))) ⟨fr 53 [(0, .rsl 42 0 8 0 jK wc), (1, vI jC), (2, vI wa), (3, .val (.fn Qae)), (8, vI wU), (9, vI oJ), (10, vI jC), (11, .val (.int .i64 (IntKind.wrap .i64 (jC + 1))))], [bx 55 [(3, some [.val (.list wk wi), .val (.list wh wg)]), (4, some [vS wj, vI wl, vI jT, vI jQ, vI jP, .val (.list jR jO)]), (5, some [vI jS, vS jU, vI jW, vI jZ, vI jN, vI jY, vI jV, vS jX, .val (.list j0 j5)]), (8, some [.row 42 k6]), (12, some [.val wR, .val wQ, .val wP, .val wS, .val wT, .val wO])], bx 9 [], bx 63 [], bx 53 []], KK⟩)
theorem Qc5 (lb n jK wc : Nat) (wa jC wG : Int) (wk : Bool) (wi : LL) (wh : Bool) (wg : LL) (wj : LB) (wl jT jQ jP : Int) (jR : Bool) (jO : LL) (jS : Int) (jU : LB) (jW jZ jN jY jV : Int) (jX : LB) (j0 : Bool) (j5 wK : LL) (wR wQ wP wS wT wO : CV) (K : AV → List (List (Option (List AV))) → Option CV) (w4 : Nat) (wU oJ : Int) (k6 : LL) :
 Qcg lb n jK wc wa jC wG wk wi wh wg wj wl jT jQ jP jR jO jS jU jW jZ jN jY jV jX j0 j5 wK wR wQ wP wS wT wO K w4 wU oJ k6 =
 Qbh lb n w4 jK wc wa jC wG wk wi wh wg wj wl jT jQ jP jR jO jS jU jW jZ jN jY jV jX j0 j5 wK wR wQ wP wS wT wO K (IntKind.wrap .i64 (wU + 1)) k6 := (Qac _).trans (by kernel_rfl)
theorem QcK (lb n k8 jK wc : Nat) (wa jC wG : Int) (wk : Bool) (wi : LL) (wh : Bool) (wg : LL) (wj : LB) (wl jT jQ jP : Int) (jR : Bool) (jO : LL) (jS : Int) (jU : LB) (jW jZ jN jY jV : Int) (jX : LB) (j0 : Bool) (j5 wK : LL) (wR wQ wP wS wT wO : CV) (K : AV → List (List (Option (List AV))) → Option CV) (w4 : Nat) (wU i1143 : Int) (yB : LL) :
 QbG lb n (k8 + 1) jK wc wa jC wG wk wi wh wg wj wl jT jQ jP jR jO jS jU jW jZ jN jY jV jX j0 j5 wK wR wQ wP wS wT wO K w4 wU i1143 yB =
 bif (decide (i1143 > jC)) then
 (chkO ((decide (0 ≤ (i1143 : Int))) && (decide ((i1143 : Int) < ((jK : Nat) : Int)))) (
 optO (yB[0 + i1143.toNat]?) fun v8 =>
 optO (v8[0]?) fun nq =>
 optO (v8[1]?) fun ns =>
 optO (v8[2]?) fun m8 =>
 optO (v8[3]?) fun nC =>
 optO (v8[4]?) fun mL =>
 optO (v8[5]?) fun mZ =>
 chkO ((decide (0 ≤ ((IntKind.wrap .i64 (i1143 - 1)) : Int))) && (decide (((IntKind.wrap .i64 (i1143 - 1)) : Int) < ((jK : Nat) : Int)))) (
 optO (yB[0 + ((IntKind.wrap .i64 (i1143 - 1)).toNat)]?) fun ka =>
 optO (ka[0]?) fun m5 =>
 optO (ka[1]?) fun mJ =>
 optO (ka[2]?) fun nx =>
 optO (ka[3]?) fun nF =>
 optO (ka[4]?) fun m7 =>
 optO (ka[5]?) fun mV =>
 optO (C lb n Qae [.agg [nq, ns, m8, nC, mL, mZ], .agg [m5, mJ, nx, nF, m7, mV]]) fun mO =>
 optO (CV.asI .i64 mO) fun ni =>
 bif (decide (ni < 0)) then
 (chkO ((decide (0 ≤ ((IntKind.wrap .i64 (i1143 - 1)) : Int))) && (decide (((IntKind.wrap .i64 (i1143 - 1)) : Int) < ((jK : Nat) : Int)))) (
 optO (yB[0 + ((IntKind.wrap .i64 (i1143 - 1)).toNat)]?) fun v6 =>
 optO (v6[0]?) fun gt =>
 optO (v6[1]?) fun gk =>
 optO (v6[2]?) fun gn =>
 optO (v6[3]?) fun gy =>
 optO (v6[4]?) fun gi =>
 optO (v6[5]?) fun gw =>
 chkO ((decide (0 ≤ (i1143 : Int))) && (decide ((i1143 : Int) < ((jK : Nat) : Int)))) (
 optO (yB[0 + i1143.toNat]?) fun kb =>
 optO (kb[0]?) fun mQ =>
 optO (kb[1]?) fun nE =>
 optO (kb[2]?) fun na =>
 optO (kb[3]?) fun m9 =>
 optO (kb[4]?) fun mU =>
 optO (kb[5]?) fun mN =>
 chkO ((decide (0 ≤ (i1143 : Int))) && (decide ((i1143 : Int) < ((jK : Nat) : Int)))) (
 optO (yB[0 + i1143.toNat]?) fun c1208 =>
 chkO (decide ((6 : Nat) ≤ c1208.length)) (
 chkO ((decide (0 ≤ ((IntKind.wrap .i64 (i1143 - 1)) : Int))) && (decide (((IntKind.wrap .i64 (i1143 - 1)) : Int) < ((jK : Nat) : Int)))) (
 optO ((setN yB (0 + i1143.toNat) (Qbo c1208 0 [gt, gk, gn, gy, gi, gw]))[0 + ((IntKind.wrap .i64 (i1143 - 1)).toNat)]?) fun c1209 =>
 chkO (decide ((6 : Nat) ≤ c1209.length)) (
 QbG lb n k8 jK wc wa jC wG wk wi wh wg wj wl jT jQ jP jR jO jS jU jW jZ jN jY jV jX j0 j5 wK wR wQ wP wS wT wO K w4 wU (IntKind.wrap .i64 (i1143 - 1)) (setN (setN yB (0 + i1143.toNat) (Qbo c1208 0 [gt, gk, gn, gy, gi, gw])) (0 + ((IntKind.wrap .i64 (i1143 - 1)).toNat)) (Qbo c1209 0 [mQ, nE, na, m9, mU, mN])))))))))
 else
 (Qcg lb n jK wc wa jC wG wk wi wh wg wj wl jT jQ jP jR jO jS jU jW jZ jN jY jV jX j0 j5 wK wR wQ wP wS wT wO K w4 wU i1143 yB))))
 else
 (Qcg lb n jK wc wa jC wG wk wi wh wg wj wl jT jQ jP jR jO jS jU jW jZ jN jY jV jX j0 j5 wK wR wQ wP wS wT wO K w4 wU i1143 yB) := (Qac _).trans (by kernel_rfl)
noncomputable def QbI (lb n v7 : Nat) (K : AV → List (List (Option (List AV))) → Option CV) (jK wc : Nat) (wa jC : Int) (wk : Bool) (wi : LL) (wh : Bool) (wg : LL) (wj : LB) (wl jT jQ jP : Int) (jR : Bool) (jO : LL) (jS : Int) (jU : LB) (jW jZ jN jY jV : Int) (jX : LB) (j0 : Bool) (j5 : LL) (wR wQ wP wS wT wO : CV) (yR oI oH : Int) (kG : LL) : Option CV :=
 hold (Qar (E2 lb n 2 994) 2 (Qad (sub (B Qaa) [1, 1, 1, 1, 0, 0]) ++ [9]) [] (sub (B Qaa) [1, 1, 1, 1, 0, 0]) (Qaj 2 (retK Tryz.prog (R Qaa) 2 K)) v7 ⟨fr 63 [(0, .rsl 42 0 8 0 jK wc), (1, vI wa), (2, .val (.fn Qae)), (6, vI yR), (7, vI oI), (8, vI oH), (10, vI 20), (23, .rsl 42 0 8 0 jK wc), (24, vI jC), (25, vI wa), (26, .val (.fn Qae)), (27, .val (.tup []))], [bx 55 [(3, some [.val (.list wk wi), .val (.list wh wg)]), (4, some [vS wj, vI wl, vI jT, vI jQ, vI jP, .val (.list jR jO)]), (5, some [vI jS, vS jU, vI jW, vI jZ, vI jN, vI jY, vI jV, vS jX, .val (.list j0 j5)]), (8, some [.row 42 kG]), (12, some [.val wR, .val wQ, .val wP, .val wS, .val wT, .val wO])], bx 9 [], bx 63 []], KK⟩)
noncomputable def Qfw (lb n nH : Nat) (K : AV → List (List (Option (List AV))) → Option CV) (v7 jK wc : Nat) (wa yR jC : Int) (wk : Bool) (wi : LL) (wh : Bool) (wg : LL) (wj : LB) (wl jT jQ jP : Int) (jR : Bool) (jO : LL) (jS : Int) (jU : LB) (jW jZ jN jY jV : Int) (jX : LB) (j0 : Bool) (j5 : LL) (wR wQ wP wS wT wO : CV) (nA nz : Int) (m6 : LL) : Option CV :=
 hold (Qar (E2 lb n 2 988) 2 (Qad (sub (B Qaa) [1, 1, 1, 1, 0, 0, 1, 0, 1, 0, 0, 0]) ++ []) [] (sub (B Qaa) [1, 1, 1, 1, 0, 0, 1, 0, 1, 0, 0, 0]) (Qaj 4 (seqK (E2 lb n 2 990) (sub (B Qaa) [1, 1, 1, 1, 0, 0, 1, 0, 1, 0]) (sub (B Qaa) [1, 1, 1, 1, 0, 0, 1, 0, 1, 1]) (Qaj 3 (QbK 2 (Qad (sub (B Qaa) [1, 1, 1, 1, 0, 0]) ++ [9]) [] (Qar (E2 lb n 2 994) 2 (Qad (sub (B Qaa) [1, 1, 1, 1, 0, 0]) ++ [9]) [] (sub (B Qaa) [1, 1, 1, 1, 0, 0]) (Qaj 2 (retK Tryz.prog (R Qaa) 2 K)) v7) (Qaj 2 (retK Tryz.prog (R Qaa) 2 K)))))) nH ⟨fr 63 [(0, .rsl 42 0 8 0 jK wc), (1, vI wa), (2, .val (.fn Qae)), (6, vI yR), (7, vI nA), (8, vI nz), (10, vI 20), (23, .rsl 42 0 8 0 jK wc), (24, vI jC), (25, vI wa), (26, .val (.fn Qae)), (27, .val (.tup [])), (31, vI yR), (32, .val (.int .i64 (IntKind.wrap .i64 (2 * yR))))], [bx 55 [(3, some [.val (.list wk wi), .val (.list wh wg)]), (4, some [vS wj, vI wl, vI jT, vI jQ, vI jP, .val (.list jR jO)]), (5, some [vI jS, vS jU, vI jW, vI jZ, vI jN, vI jY, vI jV, vS jX, .val (.list j0 j5)]), (8, some [.row 42 m6]), (12, some [.val wR, .val wQ, .val wP, .val wS, .val wT, .val wO])], bx 9 [], bx 63 []], KK⟩)
theorem QcM (lb n v7 : Nat) (K : AV → List (List (Option (List AV))) → Option CV) (jK wc : Nat) (wa jC : Int) (wk : Bool) (wi : LL) (wh : Bool) (wg : LL) (wj : LB) (wl jT jQ jP : Int) (jR : Bool) (jO : LL) (jS : Int) (jU : LB) (jW jZ jN jY jV : Int) (jX : LB) (j0 : Bool) (j5 : LL) (wR wQ wP wS wT wO : CV) (yR oI oH : Int) (kG : LL) :
 QbI lb n (v7 + 1) K jK wc wa jC wk wi wh wg wj wl jT jQ jP jR jO jS jU jW jZ jN jY jV jX j0 j5 wR wQ wP wS wT wO yR oI oH kG =
 bif (decide (yR < wa)) then
 (Qfw lb n n K v7 jK wc wa yR jC wk wi wh wg wj wl jT jQ jP jR jO jS jU jW jZ jN jY jV jX j0 j5 wR wQ wP wS wT wO 0 (IntKind.wrap .i64 (2 * yR)) kG)
 else
 (K (.val (.tup [])) [bx 55 [(3, some [.val (.list wk wi), .val (.list wh wg)]), (4, some [vS wj, vI wl, vI jT, vI jQ, vI jP, .val (.list jR jO)]), (5, some [vI jS, vS jU, vI jW, vI jZ, vI jN, vI jY, vI jV, vS jX, .val (.list j0 j5)]), (8, some [.row 42 kG]), (12, some [.val wR, .val wQ, .val wP, .val wS, .val wT, .val wO])], bx 9 []]) := (Qac _).trans (by kernel_rfl)
theorem QcL (lb n w4 jK wc : Nat) (wa jC wG : Int) (wk : Bool) (wi : LL) (wh : Bool) (wg : LL) (wj : LB) (wl jT jQ jP : Int) (jR : Bool) (jO : LL) (jS : Int) (jU : LB) (jW jZ jN jY jV : Int) (jX : LB) (j0 : Bool) (j5 wK : LL) (wR wQ wP wS wT wO : CV) (K : AV → List (List (Option (List AV))) → Option CV) (wU : Int) (kF : LL) :
 Qbh lb n (w4 + 1) jK wc wa jC wG wk wi wh wg wj wl jT jQ jP jR jO jS jU jW jZ jN jY jV jX j0 j5 wK wR wQ wP wS wT wO K wU kF =
 bif (decide (wU < wa)) then
 (QbG lb n n jK wc wa jC wG wk wi wh wg wj wl jT jQ jP jR jO jS jU jW jZ jN jY jV jX j0 j5 wK wR wQ wP wS wT wO K w4 wU wU kF)
 else
 (QbI lb n n K jK wc wa jC wk wi wh wg wj wl jT jQ jP jR jO jS jU jW jZ jN jY jV jX j0 j5 wR wQ wP wS wT wO 20 jC wG kF) := (Qac _).trans (by kernel_rfl)
theorem Qe9 (lb n : Nat) (K : AV → List (List (Option (List AV))) → Option CV) (jK wc : Nat) (wa : Int) (wk : Bool) (wi : LL) (wh : Bool) (wg : LL) (wj : LB) (wl jT jQ jP : Int) (jR : Bool) (jO : LL) (jS : Int) (jU : LB) (jW jZ jN jY jV : Int) (jX : LB) (j0 : Bool) (j5 : LL) (wR wQ wP wS wT wO : CV) (jC wG : Int) (wK : LL) :
 Qdp lb n K jK wc wa wk wi wh wg wj wl jT jQ jP jR jO jS jU jW jZ jN jY jV jX j0 j5 wR wQ wP wS wT wO jC wG wK =
 Qbh lb n n jK wc wa jC wG wk wi wh wg wj wl jT jQ jP jR jO jS jU jW jZ jN jY jV jX j0 j5 wK wR wQ wP wS wT wO K (IntKind.wrap .i64 (jC + 1)) wK := (Qac _).trans (by kernel_rfl)
theorem QeK (lb n kM : Nat) (K : AV → List (List (Option (List AV))) → Option CV) (jK wc : Nat) (wa : Int) (wk : Bool) (wi : LL) (wh : Bool) (wg : LL) (wj : LB) (wl jT jQ jP : Int) (jR : Bool) (jO : LL) (jS : Int) (jU : LB) (jW jZ jN jY jV : Int) (jX : LB) (j0 : Bool) (j5 : LL) (wR wQ wP wS wT wO : CV) (yY vj : Int) (vL : LL) :
 Qcj lb n (kM + 1) K jK wc wa wk wi wh wg wj wl jT jQ jP jR jO jS jU jW jZ jN jY jV jX j0 j5 wR wQ wP wS wT wO yY vj vL =
 bif (decide (vj ≤ wa)) then
 (Qfy lb n n jK wc wa yY vj wk wi wh wg wj wl jT jQ jP jR jO jS jU jW jZ jN jY jV jX j0 j5 vL wR wQ wP wS wT wO K kM (IntKind.wrap .i64 (yY + 1)) vL)
 else
 (Qdp lb n K jK wc wa wk wi wh wg wj wl jT jQ jP jR jO jS jU jW jZ jN jY jV jX j0 j5 wR wQ wP wS wT wO yY vj vL) := (Qac _).trans (by kernel_rfl)
theorem Qdd (lb n : Nat) (K : AV → List (List (Option (List AV))) → Option CV) (jK wc : Nat) (wa : Int) (wk : Bool) (wi : LL) (wh : Bool) (wg : LL) (wj : LB) (wl jT jQ jP : Int) (jR : Bool) (jO : LL) (jS : Int) (jU : LB) (jW jZ jN jY jV : Int) (jX : LB) (j0 : Bool) (j5 oG : LL) (wR wQ wP wS wT wO : CV) :
 Qbp lb n K jK wc wa wk wi wh wg wj wl jT jQ jP jR jO jS jU jW jZ jN jY jV jX j0 j5 oG wR wQ wP wS wT wO =
 Qcj lb n n K jK wc wa wk wi wh wg wj wl jT jQ jP jR jO jS jU jW jZ jN jY jV jX j0 j5 wR wQ wP wS wT wO 0 20 oG := by kernel_rfl
noncomputable def Qb1 (lb n kM : Nat) (K : AV → List (List (Option (List AV))) → Option CV) (jK wc : Nat) (wa : Int) (wk : Bool) (wi : LL) (wh : Bool) (wg : LL) (wj : LB) (wl jT jQ jP : Int) (jR : Bool) (jO : LL) (jS : Int) (jU : LB) (jW jZ jN jY jV : Int) (jX : LB) (j0 : Bool) (j5 : LL) (yY vj : Int) (vL : LL) : Option CV :=
 hold (Qar (E2 lb n 2 995) 2 (Qad (sub (B Qaa) [1, 1, 0, 0, 0]) ++ []) [] (sub (B Qaa) [1, 1, 0, 0, 0]) (Qaj 0 (seqK (E2 lb n 2 997) (sub (B Qaa) [1, 1, 0]) (sub (B Qaa) [1, 1, 1]) (retK Tryz.prog (R Qaa) 2 K))) kM ⟨fr 63 [(0, .rsl 42 0 8 0 jK wc), (1, vI wa), (2, .val (.fn Qae)), (6, vI 20), (7, vI yY), (8, vI vj), (10, vI 20)], [bx 55 [(3, some [.val (.list wk wi), .val (.list wh wg)]), (4, some [vS wj, vI wl, vI jT, vI jQ, vI jP, .val (.list jR jO)]), (5, some [vI jS, vS jU, vI jW, vI jZ, vI jN, vI jY, vI jV, vS jX, .val (.list j0 j5)]), (8, some [.row 42 vL])], bx 9 [], bx 63 []], KK⟩)
noncomputable def Qfk (lb n pC jK wc : Nat) (wa yY vj : Int) (wk : Bool) (wi : LL) (wh : Bool) (wg : LL) (wj : LB) (wl jT jQ jP : Int) (jR : Bool) (jO : LL) (jS : Int) (jU : LB) (jW jZ jN jY jV : Int) (jX : LB) (j0 : Bool) (j5 vL : LL) (K : AV → List (List (Option (List AV))) → Option CV) (kM : Nat) (pi : Int) (pg : LL) : Option CV :=
 hold (Qar (E3 lb n 3 997) 3 (Qad (sub (B Qab) [1, 0, 0]) ++ [9, 9]) [] (sub (B Qab) [1, 0, 0]) (Qaj 0 (retK Tryz.prog (R Qab) 3 (inlK (opAt (QaE (sub (B Qaa) [1, 1, 0, 0, 0, 1, 0, 0])) 4) ⟨fr 63 [(0, .rsl 42 0 8 0 jK wc), (1, vI wa), (2, .val (.fn Qae)), (6, vI 20), (7, vI yY), (8, vI vj), (10, vI 20), (14, .rsl 42 0 8 0 jK wc), (15, vI yY), (16, vI vj), (17, .val (.fn Qae))], [bx 55 [(3, some [.val (.list wk wi), .val (.list wh wg)]), (4, some [vS wj, vI wl, vI jT, vI jQ, vI jP, .val (.list jR jO)]), (5, some [vI jS, vS jU, vI jW, vI jZ, vI jN, vI jY, vI jV, vS jX, .val (.list j0 j5)]), (8, some [.row 42 vL])], bx 9 [], bx 63 []], KK⟩ (opsK Tryz.prog (C lb n) (I7 lb n) 2 (QaE (sub (B Qaa) [1, 1, 0, 0, 0, 1, 0, 0])) ((QaE (sub (B Qaa) [1, 1, 0, 0, 0, 1, 0, 0])).drop 5) ((seqK (E2 lb n 2 992) (sub (B Qaa) [1, 1, 0, 0, 0, 1, 0, 0]) (sub (B Qaa) [1, 1, 0, 0, 0, 1, 0, 1]) (Qaj 1 (QbK 2 (Qad (sub (B Qaa) [1, 1, 0, 0, 0]) ++ []) [] (Qar (E2 lb n 2 995) 2 (Qad (sub (B Qaa) [1, 1, 0, 0, 0]) ++ []) [] (sub (B Qaa) [1, 1, 0, 0, 0]) (Qaj 0 (seqK (E2 lb n 2 997) (sub (B Qaa) [1, 1, 0]) (sub (B Qaa) [1, 1, 1]) (retK Tryz.prog (R Qaa) 2 K))) kM) (Qaj 0 (seqK (E2 lb n 2 997) (sub (B Qaa) [1, 1, 0]) (sub (B Qaa) [1, 1, 1]) (retK Tryz.prog (R Qaa) 2 K)))))) .normal))))) pC ⟨fr 53 [(0, .rsl 42 0 8 0 jK wc), (1, vI yY), (2, vI vj), (3, .val (.fn Qae)), (8, vI pi), (10, vI yY), (11, .val (.int .i64 (IntKind.wrap .i64 (yY + 1))))], [bx 55 [(3, some [.val (.list wk wi), .val (.list wh wg)]), (4, some [vS wj, vI wl, vI jT, vI jQ, vI jP, .val (.list jR jO)]), (5, some [vI jS, vS jU, vI jW, vI jZ, vI jN, vI jY, vI jV, vS jX, .val (.list j0 j5)]), (8, some [.row 42 pg])], bx 9 [], bx 63 [], bx 53 []], KK⟩)
noncomputable def Qda (lb n : Nat) (K : AV → List (List (Option (List AV))) → Option CV) (jK wc : Nat) (wa : Int) (wk : Bool) (wi : LL) (wh : Bool) (wg : LL) (wj : LB) (wl jT jQ jP : Int) (jR : Bool) (jO : LL) (jS : Int) (jU : LB) (jW jZ jN jY jV : Int) (jX : LB) (j0 : Bool) (j5 : LL) (jC wG : Int) (wK : LL) : Option CV :=
 hold (E2 lb n 2 997 (sub (B Qaa) [1, 1, 1]) (retK Tryz.prog (R Qaa) 2 K) ⟨fr 63 [(0, .rsl 42 0 8 0 jK wc), (1, vI wa), (2, .val (.fn Qae)), (6, vI 20), (7, vI jC), (8, vI wG), (10, vI 20)], [bx 55 [(3, some [.val (.list wk wi), .val (.list wh wg)]), (4, some [vS wj, vI wl, vI jT, vI jQ, vI jP, .val (.list jR jO)]), (5, some [vI jS, vS jU, vI jW, vI jZ, vI jN, vI jY, vI jV, vS jX, .val (.list j0 j5)]), (8, some [.row 42 wK])], bx 9 [], bx 63 []], KK⟩)
noncomputable def Qbe (lb n w4 jK wc : Nat) (wa jC wG : Int) (wk : Bool) (wi : LL) (wh : Bool) (wg : LL) (wj : LB) (wl jT jQ jP : Int) (jR : Bool) (jO : LL) (jS : Int) (jU : LB) (jW jZ jN jY jV : Int) (jX : LB) (j0 : Bool) (j5 wK : LL) (K : AV → List (List (Option (List AV))) → Option CV) (wU : Int) (kF : LL) : Option CV :=
 hold (Qar (E3 lb n 3 997) 3 (Qad (sub (B Qab) [1, 0, 0]) ++ [9, 9]) [] (sub (B Qab) [1, 0, 0]) (Qaj 0 (retK Tryz.prog (R Qab) 3 (inlK (opAt (QaE (sub (B Qaa) [1, 1, 1, 0])) 4) ⟨fr 63 [(0, .rsl 42 0 8 0 jK wc), (1, vI wa), (2, .val (.fn Qae)), (6, vI 20), (7, vI jC), (8, vI wG), (10, vI 20), (23, .rsl 42 0 8 0 jK wc), (24, vI jC), (25, vI wa), (26, .val (.fn Qae))], [bx 55 [(3, some [.val (.list wk wi), .val (.list wh wg)]), (4, some [vS wj, vI wl, vI jT, vI jQ, vI jP, .val (.list jR jO)]), (5, some [vI jS, vS jU, vI jW, vI jZ, vI jN, vI jY, vI jV, vS jX, .val (.list j0 j5)]), (8, some [.row 42 wK])], bx 9 [], bx 63 []], KK⟩ (opsK Tryz.prog (C lb n) (I7 lb n) 2 (QaE (sub (B Qaa) [1, 1, 1, 0])) ((QaE (sub (B Qaa) [1, 1, 1, 0])).drop 5) ((seqK (E2 lb n 2 996) (sub (B Qaa) [1, 1, 1, 0]) (sub (B Qaa) [1, 1, 1, 1]) (retK Tryz.prog (R Qaa) 2 K)) .normal))))) w4 ⟨fr 53 [(0, .rsl 42 0 8 0 jK wc), (1, vI jC), (2, vI wa), (3, .val (.fn Qae)), (8, vI wU), (10, vI jC), (11, .val (.int .i64 (IntKind.wrap .i64 (jC + 1))))], [bx 55 [(3, some [.val (.list wk wi), .val (.list wh wg)]), (4, some [vS wj, vI wl, vI jT, vI jQ, vI jP, .val (.list jR jO)]), (5, some [vI jS, vS jU, vI jW, vI jZ, vI jN, vI jY, vI jV, vS jX, .val (.list j0 j5)]), (8, some [.row 42 kF])], bx 9 [], bx 63 [], bx 53 []], KK⟩)
noncomputable def Qbt (lb n k8 jK wc : Nat) (wa jC wG : Int) (wk : Bool) (wi : LL) (wh : Bool) (wg : LL) (wj : LB) (wl jT jQ jP : Int) (jR : Bool) (jO : LL) (jS : Int) (jU : LB) (jW jZ jN jY jV : Int) (jX : LB) (j0 : Bool) (j5 wK : LL) (K : AV → List (List (Option (List AV))) → Option CV) (w4 : Nat) (wU i1143 : Int) (yB : LL) : Option CV :=
 hold (Qar (E3 lb n 3 991) 3 (Qad (sub (B Qab) [1, 0, 0, 1, 0, 0, 1, 0, 0]) ++ []) [] (sub (B Qab) [1, 0, 0, 1, 0, 0, 1, 0, 0]) (Qaj 2 (Qaj 1 (seqK (E3 lb n 3 995) (sub (B Qab) [1, 0, 0, 1, 0]) (sub (B Qab) [1, 0, 0, 1, 1]) (QbK 3 (Qad (sub (B Qab) [1, 0, 0]) ++ [9, 9]) [] (Qar (E3 lb n 3 997) 3 (Qad (sub (B Qab) [1, 0, 0]) ++ [9, 9]) [] (sub (B Qab) [1, 0, 0]) (Qaj 0 (retK Tryz.prog (R Qab) 3 (inlK (opAt (QaE (sub (B Qaa) [1, 1, 1, 0])) 4) ⟨fr 63 [(0, .rsl 42 0 8 0 jK wc), (1, vI wa), (2, .val (.fn Qae)), (6, vI 20), (7, vI jC), (8, vI wG), (10, vI 20), (23, .rsl 42 0 8 0 jK wc), (24, vI jC), (25, vI wa), (26, .val (.fn Qae))], [bx 55 [(3, some [.val (.list wk wi), .val (.list wh wg)]), (4, some [vS wj, vI wl, vI jT, vI jQ, vI jP, .val (.list jR jO)]), (5, some [vI jS, vS jU, vI jW, vI jZ, vI jN, vI jY, vI jV, vS jX, .val (.list j0 j5)]), (8, some [.row 42 wK])], bx 9 [], bx 63 []], KK⟩ (opsK Tryz.prog (C lb n) (I7 lb n) 2 (QaE (sub (B Qaa) [1, 1, 1, 0])) ((QaE (sub (B Qaa) [1, 1, 1, 0])).drop 5) ((seqK (E2 lb n 2 996) (sub (B Qaa) [1, 1, 1, 0]) (sub (B Qaa) [1, 1, 1, 1]) (retK Tryz.prog (R Qaa) 2 K)) .normal))))) w4) (Qaj 0 (retK Tryz.prog (R Qab) 3 (inlK (opAt (QaE (sub (B Qaa) [1, 1, 1, 0])) 4) ⟨fr 63 [(0, .rsl 42 0 8 0 jK wc), (1, vI wa), (2, .val (.fn Qae)), (6, vI 20), (7, vI jC), (8, vI wG), (10, vI 20), (23, .rsl 42 0 8 0 jK wc), (24, vI jC), (25, vI wa), (26, .val (.fn Qae))], [bx 55 [(3, some [.val (.list wk wi), .val (.list wh wg)]), (4, some [vS wj, vI wl, vI jT, vI jQ, vI jP, .val (.list jR jO)]), (5, some [vI jS, vS jU, vI jW, vI jZ, vI jN, vI jY, vI jV, vS jX, .val (.list j0 j5)]), (8, some [.row 42 wK])], bx 9 [], bx 63 []], KK⟩ (opsK Tryz.prog (C lb n) (I7 lb n) 2 (QaE (sub (B Qaa) [1, 1, 1, 0])) ((QaE (sub (B Qaa) [1, 1, 1, 0])).drop 5) ((seqK (E2 lb n 2 996) (sub (B Qaa) [1, 1, 1, 0]) (sub (B Qaa) [1, 1, 1, 1]) (retK Tryz.prog (R Qaa) 2 K)) .normal))))))))) k8 ⟨fr 53 [(0, .rsl 42 0 8 0 jK wc), (1, vI jC), (2, vI wa), (3, .val (.fn Qae)), (8, vI wU), (9, vI i1143), (10, vI jC), (11, .val (.int .i64 (IntKind.wrap .i64 (jC + 1)))), (17, vI wU)], [bx 55 [(3, some [.val (.list wk wi), .val (.list wh wg)]), (4, some [vS wj, vI wl, vI jT, vI jQ, vI jP, .val (.list jR jO)]), (5, some [vI jS, vS jU, vI jW, vI jZ, vI jN, vI jY, vI jV, vS jX, .val (.list j0 j5)]), (8, some [.row 42 yB])], bx 9 [], bx 63 [], bx 53 []], KK⟩)
noncomputable def Qb2 (lb n jK wc : Nat) (wa jC wG : Int) (wk : Bool) (wi : LL) (wh : Bool) (wg : LL) (wj : LB) (wl jT jQ jP : Int) (jR : Bool) (jO : LL) (jS : Int) (jU : LB) (jW jZ jN jY jV : Int) (jX : LB) (j0 : Bool) (j5 wK : LL) (K : AV → List (List (Option (List AV))) → Option CV) (w4 : Nat) (wU oJ : Int) (k6 : LL) : Option CV :=
 hold (E3 lb n 3 995 (sub (B Qab) [1, 0, 0, 1, 1]) (QbK 3 (Qad (sub (B Qab) [1, 0, 0]) ++ [9, 9]) [] (Qar (E3 lb n 3 997) 3 (Qad (sub (B Qab) [1, 0, 0]) ++ [9, 9]) [] (sub (B Qab) [1, 0, 0]) (Qaj 0 (retK Tryz.prog (R Qab) 3 (inlK (opAt (QaE (sub (B Qaa) [1, 1, 1, 0])) 4) ⟨fr 63 [(0, .rsl 42 0 8 0 jK wc), (1, vI wa), (2, .val (.fn Qae)), (6, vI 20), (7, vI jC), (8, vI wG), (10, vI 20), (23, .rsl 42 0 8 0 jK wc), (24, vI jC), (25, vI wa), (26, .val (.fn Qae))], [bx 55 [(3, some [.val (.list wk wi), .val (.list wh wg)]), (4, some [vS wj, vI wl, vI jT, vI jQ, vI jP, .val (.list jR jO)]), (5, some [vI jS, vS jU, vI jW, vI jZ, vI jN, vI jY, vI jV, vS jX, .val (.list j0 j5)]), (8, some [.row 42 wK])], bx 9 [], bx 63 []], KK⟩ (opsK Tryz.prog (C lb n) (I7 lb n) 2 (QaE (sub (B Qaa) [1, 1, 1, 0])) ((QaE (sub (B Qaa) [1, 1, 1, 0])).drop 5) ((seqK (E2 lb n 2 996) (sub (B Qaa) [1, 1, 1, 0]) (sub (B Qaa) [1, 1, 1, 1]) (retK Tryz.prog (R Qaa) 2 K)) .normal))))) w4) (Qaj 0 (retK Tryz.prog (R Qab) 3 (inlK (opAt (QaE (sub (B Qaa) [1, 1, 1, 0])) 4) ⟨fr 63 [(0, .rsl 42 0 8 0 jK wc), (1, vI wa), (2, .val (.fn Qae)), (6, vI 20), (7, vI jC), (8, vI wG), (10, vI 20), (23, .rsl 42 0 8 0 jK wc), (24, vI jC), (25, vI wa), (26, .val (.fn Qae))], [bx 55 [(3, some [.val (.list wk wi), .val (.list wh wg)]), (4, some [vS wj, vI wl, vI jT, vI jQ, vI jP, .val (.list jR jO)]), (5, some [vI jS, vS jU, vI jW, vI jZ, vI jN, vI jY, vI jV, vS jX, .val (.list j0 j5)]), (8, some [.row 42 wK])], bx 9 [], bx 63 []], KK⟩ (opsK Tryz.prog (C lb n) (I7 lb n) 2 (QaE (sub (B Qaa) [1, 1, 1, 0])) ((QaE (sub (B Qaa) [1, 1, 1, 0])).drop 5) ((seqK (E2 lb n 2 996) (sub (B Qaa) [1, 1, 1, 0]) (sub (B Qaa) [1, 1, 1, 1]) (retK Tryz.prog (R Qaa) 2 K)) .normal)))))) ⟨fr 53 [(0, .rsl 42 0 8 0 jK wc), (1, vI jC), (2, vI wa), (3, .val (.fn Qae)), (8, vI wU), (9, vI oJ), (10, vI jC), (11, .val (.int .i64 (IntKind.wrap .i64 (jC + 1))))], [bx 55 [(3, some [.val (.list wk wi), .val (.list wh wg)]), (4, some [vS wj, vI wl, vI jT, vI jQ, vI jP, .val (.list jR jO)]), (5, some [vI jS, vS jU, vI jW, vI jZ, vI jN, vI jY, vI jV, vS jX, .val (.list j0 j5)]), (8, some [.row 42 k6])], bx 9 [], bx 63 [], bx 53 []], KK⟩)
theorem QcN (lb n jK wc : Nat) (wa jC wG : Int) (wk : Bool) (wi : LL) (wh : Bool) (wg : LL) (wj : LB) (wl jT jQ jP : Int) (jR : Bool) (jO : LL) (jS : Int) (jU : LB) (jW jZ jN jY jV : Int) (jX : LB) (j0 : Bool) (j5 wK : LL) (K : AV → List (List (Option (List AV))) → Option CV) (w4 : Nat) (wU oJ : Int) (k6 : LL) :
 Qb2 lb n jK wc wa jC wG wk wi wh wg wj wl jT jQ jP jR jO jS jU jW jZ jN jY jV jX j0 j5 wK K w4 wU oJ k6 =
 Qbe lb n w4 jK wc wa jC wG wk wi wh wg wj wl jT jQ jP jR jO jS jU jW jZ jN jY jV jX j0 j5 wK K (IntKind.wrap .i64 (wU + 1)) k6 := (Qac _).trans (by kernel_rfl)
theorem QcE (lb n k8 jK wc : Nat) (wa jC wG : Int) (wk : Bool) (wi : LL) (wh : Bool) (wg : LL) (wj : LB) (wl jT jQ jP : Int) (jR : Bool) (jO : LL) (jS : Int) (jU : LB) (jW jZ jN jY jV : Int) (jX : LB) (j0 : Bool) (j5 wK : LL) (K : AV → List (List (Option (List AV))) → Option CV) (w4 : Nat) (wU i1143 : Int) (yB : LL) :
 Qbt lb n (k8 + 1) jK wc wa jC wG wk wi wh wg wj wl jT jQ jP jR jO jS jU jW jZ jN jY jV jX j0 j5 wK K w4 wU i1143 yB =
 bif (decide (i1143 > jC)) then
 (chkO ((decide (0 ≤ (i1143 : Int))) && (decide ((i1143 : Int) < ((jK : Nat) : Int)))) (
 optO (yB[0 + i1143.toNat]?) fun v8 =>
 optO (v8[0]?) fun nq =>
 optO (v8[1]?) fun ns =>
 optO (v8[2]?) fun m8 =>
 optO (v8[3]?) fun nC =>
 optO (v8[4]?) fun mL =>
 optO (v8[5]?) fun mZ =>
 chkO ((decide (0 ≤ ((IntKind.wrap .i64 (i1143 - 1)) : Int))) && (decide (((IntKind.wrap .i64 (i1143 - 1)) : Int) < ((jK : Nat) : Int)))) (
 optO (yB[0 + ((IntKind.wrap .i64 (i1143 - 1)).toNat)]?) fun ka =>
 optO (ka[0]?) fun m5 =>
 optO (ka[1]?) fun mJ =>
 optO (ka[2]?) fun nx =>
 optO (ka[3]?) fun nF =>
 optO (ka[4]?) fun m7 =>
 optO (ka[5]?) fun mV =>
 optO (C lb n Qae [.agg [nq, ns, m8, nC, mL, mZ], .agg [m5, mJ, nx, nF, m7, mV]]) fun mO =>
 optO (CV.asI .i64 mO) fun ni =>
 bif (decide (ni < 0)) then
 (chkO ((decide (0 ≤ ((IntKind.wrap .i64 (i1143 - 1)) : Int))) && (decide (((IntKind.wrap .i64 (i1143 - 1)) : Int) < ((jK : Nat) : Int)))) (
 optO (yB[0 + ((IntKind.wrap .i64 (i1143 - 1)).toNat)]?) fun v6 =>
 optO (v6[0]?) fun gt =>
 optO (v6[1]?) fun gk =>
 optO (v6[2]?) fun gn =>
 optO (v6[3]?) fun gy =>
 optO (v6[4]?) fun gi =>
 optO (v6[5]?) fun gw =>
 chkO ((decide (0 ≤ (i1143 : Int))) && (decide ((i1143 : Int) < ((jK : Nat) : Int)))) (
 optO (yB[0 + i1143.toNat]?) fun kb =>
 optO (kb[0]?) fun mQ =>
 optO (kb[1]?) fun nE =>
 optO (kb[2]?) fun na =>
 optO (kb[3]?) fun m9 =>
 optO (kb[4]?) fun mU =>
 optO (kb[5]?) fun mN =>
 chkO ((decide (0 ≤ (i1143 : Int))) && (decide ((i1143 : Int) < ((jK : Nat) : Int)))) (
 optO (yB[0 + i1143.toNat]?) fun c1208 =>
 chkO (decide ((6 : Nat) ≤ c1208.length)) (
 chkO ((decide (0 ≤ ((IntKind.wrap .i64 (i1143 - 1)) : Int))) && (decide (((IntKind.wrap .i64 (i1143 - 1)) : Int) < ((jK : Nat) : Int)))) (
 optO ((setN yB (0 + i1143.toNat) (Qbo c1208 0 [gt, gk, gn, gy, gi, gw]))[0 + ((IntKind.wrap .i64 (i1143 - 1)).toNat)]?) fun c1209 =>
 chkO (decide ((6 : Nat) ≤ c1209.length)) (
 Qbt lb n k8 jK wc wa jC wG wk wi wh wg wj wl jT jQ jP jR jO jS jU jW jZ jN jY jV jX j0 j5 wK K w4 wU (IntKind.wrap .i64 (i1143 - 1)) (setN (setN yB (0 + i1143.toNat) (Qbo c1208 0 [gt, gk, gn, gy, gi, gw])) (0 + ((IntKind.wrap .i64 (i1143 - 1)).toNat)) (Qbo c1209 0 [mQ, nE, na, m9, mU, mN])))))))))
 else
 (Qb2 lb n jK wc wa jC wG wk wi wh wg wj wl jT jQ jP jR jO jS jU jW jZ jN jY jV jX j0 j5 wK K w4 wU i1143 yB))))
 else
 (Qb2 lb n jK wc wa jC wG wk wi wh wg wj wl jT jQ jP jR jO jS jU jW jZ jN jY jV jX j0 j5 wK K w4 wU i1143 yB) := (Qac _).trans (by kernel_rfl)
noncomputable def Qbu (lb n v7 : Nat) (K : AV → List (List (Option (List AV))) → Option CV) (jK wc : Nat) (wa jC : Int) (wk : Bool) (wi : LL) (wh : Bool) (wg : LL) (wj : LB) (wl jT jQ jP : Int) (jR : Bool) (jO : LL) (jS : Int) (jU : LB) (jW jZ jN jY jV : Int) (jX : LB) (j0 : Bool) (j5 : LL) (yR oI oH : Int) (kG : LL) : Option CV :=
 hold (Qar (E2 lb n 2 994) 2 (Qad (sub (B Qaa) [1, 1, 1, 1, 0, 0]) ++ [9]) [] (sub (B Qaa) [1, 1, 1, 1, 0, 0]) (Qaj 2 (retK Tryz.prog (R Qaa) 2 K)) v7 ⟨fr 63 [(0, .rsl 42 0 8 0 jK wc), (1, vI wa), (2, .val (.fn Qae)), (6, vI yR), (7, vI oI), (8, vI oH), (10, vI 20), (23, .rsl 42 0 8 0 jK wc), (24, vI jC), (25, vI wa), (26, .val (.fn Qae)), (27, .val (.tup []))], [bx 55 [(3, some [.val (.list wk wi), .val (.list wh wg)]), (4, some [vS wj, vI wl, vI jT, vI jQ, vI jP, .val (.list jR jO)]), (5, some [vI jS, vS jU, vI jW, vI jZ, vI jN, vI jY, vI jV, vS jX, .val (.list j0 j5)]), (8, some [.row 42 kG])], bx 9 [], bx 63 []], KK⟩)
noncomputable def Qe6 (lb n nH : Nat) (K : AV → List (List (Option (List AV))) → Option CV) (v7 jK wc : Nat) (wa yR jC : Int) (wk : Bool) (wi : LL) (wh : Bool) (wg : LL) (wj : LB) (wl jT jQ jP : Int) (jR : Bool) (jO : LL) (jS : Int) (jU : LB) (jW jZ jN jY jV : Int) (jX : LB) (j0 : Bool) (j5 : LL) (nA nz : Int) (m6 : LL) : Option CV :=
 hold (Qar (E2 lb n 2 988) 2 (Qad (sub (B Qaa) [1, 1, 1, 1, 0, 0, 1, 0, 1, 0, 0, 0]) ++ []) [] (sub (B Qaa) [1, 1, 1, 1, 0, 0, 1, 0, 1, 0, 0, 0]) (Qaj 4 (seqK (E2 lb n 2 990) (sub (B Qaa) [1, 1, 1, 1, 0, 0, 1, 0, 1, 0]) (sub (B Qaa) [1, 1, 1, 1, 0, 0, 1, 0, 1, 1]) (Qaj 3 (QbK 2 (Qad (sub (B Qaa) [1, 1, 1, 1, 0, 0]) ++ [9]) [] (Qar (E2 lb n 2 994) 2 (Qad (sub (B Qaa) [1, 1, 1, 1, 0, 0]) ++ [9]) [] (sub (B Qaa) [1, 1, 1, 1, 0, 0]) (Qaj 2 (retK Tryz.prog (R Qaa) 2 K)) v7) (Qaj 2 (retK Tryz.prog (R Qaa) 2 K)))))) nH ⟨fr 63 [(0, .rsl 42 0 8 0 jK wc), (1, vI wa), (2, .val (.fn Qae)), (6, vI yR), (7, vI nA), (8, vI nz), (10, vI 20), (23, .rsl 42 0 8 0 jK wc), (24, vI jC), (25, vI wa), (26, .val (.fn Qae)), (27, .val (.tup [])), (31, vI yR), (32, .val (.int .i64 (IntKind.wrap .i64 (2 * yR))))], [bx 55 [(3, some [.val (.list wk wi), .val (.list wh wg)]), (4, some [vS wj, vI wl, vI jT, vI jQ, vI jP, .val (.list jR jO)]), (5, some [vI jS, vS jU, vI jW, vI jZ, vI jN, vI jY, vI jV, vS jX, .val (.list j0 j5)]), (8, some [.row 42 m6])], bx 9 [], bx 63 []], KK⟩)
theorem Qek (lb n v7 : Nat) (K : AV → List (List (Option (List AV))) → Option CV) (jK wc : Nat) (wa jC : Int) (wk : Bool) (wi : LL) (wh : Bool) (wg : LL) (wj : LB) (wl jT jQ jP : Int) (jR : Bool) (jO : LL) (jS : Int) (jU : LB) (jW jZ jN jY jV : Int) (jX : LB) (j0 : Bool) (j5 : LL) (yR oI oH : Int) (kG : LL) :
 Qbu lb n (v7 + 1) K jK wc wa jC wk wi wh wg wj wl jT jQ jP jR jO jS jU jW jZ jN jY jV jX j0 j5 yR oI oH kG =
 bif (decide (yR < wa)) then
 (Qe6 lb n n K v7 jK wc wa yR jC wk wi wh wg wj wl jT jQ jP jR jO jS jU jW jZ jN jY jV jX j0 j5 0 (IntKind.wrap .i64 (2 * yR)) kG)
 else
 (K (.val (.tup [])) [bx 55 [(3, some [.val (.list wk wi), .val (.list wh wg)]), (4, some [vS wj, vI wl, vI jT, vI jQ, vI jP, .val (.list jR jO)]), (5, some [vI jS, vS jU, vI jW, vI jZ, vI jN, vI jY, vI jV, vS jX, .val (.list j0 j5)]), (8, some [.row 42 kG])], bx 9 []]) := (Qac _).trans (by kernel_rfl)
theorem QcF (lb n w4 jK wc : Nat) (wa jC wG : Int) (wk : Bool) (wi : LL) (wh : Bool) (wg : LL) (wj : LB) (wl jT jQ jP : Int) (jR : Bool) (jO : LL) (jS : Int) (jU : LB) (jW jZ jN jY jV : Int) (jX : LB) (j0 : Bool) (j5 wK : LL) (K : AV → List (List (Option (List AV))) → Option CV) (wU : Int) (kF : LL) :
 Qbe lb n (w4 + 1) jK wc wa jC wG wk wi wh wg wj wl jT jQ jP jR jO jS jU jW jZ jN jY jV jX j0 j5 wK K wU kF =
 bif (decide (wU < wa)) then
 (Qbt lb n n jK wc wa jC wG wk wi wh wg wj wl jT jQ jP jR jO jS jU jW jZ jN jY jV jX j0 j5 wK K w4 wU wU kF)
 else
 (Qbu lb n n K jK wc wa jC wk wi wh wg wj wl jT jQ jP jR jO jS jU jW jZ jN jY jV jX j0 j5 20 jC wG kF) := (Qac _).trans (by kernel_rfl)
theorem QeJ (lb n : Nat) (K : AV → List (List (Option (List AV))) → Option CV) (jK wc : Nat) (wa : Int) (wk : Bool) (wi : LL) (wh : Bool) (wg : LL) (wj : LB) (wl jT jQ jP : Int) (jR : Bool) (jO : LL) (jS : Int) (jU : LB) (jW jZ jN jY jV : Int) (jX : LB) (j0 : Bool) (j5 : LL) (jC wG : Int) (wK : LL) :
 Qda lb n K jK wc wa wk wi wh wg wj wl jT jQ jP jR jO jS jU jW jZ jN jY jV jX j0 j5 jC wG wK =
 Qbe lb n n jK wc wa jC wG wk wi wh wg wj wl jT jQ jP jR jO jS jU jW jZ jN jY jV jX j0 j5 wK K (IntKind.wrap .i64 (jC + 1)) wK := (Qac _).trans (by kernel_rfl)
theorem Qel (lb n kM : Nat) (K : AV → List (List (Option (List AV))) → Option CV) (jK wc : Nat) (wa : Int) (wk : Bool) (wi : LL) (wh : Bool) (wg : LL) (wj : LB) (wl jT jQ jP : Int) (jR : Bool) (jO : LL) (jS : Int) (jU : LB) (jW jZ jN jY jV : Int) (jX : LB) (j0 : Bool) (j5 : LL) (yY vj : Int) (vL : LL) :
 Qb1 lb n (kM + 1) K jK wc wa wk wi wh wg wj wl jT jQ jP jR jO jS jU jW jZ jN jY jV jX j0 j5 yY vj vL =
 bif (decide (vj ≤ wa)) then
 (Qfk lb n n jK wc wa yY vj wk wi wh wg wj wl jT jQ jP jR jO jS jU jW jZ jN jY jV jX j0 j5 vL K kM (IntKind.wrap .i64 (yY + 1)) vL)
 else
 (Qda lb n K jK wc wa wk wi wh wg wj wl jT jQ jP jR jO jS jU jW jZ jN jY jV jX j0 j5 yY vj vL) := (Qac _).trans (by kernel_rfl)
theorem Qe4 (lb n : Nat) (K : AV → List (List (Option (List AV))) → Option CV) (jK wc : Nat) (wa : Int) (wk : Bool) (wi : LL) (wh : Bool) (wg : LL) (wj : LB) (wl jT jQ jP : Int) (jR : Bool) (jO : LL) (jS : Int) (jU : LB) (jW jZ jN jY jV : Int) (jX : LB) (j0 : Bool) (j5 oG : LL) :
 Qcf lb n K jK wc wa wk wi wh wg wj wl jT jQ jP jR jO jS jU jW jZ jN jY jV jX j0 j5 oG =
 Qb1 lb n n K jK wc wa wk wi wh wg wj wl jT jQ jP jR jO jS jU jW jZ jN jY jV jX j0 j5 0 20 oG := by kernel_rfl
theorem QmB (lb n : Nat) (js : LB) (jr jh jj ji : Int) (jq : Bool) (aleg7 : LL) (oF : LB) (od vw ko vR : Int) (oa : Bool) (oz : LL) :
 top lb n Qae [.agg [.str js, .int .i64 jr, .int .i64 jh, .int .i64 jj, .int .i64 ji, .list jq aleg7], .agg [.str oF, .int .i64 od, .int .i64 vw, .int .i64 ko, .int .i64 vR, .list oa oz]] =
 optO (C lb n Qf5 [.int .i64 jh, .int .i64 vw]) fun mH =>
 some (mH) := by kernel_rfl
theorem QnL (lb n : Nat) (a1 b2 : Int) :
 top lb n Qf5 [.int .i64 a1, .int .i64 b2] =
 optO (C lb n Qfs [.int .i64 a1]) fun r3 =>
 optO (C lb n Qfs [.int .i64 b2]) fun r4 =>
 optO (CV.asB r3) fun b5 =>
 bif b5 then
 (optO (CV.asB r4) fun b6 =>
 bif b6 then
 (some (.int .i64 0))
 else
 (some (.int .i64 (-1))))
 else
 (optO (CV.asB r4) fun b7 =>
 bif b7 then
 (some (.int .i64 1))
 else
 (bif (decide (a1 < b2)) then
 (some (.int .i64 (-1)))
 else
 (bif (decide (a1 > b2)) then
 (some (.int .i64 1))
 else
 (some (.int .i64 0))))) := by kernel_rfl
theorem Qps (lb n : Nat) (a1 : Int) :
 top lb n Qfs [.int .i64 a1] =
 some (.bool (a1 != a1)) := by kernel_rfl
end Go.Proofs
