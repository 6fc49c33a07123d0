/- Equations of functions, printed by program. Conditions: none. -/
import Derived.Test.YtdcpdknginpohaaGreatDoorEv
namespace Go.Proofs
open Go.Am
set_option maxRecDepth 100000
set_option linter.unusedVariables false
noncomputable def revision_split_L1 :=
 fun lb n (pB : Nat) (ja : Bool) (aair2 : LL) (jb : Bool) (adis4 : LL) bcar5 jg jd jf jc (je : Bool) (bleg12 : LL) wm ww wv jF j8 jE wq wp (wd : Bool) (wu : LL) kd (om : Bool × LL) =>
 hold (Qas (E0 lb n 0 994) 0 (Qad (sub (B Qan) [1, 1, 0, 1, 0, 0]) ++ []) [10, 11] (sub (B Qan) [1, 1, 0, 1, 0, 0]) (Qak 0 (seqK (E0 lb n 0 997) (sub (B Qan) [1, 1, 0]) (sub (B Qan) [1, 1, 1]) (retK Tryz.prog (R Qan) 0 (outK (Qaf Tryz.prog Qan))))) pB ⟨fr 55 [(0, .val (.agg [.list ja aair2, .list jb adis4])), (1, .val (.agg [.str bcar5, .int .i64 jg, .int .i64 jd, .int .i64 jf, .int .i64 jc, .list je bleg12])), (2, .val (.agg [.int .i64 wm, .str ww, .int .i64 wv, .int .i64 jF, .int .i64 j8, .int .i64 jE, .int .i64 wq, .str wp, .list wd wu])), (3, .ptr 0 3 0), (4, .ptr 0 4 0), (5, .ptr 0 5 0), (6, .lst true true 42 []), (7, vI 0), (8, .lst true true 42 []), (14, .ptr 0 4 2), (15, .val (.agg [.int .i64 jd, .int .i64 jf, .int .i64 jc])), (16, .ptr 0 5 3), (17, .val (.agg [.int .i64 jF, .int .i64 j8, .int .i64 jE])), (18, vV kd), (19, .val (.int .i64 (om.2.length : Int))), (20, vI 0)], [bx 55 [(3, some [.val (.list ja aair2), .val (.list jb adis4)]), (4, some [vS bcar5, vI jg, vI jd, vI jf, vI jc, .val (.list je bleg12)]), (5, some [vI wm, vS ww, vI wv, vI jF, vI j8, vI jE, vI wq, vS wp, .val (.list wd wu)])]], KK⟩)
noncomputable def Qem (lb n kb : Nat) (ja : Bool) (aair2 : LL) (jb : Bool) (adis4 : LL) (bcar5 : LB) (jg jd jf jc : Int) (je : Bool) (bleg12 : LL) (wm : Int) (ww : LB) (wv jF j8 jE wq : Int) (wp : LB) (wd : Bool) (wu : LL) (kd : CV) (om : Bool × LL) (gK pC : Nat) (oR : Int) (l46 : LL) : Option CV :=
 hold (Qas (E0 lb n 0 994) 0 (Qad (sub (B Qan) [1, 1, 0, 1, 0, 0]) ++ []) [10, 11] (sub (B Qan) [1, 1, 0, 1, 0, 0]) (Qak 0 (seqK (E0 lb n 0 997) (sub (B Qan) [1, 1, 0]) (sub (B Qan) [1, 1, 1]) (retK Tryz.prog (R Qan) 0 (outK (Qaf Tryz.prog Qan))))) kb ⟨fr 55 [(0, .val (.agg [.list ja aair2, .list jb adis4])), (1, .val (.agg [.str bcar5, .int .i64 jg, .int .i64 jd, .int .i64 jf, .int .i64 jc, .list je bleg12])), (2, .val (.agg [.int .i64 wm, .str ww, .int .i64 wv, .int .i64 jF, .int .i64 j8, .int .i64 jE, .int .i64 wq, .str wp, .list wd wu])), (3, .ptr 0 3 0), (4, .ptr 0 4 0), (5, .ptr 0 5 0), (6, .lst true true 42 []), (7, vI 0), (8, .rsl 42 0 8 0 gK pC), (14, .ptr 0 4 2), (15, .val (.agg [.int .i64 jd, .int .i64 jf, .int .i64 jc])), (16, .ptr 0 5 3), (17, .val (.agg [.int .i64 jF, .int .i64 j8, .int .i64 jE])), (18, vV kd), (19, .val (.int .i64 (om.2.length : Int))), (20, vI oR)], [bx 55 [(3, some [.val (.list ja aair2), .val (.list jb adis4)]), (4, some [vS bcar5, vI jg, vI jd, vI jf, vI jc, .val (.list je bleg12)]), (5, some [vI wm, vS ww, vI wv, vI jF, vI j8, vI jE, vI wq, vS wp, .val (.list wd wu)]), (8, some [.row 42 l46])]], KK⟩)
noncomputable def Qek (lb n : Nat) (ja : Bool) (aair2 : LL) (jb : Bool) (adis4 : LL) (bcar5 : LB) (jg jd jf jc : Int) (je : Bool) (bleg12 : LL) (wm : Int) (ww : LB) (wv jF j8 jE wq : Int) (wp : LB) (wd : Bool) (wu : LL) (yK oo : Nat) (l60 : LL) : Option CV :=
 hold (E0 lb n 0 997 (sub (B Qan) [1, 1, 1]) (retK Tryz.prog (R Qan) 0 (outK (Qaf Tryz.prog Qan))) ⟨fr 55 [(0, .val (.agg [.list ja aair2, .list jb adis4])), (1, .val (.agg [.str bcar5, .int .i64 jg, .int .i64 jd, .int .i64 jf, .int .i64 jc, .list je bleg12])), (2, .val (.agg [.int .i64 wm, .str ww, .int .i64 wv, .int .i64 jF, .int .i64 j8, .int .i64 jE, .int .i64 wq, .str wp, .list wd wu])), (3, .ptr 0 3 0), (4, .ptr 0 4 0), (5, .ptr 0 5 0), (6, .lst true true 42 []), (7, vI 0), (8, .rsl 42 0 8 0 yK oo)], [bx 55 [(3, some [.val (.list ja aair2), .val (.list jb adis4)]), (4, some [vS bcar5, vI jg, vI jd, vI jf, vI jc, .val (.list je bleg12)]), (5, some [vI wm, vS ww, vI wv, vI jF, vI j8, vI jE, vI wq, vS wp, .val (.list wd wu)]), (8, some [.row 42 l60])]], KK⟩)
noncomputable def Qbn (lb n : Nat) (K : AV → List (List (Option (List AV))) → Option CV) (jM wc : Nat) (wa : Int) (wk : Bool) (wg : LL) (wl : Bool) (wh : LL) (wj : LB) (wi jS jQ j5 : Int) (j6 : Bool) (jX : LL) (j0 : Int) (jT : LB) (jW jZ jP jV jY : Int) (jU : LB) (jO : Bool) (jR oB : LL) (wO wS wP wR wQ wT : CV) : Option CV :=
 I8 lb n Qaa [.rsl 42 0 8 0 jM wc, vI wa, .val (.fn Qae)] [bx 55 [(3, some [.val (.list wk wg), .val (.list wl wh)]), (4, some [vS wj, vI wi, vI jS, vI jQ, vI j5, .val (.list j6 jX)]), (5, some [vI j0, vS jT, vI jW, vI jZ, vI jP, vI jV, vI jY, vS jU, .val (.list jO jR)]), (8, some [.row 42 oB]), (12, some [.val wO, .val wS, .val wP, .val wR, .val wQ, .val wT])], bx 9 []] K
noncomputable def Qej (lb n yK : Nat) (ja : Bool) (aair2 : LL) (jb : Bool) (adis4 : LL) (bcar5 : LB) (jg jd jf jc : Int) (je : Bool) (bleg12 : LL) (wm : Int) (ww : LB) (wv jF j8 jE wq : Int) (wp : LB) (wd : Bool) (wu l60 : LL) (kS oe kG kL kB kO oW : CV) : AV → List (List (Option (List AV))) → Option CV :=
 (inlK (opAt (QaE (sub (B Qao) [])) 4) ⟨fr 9 [(0, .rsl 42 0 8 0 (yK + 1) (yK + 1)), (1, .val (.fn Qae)), (4, .rsl 42 0 8 0 (yK + 1) (yK + 1)), (5, .rsl 42 0 8 0 (yK + 1) (yK + 1)), (6, .val (.int .i64 ((yK + 1 : Nat) : Int))), (7, .val (.fn Qae))], [bx 55 [(3, some [.val (.list ja aair2), .val (.list jb adis4)]), (4, some [vS bcar5, vI jg, vI jd, vI jf, vI jc, .val (.list je bleg12)]), (5, some [vI wm, vS ww, vI wv, vI jF, vI j8, vI jE, vI wq, vS wp, .val (.list wd wu)]), (8, some [.row 42 (l60 ++ [[kS, oe, kG, kL, kB, kO]])]), (12, some [.val kS, .val oe, .val kG, .val kL, .val kB, .val kO])], bx 9 []], KK⟩ (opsK Tryz.prog (C lb n) (I8 lb n) 1 (QaE (sub (B Qao) [])) ((QaE (sub (B Qao) [])).drop 5) ((retK Tryz.prog (R Qao) 1 (inlK (opAt (QaE (sub (B Qan) [1, 1, 1, 1, 0])) 1) ⟨fr 55 [(0, .val (.agg [.list ja aair2, .list jb adis4])), (1, .val (.agg [.str bcar5, .int .i64 jg, .int .i64 jd, .int .i64 jf, .int .i64 jc, .list je bleg12])), (2, .val (.agg [.int .i64 wm, .str ww, .int .i64 wv, .int .i64 jF, .int .i64 j8, .int .i64 jE, .int .i64 wq, .str wp, .list wd wu])), (3, .ptr 0 3 0), (4, .ptr 0 4 0), (5, .ptr 0 5 0), (6, .lst true true 42 []), (7, vI 0), (8, .rsl 42 0 8 0 (yK + 1) (yK + 1)), (13, vV oW), (52, .rsl 42 0 8 0 (yK + 1) (yK + 1))], [bx 55 [(3, some [.val (.list ja aair2), .val (.list jb adis4)]), (4, some [vS bcar5, vI jg, vI jd, vI jf, vI jc, .val (.list je bleg12)]), (5, some [vI wm, vS ww, vI wv, vI jF, vI j8, vI jE, vI wq, vS wp, .val (.list wd wu)]), (8, some [.row 42 (l60 ++ [[kS, oe, kG, kL, kB, kO]])]), (12, some [.val kS, .val oe, .val kG, .val kL, .val kB, .val kO])]], KK⟩ (opsK Tryz.prog (C lb n) (I9 lb n) 0 (QaE (sub (B Qan) [1, 1, 1, 1, 0])) ((QaE (sub (B Qan) [1, 1, 1, 1, 0])).drop 2) ((seqK (E0 lb n 0 995) (sub (B Qan) [1, 1, 1, 1, 0]) (sub (B Qan) [1, 1, 1, 1, 1]) (retK Tryz.prog (R Qan) 0 (outK (Qaf Tryz.prog Qan)))) .normal)))) .normal)))
theorem Qls (lb n yK : Nat) (ja : Bool) (aair2 : LL) (jb : Bool) (adis4 : LL) (bcar5 : LB) (jg jd jf jc : Int) (je : Bool) (bleg12 : LL) (wm : Int) (ww : LB) (wv jF j8 jE wq : Int) (wp : LB) (wd : Bool) (wu l60 : LL) (kS oe kG kL kB kO oW : CV) (l75 : LL) (tA : Bool) :
 Qej lb n yK ja aair2 jb adis4 bcar5 jg jd jf jc je bleg12 wm ww wv jF j8 jE wq wp wd wu l60 kS oe kG kL kB kO oW (.val (.tup [])) [bx 55 [(3, some [.val (.list ja aair2), .val (.list jb adis4)]), (4, some [vS bcar5, vI jg, vI jd, vI jf, vI jc, .val (.list je bleg12)]), (5, some [vI wm, vS ww, vI wv, vI jF, vI j8, vI jE, vI wq, vS wp, .val (.list wd wu)]), (8, some [.row 42 l75]), (12, some [.val kS, .val oe, .val kG, .val kL, .val kB, .val kO])], bx 9 []] =
 chkO (decide ((0 + (yK + 1)) ≤ l75.length)) (
 some (.tup [.list false ((l75.drop 0).take (yK + 1)), .int .i64 0])) := by kernel_rfl
noncomputable def Qch (lb n : Nat) (K : AV → List (List (Option (List AV))) → Option CV) (jM wc : Nat) (wa : Int) (wk : Bool) (wg : LL) (wl : Bool) (wh : LL) (wj : LB) (wi jS jQ j5 : Int) (j6 : Bool) (jX : LL) (j0 : Int) (jT : LB) (jW jZ jP jV jY : Int) (jU : LB) (jO : Bool) (jR oB : LL) : Option CV :=
 I8 lb n Qaa [.rsl 42 0 8 0 jM wc, vI wa, .val (.fn Qae)] [bx 55 [(3, some [.val (.list wk wg), .val (.list wl wh)]), (4, some [vS wj, vI wi, vI jS, vI jQ, vI j5, .val (.list j6 jX)]), (5, some [vI j0, vS jT, vI jW, vI jZ, vI jP, vI jV, vI jY, vS jU, .val (.list jO jR)]), (8, some [.row 42 oB])], bx 9 []] K
noncomputable def Qeo (lb n yK oo : Nat) (ja : Bool) (aair2 : LL) (jb : Bool) (adis4 : LL) (bcar5 : LB) (jg jd jf jc : Int) (je : Bool) (bleg12 : LL) (wm : Int) (ww : LB) (wv jF j8 jE wq : Int) (wp : LB) (wd : Bool) (wu l60 : LL) : AV → List (List (Option (List AV))) → Option CV :=
 (inlK (opAt (QaE (sub (B Qao) [])) 4) ⟨fr 9 [(0, .rsl 42 0 8 0 yK oo), (1, .val (.fn Qae)), (4, .rsl 42 0 8 0 yK oo), (5, .rsl 42 0 8 0 yK oo), (6, .val (.int .i64 ((yK : Nat) : Int))), (7, .val (.fn Qae))], [bx 55 [(3, some [.val (.list ja aair2), .val (.list jb adis4)]), (4, some [vS bcar5, vI jg, vI jd, vI jf, vI jc, .val (.list je bleg12)]), (5, some [vI wm, vS ww, vI wv, vI jF, vI j8, vI jE, vI wq, vS wp, .val (.list wd wu)]), (8, some [.row 42 l60])], bx 9 []], KK⟩ (opsK Tryz.prog (C lb n) (I8 lb n) 1 (QaE (sub (B Qao) [])) ((QaE (sub (B Qao) [])).drop 5) ((retK Tryz.prog (R Qao) 1 (inlK (opAt (QaE (sub (B Qan) [1, 1, 1, 1, 0])) 1) ⟨fr 55 [(0, .val (.agg [.list ja aair2, .list jb adis4])), (1, .val (.agg [.str bcar5, .int .i64 jg, .int .i64 jd, .int .i64 jf, .int .i64 jc, .list je bleg12])), (2, .val (.agg [.int .i64 wm, .str ww, .int .i64 wv, .int .i64 jF, .int .i64 j8, .int .i64 jE, .int .i64 wq, .str wp, .list wd wu])), (3, .ptr 0 3 0), (4, .ptr 0 4 0), (5, .ptr 0 5 0), (6, .lst true true 42 []), (7, vI 0), (8, .rsl 42 0 8 0 yK oo), (52, .rsl 42 0 8 0 yK oo)], [bx 55 [(3, some [.val (.list ja aair2), .val (.list jb adis4)]), (4, some [vS bcar5, vI jg, vI jd, vI jf, vI jc, .val (.list je bleg12)]), (5, some [vI wm, vS ww, vI wv, vI jF, vI j8, vI jE, vI wq, vS wp, .val (.list wd wu)]), (8, some [.row 42 l60])]], KK⟩ (opsK Tryz.prog (C lb n) (I9 lb n) 0 (QaE (sub (B Qan) [1, 1, 1, 1, 0])) ((QaE (sub (B Qan) [1, 1, 1, 1, 0])).drop 2) ((seqK (E0 lb n 0 995) (sub (B Qan) [1, 1, 1, 1, 0]) (sub (B Qan) [1, 1, 1, 1, 1]) (retK Tryz.prog (R Qan) 0 (outK (Qaf Tryz.prog Qan)))) .normal)))) .normal)))
theorem Qlx (lb n yK oo : Nat) (ja : Bool) (aair2 : LL) (jb : Bool) (adis4 : LL) (bcar5 : LB) (jg jd jf jc : Int) (je : Bool) (bleg12 : LL) (wm : Int) (ww : LB) (wv jF j8 jE wq : Int) (wp : LB) (wd : Bool) (wu l60 l77 : LL) (tB : Bool) :
 Qeo lb n yK oo ja aair2 jb adis4 bcar5 jg jd jf jc je bleg12 wm ww wv jF j8 jE wq wp wd wu l60 (.val (.tup [])) [bx 55 [(3, some [.val (.list ja aair2), .val (.list jb adis4)]), (4, some [vS bcar5, vI jg, vI jd, vI jf, vI jc, .val (.list je bleg12)]), (5, some [vI wm, vS ww, vI wv, vI jF, vI j8, vI jE, vI wq, vS wp, .val (.list wd wu)]), (8, some [.row 42 l77])], bx 9 []] =
 chkO (decide ((0 + yK) ≤ l77.length)) (
 some (.tup [.list false ((l77.drop 0).take yK), .int .i64 0])) := by kernel_rfl
theorem QlF (lb n : Nat) (ja : Bool) (aair2 : LL) (jb : Bool) (adis4 : LL) (bcar5 : LB) (jg jd jf jc : Int) (je : Bool) (bleg12 : LL) (wm : Int) (ww : LB) (wv jF j8 jE wq : Int) (wp : LB) (wd : Bool) (wu : LL) (yK oo : Nat) (l60 : LL) :
 Qek lb n ja aair2 jb adis4 bcar5 jg jd jf jc je bleg12 wm ww wv jF j8 jE wq wp wd wu yK oo l60 =
 bif (wm != 2) then
 (optO (C lb n Qau [.agg [.str bcar5, .int .i64 jg, .int .i64 jd, .int .i64 jf, .int .i64 jc, .list je bleg12], .agg [.int .i64 wm, .str ww, .int .i64 wv, .int .i64 jF, .int .i64 j8, .int .i64 jE, .int .i64 wq, .str wp, .list wd wu]]) fun lC =>
 optO (CV.asA lC) fun c62 =>
 chkO (c62.length == 6) (
 optO (c62[0]?) fun kS =>
 optO (c62[1]?) fun oe =>
 optO (c62[2]?) fun kG =>
 optO (c62[3]?) fun kL =>
 optO (c62[4]?) fun kB =>
 optO (c62[5]?) fun kO =>
 optO (C lb n Qai [.agg [.list ja aair2, .list jb adis4], .agg [kS, oe, kG, kL, kB, kO]]) fun oW =>
 optO (CV.asL oW) fun tn =>
 bif (decide ((tn.2.length : Int) > 0)) then
 (optO (CV.asL oW) fun gj =>
 optO (atL gj.2 0) fun c73 =>
 chkO (c73.length == 2) (
 optO (c73[0]?) fun rN =>
 some (.tup [.list true [], rN])))
 else
 (chkO (decide (yK = l60.length)) (
 chkO (room (yK + 1) 72) (
 Qbn lb n (Qej lb n yK ja aair2 jb adis4 bcar5 jg jd jf jc je bleg12 wm ww wv jF j8 jE wq wp wd wu l60 kS oe kG kL kB kO oW) (yK + 1) (yK + 1) ((yK + 1 : Nat) : Int) ja aair2 jb adis4 bcar5 jg jd jf jc je bleg12 wm ww wv jF j8 jE wq wp wd wu (l60 ++ [[kS, oe, kG, kL, kB, kO]]) kS oe kG kL kB kO)))))
 else
 (Qch lb n (Qeo lb n yK oo ja aair2 jb adis4 bcar5 jg jd jf jc je bleg12 wm ww wv jF j8 jE wq wp wd wu l60) yK oo ((yK : Nat) : Int) ja aair2 jb adis4 bcar5 jg jd jf jc je bleg12 wm ww wv jF j8 jE wq wp wd wu l60) := (Qac _).trans (by kernel_rfl)
theorem Qf6 (lb n kb : Nat) (ja : Bool) (aair2 : LL) (jb : Bool) (adis4 : LL) (bcar5 : LB) (jg jd jf jc : Int) (je : Bool) (bleg12 : LL) (wm : Int) (ww : LB) (wv jF j8 jE wq : Int) (wp : LB) (wd : Bool) (wu : LL) (kd : CV) (om : Bool × LL) (gK pC : Nat) (oR : Int) (l46 : LL) :
 Qem lb n (kb + 1) ja aair2 jb adis4 bcar5 jg jd jf jc je bleg12 wm ww wv jF j8 jE wq wp wd wu kd om gK pC oR l46 =
 bif (decide (oR < (om.2.length : Int))) then
 (optO (CV.asL kd) fun r8 =>
 optO (atL r8.2 oR) fun c54 =>
 chkO (c54.length == 3) (
 optO (c54[0]?) fun vc =>
 optO (c54[1]?) fun vu =>
 optO (c54[2]?) fun ka =>
 chkO (decide (gK = l46.length)) (
 chkO (room (gK + 1) 72) (
 Qem lb n kb ja aair2 jb adis4 bcar5 jg jd jf jc je bleg12 wm ww wv jF j8 jE wq wp wd wu kd om (gK + 1) (gK + 1) (IntKind.wrap .i64 (oR + 1)) (l46 ++ [[CV.str bcar5, CV.int .i64 jg, vc, vu, ka, CV.list je bleg12]])))))
 else
 (Qek lb n ja aair2 jb adis4 bcar5 jg jd jf jc je bleg12 wm ww wv jF j8 jE wq wp wd wu gK pC l46) := (Qac _).trans (by kernel_rfl)
noncomputable def QfY (lb n : Nat) (ja : Bool) (aair2 : LL) (jb : Bool) (adis4 : LL) (bcar5 : LB) (jg jd jf jc : Int) (je : Bool) (bleg12 : LL) (wm : Int) (ww : LB) (wv jF j8 jE wq : Int) (wp : LB) (wd : Bool) (wu : LL) : Option CV :=
 hold (E0 lb n 0 997 (sub (B Qan) [1, 1, 1]) (retK Tryz.prog (R Qan) 0 (outK (Qaf Tryz.prog Qan))) ⟨fr 55 [(0, .val (.agg [.list ja aair2, .list jb adis4])), (1, .val (.agg [.str bcar5, .int .i64 jg, .int .i64 jd, .int .i64 jf, .int .i64 jc, .list je bleg12])), (2, .val (.agg [.int .i64 wm, .str ww, .int .i64 wv, .int .i64 jF, .int .i64 j8, .int .i64 jE, .int .i64 wq, .str wp, .list wd wu])), (3, .ptr 0 3 0), (4, .ptr 0 4 0), (5, .ptr 0 5 0), (6, .lst true true 42 []), (7, vI 0), (8, .lst true true 42 [])], [bx 55 [(3, some [.val (.list ja aair2), .val (.list jb adis4)]), (4, some [vS bcar5, vI jg, vI jd, vI jf, vI jc, .val (.list je bleg12)]), (5, some [vI wm, vS ww, vI wv, vI jF, vI j8, vI jE, vI wq, vS wp, .val (.list wd wu)])]], KK⟩)
noncomputable def Qeq (lb n : Nat) (ja : Bool) (aair2 : LL) (jb : Bool) (adis4 : LL) (bcar5 : LB) (jg jd jf jc : Int) (je : Bool) (bleg12 : LL) (wm : Int) (ww : LB) (wv jF j8 jE wq : Int) (wp : LB) (wd : Bool) (wu : LL) (oI oJ kT kV ou oH o5 : CV) : AV → List (List (Option (List AV))) → Option CV :=
 (inlK (opAt (QaE (sub (B Qao) [])) 4) ⟨fr 9 [(0, .rsl 42 0 8 0 1 1), (1, .val (.fn Qae)), (4, .rsl 42 0 8 0 1 1), (5, .rsl 42 0 8 0 1 1), (6, vI 1), (7, .val (.fn Qae))], [bx 55 [(3, some [.val (.list ja aair2), .val (.list jb adis4)]), (4, some [vS bcar5, vI jg, vI jd, vI jf, vI jc, .val (.list je bleg12)]), (5, some [vI wm, vS ww, vI wv, vI jF, vI j8, vI jE, vI wq, vS wp, .val (.list wd wu)]), (8, some [.row 42 [[oI, oJ, kT, kV, ou, oH]]]), (12, some [.val oI, .val oJ, .val kT, .val kV, .val ou, .val oH])], bx 9 []], KK⟩ (opsK Tryz.prog (C lb n) (I8 lb n) 1 (QaE (sub (B Qao) [])) ((QaE (sub (B Qao) [])).drop 5) ((retK Tryz.prog (R Qao) 1 (inlK (opAt (QaE (sub (B Qan) [1, 1, 1, 1, 0])) 1) ⟨fr 55 [(0, .val (.agg [.list ja aair2, .list jb adis4])), (1, .val (.agg [.str bcar5, .int .i64 jg, .int .i64 jd, .int .i64 jf, .int .i64 jc, .list je bleg12])), (2, .val (.agg [.int .i64 wm, .str ww, .int .i64 wv, .int .i64 jF, .int .i64 j8, .int .i64 jE, .int .i64 wq, .str wp, .list wd wu])), (3, .ptr 0 3 0), (4, .ptr 0 4 0), (5, .ptr 0 5 0), (6, .lst true true 42 []), (7, vI 0), (8, .rsl 42 0 8 0 1 1), (13, vV o5), (52, .rsl 42 0 8 0 1 1)], [bx 55 [(3, some [.val (.list ja aair2), .val (.list jb adis4)]), (4, some [vS bcar5, vI jg, vI jd, vI jf, vI jc, .val (.list je bleg12)]), (5, some [vI wm, vS ww, vI wv, vI jF, vI j8, vI jE, vI wq, vS wp, .val (.list wd wu)]), (8, some [.row 42 [[oI, oJ, kT, kV, ou, oH]]]), (12, some [.val oI, .val oJ, .val kT, .val kV, .val ou, .val oH])]], KK⟩ (opsK Tryz.prog (C lb n) (I9 lb n) 0 (QaE (sub (B Qan) [1, 1, 1, 1, 0])) ((QaE (sub (B Qan) [1, 1, 1, 1, 0])).drop 2) ((seqK (E0 lb n 0 995) (sub (B Qan) [1, 1, 1, 1, 0]) (sub (B Qan) [1, 1, 1, 1, 1]) (retK Tryz.prog (R Qan) 0 (outK (Qaf Tryz.prog Qan)))) .normal)))) .normal)))
theorem QlR (lb n : Nat) (ja : Bool) (aair2 : LL) (jb : Bool) (adis4 : LL) (bcar5 : LB) (jg jd jf jc : Int) (je : Bool) (bleg12 : LL) (wm : Int) (ww : LB) (wv jF j8 jE wq : Int) (wp : LB) (wd : Bool) (wu : LL) (oI oJ kT kV ou oH o5 : CV) (l92 : LL) (nJ : Bool) :
 Qeq lb n ja aair2 jb adis4 bcar5 jg jd jf jc je bleg12 wm ww wv jF j8 jE wq wp wd wu oI oJ kT kV ou oH o5 (.val (.tup [])) [bx 55 [(3, some [.val (.list ja aair2), .val (.list jb adis4)]), (4, some [vS bcar5, vI jg, vI jd, vI jf, vI jc, .val (.list je bleg12)]), (5, some [vI wm, vS ww, vI wv, vI jF, vI j8, vI jE, vI wq, vS wp, .val (.list wd wu)]), (8, some [.row 42 l92]), (12, some [.val oI, .val oJ, .val kT, .val kV, .val ou, .val oH])], bx 9 []] =
 chkO (decide ((1 : Nat) ≤ l92.length)) (
 some (.tup [.list false ((l92.drop 0).take 1), .int .i64 0])) := by kernel_rfl
theorem Qlw (lb n : Nat) (ja : Bool) (aair2 : LL) (jb : Bool) (adis4 : LL) (bcar5 : LB) (jg jd jf jc : Int) (je : Bool) (bleg12 : LL) (wm : Int) (ww : LB) (wv jF j8 jE wq : Int) (wp : LB) (wd : Bool) (wu : LL) :
 QfY lb n ja aair2 jb adis4 bcar5 jg jd jf jc je bleg12 wm ww wv jF j8 jE wq wp wd wu =
 bif (wm != 2) then
 (optO (C lb n Qau [.agg [.str bcar5, .int .i64 jg, .int .i64 jd, .int .i64 jf, .int .i64 jc, .list je bleg12], .agg [.int .i64 wm, .str ww, .int .i64 wv, .int .i64 jF, .int .i64 j8, .int .i64 jE, .int .i64 wq, .str wp, .list wd wu]]) fun rn =>
 optO (CV.asA rn) fun c80 =>
 chkO (c80.length == 6) (
 optO (c80[0]?) fun oI =>
 optO (c80[1]?) fun oJ =>
 optO (c80[2]?) fun kT =>
 optO (c80[3]?) fun kV =>
 optO (c80[4]?) fun ou =>
 optO (c80[5]?) fun oH =>
 optO (C lb n Qai [.agg [.list ja aair2, .list jb adis4], .agg [oI, oJ, kT, kV, ou, oH]]) fun o5 =>
 optO (CV.asL o5) fun lF =>
 bif (decide ((lF.2.length : Int) > 0)) then
 (optO (CV.asL o5) fun lO =>
 optO (atL lO.2 0) fun c90 =>
 chkO (c90.length == 2) (
 optO (c90[0]?) fun lX =>
 some (.tup [.list true [], lX])))
 else
 (Qbn lb n (Qeq lb n ja aair2 jb adis4 bcar5 jg jd jf jc je bleg12 wm ww wv jF j8 jE wq wp wd wu oI oJ kT kV ou oH o5) 1 1 1 ja aair2 jb adis4 bcar5 jg jd jf jc je bleg12 wm ww wv jF j8 jE wq wp wd wu [[oI, oJ, kT, kV, ou, oH]] oI oJ kT kV ou oH)))
 else
 (optO (C lb n Qao [.list true [], .fn Qae]) fun tz =>
 some (.tup [.list true [], .int .i64 0])) := (Qac _).trans (by kernel_rfl)
theorem Qky (lb n pB : Nat) (ja : Bool) (aair2 : LL) (jb : Bool) (adis4 : LL) (bcar5 : LB) (jg jd jf jc : Int) (je : Bool) (bleg12 : LL) (wm : Int) (ww : LB) (wv jF j8 jE wq : Int) (wp : LB) (wd : Bool) (wu : LL) (kd : CV) (om : Bool × LL) :
 revision_split_L1 lb n (pB + 1) ja aair2 jb adis4 bcar5 jg jd jf jc je bleg12 wm ww wv jF j8 jE wq wp wd wu kd om =
 bif (decide ((0 : Int) < (om.2.length : Int))) then
 (optO (CV.asL kd) fun rS =>
 optO (atL rS.2 0) fun c34 =>
 chkO (c34.length == 3) (
 optO (c34[0]?) fun yC =>
 optO (c34[1]?) fun yL =>
 optO (c34[2]?) fun yE =>
 Qem lb n pB ja aair2 jb adis4 bcar5 jg jd jf jc je bleg12 wm ww wv jF j8 jE wq wp wd wu kd om 1 1 1 [[CV.str bcar5, CV.int .i64 jg, yC, yL, yE, CV.list je bleg12]]))
 else
 (QfY lb n ja aair2 jb adis4 bcar5 jg jd jf jc je bleg12 wm ww wv jF j8 jE wq wp wd wu ) := (Qac _).trans (by kernel_rfl)
theorem Qn7 (lb n : Nat) (ja : Bool) (aair2 : LL) (jb : Bool) (adis4 : LL) (bcar5 : LB) (jg jd jf jc : Int) (je : Bool) (bleg12 : LL) (wm : Int) (ww : LB) (wv jF j8 jE wq : Int) (wp : LB) (wd : Bool) (wu : LL) :
 top lb n Qan [.agg [.list ja aair2, .list jb adis4], .agg [.str bcar5, .int .i64 jg, .int .i64 jd, .int .i64 jf, .int .i64 jc, .list je bleg12], .agg [.int .i64 wm, .str ww, .int .i64 wv, .int .i64 jF, .int .i64 j8, .int .i64 jE, .int .i64 wq, .str wp, .list wd wu]] =
 optO (C lb n Qbq [.agg [.int .i64 jd, .int .i64 jf, .int .i64 jc], .agg [.int .i64 jF, .int .i64 j8, .int .i64 jE]]) fun kd =>
 optO (CV.asL kd) fun om =>
 revision_split_L1 lb n n ja aair2 jb adis4 bcar5 jg jd jf jc je bleg12 wm ww wv jF j8 jE wq wp wd wu kd om  := by kernel_rfl
noncomputable def Qca (lb n kK : Nat) (K : AV → List (List (Option (List AV))) → Option CV) (jM wc : Nat) (wa : Int) (wk : Bool) (wg : LL) (wl : Bool) (wh : LL) (wj : LB) (wi jS jQ j5 : Int) (j6 : Bool) (jX : LL) (j0 : Int) (jT : LB) (jW jZ jP jV jY : Int) (jU : LB) (jO : Bool) (jR : LL) (wO wS wP wR wQ wT : CV) (yW vf : Int) (vM : LL) : Option CV :=
 hold (Qas (E2 lb n 2 995) 2 (Qad (sub (B Qaa) [1, 1, 0, 0, 0]) ++ []) [] (sub (B Qaa) [1, 1, 0, 0, 0]) (Qak 0 (seqK (E2 lb n 2 997) (sub (B Qaa) [1, 1, 0]) (sub (B Qaa) [1, 1, 1]) (retK Tryz.prog (R Qaa) 2 K))) kK ⟨fr 63 [(0, .rsl 42 0 8 0 jM wc), (1, vI wa), (2, .val (.fn Qae)), (6, vI 20), (7, vI yW), (8, vI vf), (10, vI 20)], [bx 55 [(3, some [.val (.list wk wg), .val (.list wl wh)]), (4, some [vS wj, vI wi, vI jS, vI jQ, vI j5, .val (.list j6 jX)]), (5, some [vI j0, vS jT, vI jW, vI jZ, vI jP, vI jV, vI jY, vS jU, .val (.list jO jR)]), (8, some [.row 42 vM]), (12, some [.val wO, .val wS, .val wP, .val wR, .val wQ, .val wT])], bx 9 [], bx 63 []], KK⟩)
noncomputable def QfJ (lb n pd jM wc : Nat) (wa yW vf : Int) (wk : Bool) (wg : LL) (wl : Bool) (wh : LL) (wj : LB) (wi jS jQ j5 : Int) (j6 : Bool) (jX : LL) (j0 : Int) (jT : LB) (jW jZ jP jV jY : Int) (jU : LB) (jO : Bool) (jR vM : LL) (wO wS wP wR wQ wT : CV) (K : AV → List (List (Option (List AV))) → Option CV) (kK : Nat) (pi : Int) (n3 : LL) : Option CV :=
 hold (Qas (E3 lb n 3 997) 3 (Qad (sub (B Qab) [1, 0, 0]) ++ [9, 9]) [] (sub (B Qab) [1, 0, 0]) (Qak 0 (retK Tryz.prog (R Qab) 3 (inlK (opAt (QaE (sub (B Qaa) [1, 1, 0, 0, 0, 1, 0, 0])) 4) ⟨fr 63 [(0, .rsl 42 0 8 0 jM wc), (1, vI wa), (2, .val (.fn Qae)), (6, vI 20), (7, vI yW), (8, vI vf), (10, vI 20), (14, .rsl 42 0 8 0 jM wc), (15, vI yW), (16, vI vf), (17, .val (.fn Qae))], [bx 55 [(3, some [.val (.list wk wg), .val (.list wl wh)]), (4, some [vS wj, vI wi, vI jS, vI jQ, vI j5, .val (.list j6 jX)]), (5, some [vI j0, vS jT, vI jW, vI jZ, vI jP, vI jV, vI jY, vS jU, .val (.list jO jR)]), (8, some [.row 42 vM]), (12, some [.val wO, .val wS, .val wP, .val wR, .val wQ, .val wT])], bx 9 [], bx 63 []], KK⟩ (opsK Tryz.prog (C lb n) (I7 lb n) 2 (QaE (sub (B Qaa) [1, 1, 0, 0, 0, 1, 0, 0])) ((QaE (sub (B Qaa) [1, 1, 0, 0, 0, 1, 0, 0])).drop 5) ((seqK (E2 lb n 2 992) (sub (B Qaa) [1, 1, 0, 0, 0, 1, 0, 0]) (sub (B Qaa) [1, 1, 0, 0, 0, 1, 0, 1]) (Qak 1 (QbH 2 (Qad (sub (B Qaa) [1, 1, 0, 0, 0]) ++ []) [] (Qas (E2 lb n 2 995) 2 (Qad (sub (B Qaa) [1, 1, 0, 0, 0]) ++ []) [] (sub (B Qaa) [1, 1, 0, 0, 0]) (Qak 0 (seqK (E2 lb n 2 997) (sub (B Qaa) [1, 1, 0]) (sub (B Qaa) [1, 1, 1]) (retK Tryz.prog (R Qaa) 2 K))) kK) (Qak 0 (seqK (E2 lb n 2 997) (sub (B Qaa) [1, 1, 0]) (sub (B Qaa) [1, 1, 1]) (retK Tryz.prog (R Qaa) 2 K)))))) .normal))))) pd ⟨fr 53 [(0, .rsl 42 0 8 0 jM wc), (1, vI yW), (2, vI vf), (3, .val (.fn Qae)), (8, vI pi), (10, vI yW), (11, .val (.int .i64 (IntKind.wrap .i64 (yW + 1))))], [bx 55 [(3, some [.val (.list wk wg), .val (.list wl wh)]), (4, some [vS wj, vI wi, vI jS, vI jQ, vI j5, .val (.list j6 jX)]), (5, some [vI j0, vS jT, vI jW, vI jZ, vI jP, vI jV, vI jY, vS jU, .val (.list jO jR)]), (8, some [.row 42 n3]), (12, some [.val wO, .val wS, .val wP, .val wR, .val wQ, .val wT])], bx 9 [], bx 63 [], bx 53 []], KK⟩)
noncomputable def Qdn (lb n : Nat) (K : AV → List (List (Option (List AV))) → Option CV) (jM wc : Nat) (wa : Int) (wk : Bool) (wg : LL) (wl : Bool) (wh : LL) (wj : LB) (wi jS jQ j5 : Int) (j6 : Bool) (jX : LL) (j0 : Int) (jT : LB) (jW jZ jP jV jY : Int) (jU : LB) (jO : Bool) (jR : LL) (wO wS wP wR wQ wT : CV) (jC wG : Int) (wJ : LL) : Option CV :=
 hold (E2 lb n 2 997 (sub (B Qaa) [1, 1, 1]) (retK Tryz.prog (R Qaa) 2 K) ⟨fr 63 [(0, .rsl 42 0 8 0 jM wc), (1, vI wa), (2, .val (.fn Qae)), (6, vI 20), (7, vI jC), (8, vI wG), (10, vI 20)], [bx 55 [(3, some [.val (.list wk wg), .val (.list wl wh)]), (4, some [vS wj, vI wi, vI jS, vI jQ, vI j5, .val (.list j6 jX)]), (5, some [vI j0, vS jT, vI jW, vI jZ, vI jP, vI jV, vI jY, vS jU, .val (.list jO jR)]), (8, some [.row 42 wJ]), (12, some [.val wO, .val wS, .val wP, .val wR, .val wQ, .val wT])], bx 9 [], bx 63 []], KK⟩)
noncomputable def Qbg (lb n w4 jM wc : Nat) (wa jC wG : Int) (wk : Bool) (wg : LL) (wl : Bool) (wh : LL) (wj : LB) (wi jS jQ j5 : Int) (j6 : Bool) (jX : LL) (j0 : Int) (jT : LB) (jW jZ jP jV jY : Int) (jU : LB) (jO : Bool) (jR wJ : LL) (wO wS wP wR wQ wT : CV) (K : AV → List (List (Option (List AV))) → Option CV) (wU : Int) (kC : LL) : Option CV :=
 hold (Qas (E3 lb n 3 997) 3 (Qad (sub (B Qab) [1, 0, 0]) ++ [9, 9]) [] (sub (B Qab) [1, 0, 0]) (Qak 0 (retK Tryz.prog (R Qab) 3 (inlK (opAt (QaE (sub (B Qaa) [1, 1, 1, 0])) 4) ⟨fr 63 [(0, .rsl 42 0 8 0 jM wc), (1, vI wa), (2, .val (.fn Qae)), (6, vI 20), (7, vI jC), (8, vI wG), (10, vI 20), (23, .rsl 42 0 8 0 jM wc), (24, vI jC), (25, vI wa), (26, .val (.fn Qae))], [bx 55 [(3, some [.val (.list wk wg), .val (.list wl wh)]), (4, some [vS wj, vI wi, vI jS, vI jQ, vI j5, .val (.list j6 jX)]), (5, some [vI j0, vS jT, vI jW, vI jZ, vI jP, vI jV, vI jY, vS jU, .val (.list jO jR)]), (8, some [.row 42 wJ]), (12, some [.val wO, .val wS, .val wP, .val wR, .val wQ, .val wT])], bx 9 [], bx 63 []], KK⟩ (opsK Tryz.prog (C lb n) (I7 lb n) 2 (QaE (sub (B Qaa) [1, 1, 1, 0])) ((QaE (sub (B Qaa) [1, 1, 1, 0])).drop 5) ((seqK (E2 lb n 2 996) (sub (B Qaa) [1, 1, 1, 0]) (sub (B Qaa) [1, 1, 1, 1]) (retK Tryz.prog (R Qaa) 2 K)) .normal))))) w4 ⟨fr 53 [(0, .rsl 42 0 8 0 jM wc), (1, vI jC), (2, vI wa), (3, .val (.fn Qae)), (8, vI wU), (10, vI jC), (11, .val (.int .i64 (IntKind.wrap .i64 (jC + 1))))], [bx 55 [(3, some [.val (.list wk wg), .val (.list wl wh)]), (4, some [vS wj, vI wi, vI jS, vI jQ, vI j5, .val (.list j6 jX)]), (5, some [vI j0, vS jT, vI jW, vI jZ, vI jP, vI jV, vI jY, vS jU, .val (.list jO jR)]), (8, some [.row 42 kC]), (12, some [.val wO, .val wS, .val wP, .val wR, .val wQ, .val wT])], bx 9 [], bx 63 [], bx 53 []], KK⟩)
noncomputable def QbC (lb n kW jM wc : Nat) (wa jC wG : Int) (wk : Bool) (wg : LL) (wl : Bool) (wh : LL) (wj : LB) (wi jS jQ j5 : Int) (j6 : Bool) (jX : LL) (j0 : Int) (jT : LB) (jW jZ jP jV jY : Int) (jU : LB) (jO : Bool) (jR wJ : LL) (wO wS wP wR wQ wT : CV) (K : AV → List (List (Option (List AV))) → Option CV) (w4 : Nat) (wU i1143 : Int) (yB : LL) : Option CV :=
 hold (Qas (E3 lb n 3 991) 3 (Qad (sub (B Qab) [1, 0, 0, 1, 0, 0, 1, 0, 0]) ++ []) [] (sub (B Qab) [1, 0, 0, 1, 0, 0, 1, 0, 0]) (Qak 2 (Qak 1 (seqK (E3 lb n 3 995) (sub (B Qab) [1, 0, 0, 1, 0]) (sub (B Qab) [1, 0, 0, 1, 1]) (QbH 3 (Qad (sub (B Qab) [1, 0, 0]) ++ [9, 9]) [] (Qas (E3 lb n 3 997) 3 (Qad (sub (B Qab) [1, 0, 0]) ++ [9, 9]) [] (sub (B Qab) [1, 0, 0]) (Qak 0 (retK Tryz.prog (R Qab) 3 (inlK (opAt (QaE (sub (B Qaa) [1, 1, 1, 0])) 4) ⟨fr 63 [(0, .rsl 42 0 8 0 jM wc), (1, vI wa), (2, .val (.fn Qae)), (6, vI 20), (7, vI jC), (8, vI wG), (10, vI 20), (23, .rsl 42 0 8 0 jM wc), (24, vI jC), (25, vI wa), (26, .val (.fn Qae))], [bx 55 [(3, some [.val (.list wk wg), .val (.list wl wh)]), (4, some [vS wj, vI wi, vI jS, vI jQ, vI j5, .val (.list j6 jX)]), (5, some [vI j0, vS jT, vI jW, vI jZ, vI jP, vI jV, vI jY, vS jU, .val (.list jO jR)]), (8, some [.row 42 wJ]), (12, some [.val wO, .val wS, .val wP, .val wR, .val wQ, .val wT])], bx 9 [], bx 63 []], KK⟩ (opsK Tryz.prog (C lb n) (I7 lb n) 2 (QaE (sub (B Qaa) [1, 1, 1, 0])) ((QaE (sub (B Qaa) [1, 1, 1, 0])).drop 5) ((seqK (E2 lb n 2 996) (sub (B Qaa) [1, 1, 1, 0]) (sub (B Qaa) [1, 1, 1, 1]) (retK Tryz.prog (R Qaa) 2 K)) .normal))))) w4) (Qak 0 (retK Tryz.prog (R Qab) 3 (inlK (opAt (QaE (sub (B Qaa) [1, 1, 1, 0])) 4) ⟨fr 63 [(0, .rsl 42 0 8 0 jM wc), (1, vI wa), (2, .val (.fn Qae)), (6, vI 20), (7, vI jC), (8, vI wG), (10, vI 20), (23, .rsl 42 0 8 0 jM wc), (24, vI jC), (25, vI wa), (26, .val (.fn Qae))], [bx 55 [(3, some [.val (.list wk wg), .val (.list wl wh)]), (4, some [vS wj, vI wi, vI jS, vI jQ, vI j5, .val (.list j6 jX)]), (5, some [vI j0, vS jT, vI jW, vI jZ, vI jP, vI jV, vI jY, vS jU, .val (.list jO jR)]), (8, some [.row 42 wJ]), (12, some [.val wO, .val wS, .val wP, .val wR, .val wQ, .val wT])], bx 9 [], bx 63 []], KK⟩ (opsK Tryz.prog (C lb n) (I7 lb n) 2 (QaE (sub (B Qaa) [1, 1, 1, 0])) ((QaE (sub (B Qaa) [1, 1, 1, 0])).drop 5) ((seqK (E2 lb n 2 996) (sub (B Qaa) [1, 1, 1, 0]) (sub (B Qaa) [1, 1, 1, 1]) (retK Tryz.prog (R Qaa) 2 K)) .normal))))))))) kW ⟨fr 53 [(0, .rsl 42 0 8 0 jM wc), (1, vI jC), (2, vI wa), (3, .val (.fn Qae)), (8, vI wU), (9, vI i1143), (10, vI jC), (11, .val (.int .i64 (IntKind.wrap .i64 (jC + 1)))), (17, vI wU)], [bx 55 [(3, some [.val (.list wk wg), .val (.list wl wh)]), (4, some [vS wj, vI wi, vI jS, vI jQ, vI j5, .val (.list j6 jX)]), (5, some [vI j0, vS jT, vI jW, vI jZ, vI jP, vI jV, vI jY, vS jU, .val (.list jO jR)]), (8, some [.row 42 yB]), (12, some [.val wO, .val wS, .val wP, .val wR, .val wQ, .val wT])], bx 9 [], bx 63 [], bx 53 []], KK⟩)
noncomputable def Qcj (lb n jM wc : Nat) (wa jC wG : Int) (wk : Bool) (wg : LL) (wl : Bool) (wh : LL) (wj : LB) (wi jS jQ j5 : Int) (j6 : Bool) (jX : LL) (j0 : Int) (jT : LB) (jW jZ jP jV jY : Int) (jU : LB) (jO : Bool) (jR wJ : LL) (wO wS wP wR wQ wT : CV) (K : AV → List (List (Option (List AV))) → Option CV) (w4 : Nat) (wU oC : Int) (kX : LL) : Option CV :=
 hold (E3 lb n 3 995 (sub (B Qab) [1, 0, 0, 1, 1]) (QbH 3 (Qad (sub (B Qab) [1, 0, 0]) ++ [9, 9]) [] (Qas (E3 lb n 3 997) 3 (Qad (sub (B Qab) [1, 0, 0]) ++ [9, 9]) [] (sub (B Qab) [1, 0, 0]) (Qak 0 (retK Tryz.prog (R Qab) 3 (inlK (opAt (QaE (sub (B Qaa) [1, 1, 1, 0])) 4) ⟨fr 63 [(0, .rsl 42 0 8 0 jM wc), (1, vI wa), (2, .val (.fn Qae)), (6, vI 20), (7, vI jC), (8, vI wG), (10, vI 20), (23, .rsl 42 0 8 0 jM wc), (24, vI jC), (25, vI wa), (26, .val (.fn Qae))], [bx 55 [(3, some [.val (.list wk wg), .val (.list wl wh)]), (4, some [vS wj, vI wi, vI jS, vI jQ, vI j5, .val (.list j6 jX)]), (5, some [vI j0, vS jT, vI jW, vI jZ, vI jP, vI jV, vI jY, vS jU, .val (.list jO jR)]), (8, some [.row 42 wJ]), (12, some [.val wO, .val wS, .val wP, .val wR, .val wQ, .val wT])], bx 9 [], bx 63 []], KK⟩ (opsK Tryz.prog (C lb n) (I7 lb n) 2 (QaE (sub (B Qaa) [1, 1, 1, 0])) ((QaE (sub (B Qaa) [1, 1, 1, 0])).drop 5) ((seqK (E2 lb n 2 996) (sub (B Qaa) [1, 1, 1, 0]) (sub (B Qaa) [1, 1, 1, 1]) (retK Tryz.prog (R Qaa) 2 K)) .normal))))) w4) (Qak 0 (retK Tryz.prog (R Qab) 3 (inlK (opAt (QaE (sub (B Qaa) [1, 1, 1, 0])) 4) ⟨fr 63 [(0, .rsl 42 0 8 0 jM wc), (1, vI wa), (2, .val (.fn Qae)), (6, vI 20), (7, vI jC), (8, vI wG), (10, vI 20), (23, .rsl 42 0 8 0 jM wc), (24, vI jC), (25, vI wa), (26, .val (.fn Qae))], [bx 55 [(3, some [.val (.list wk wg), .val (.list wl wh)]), (4, some [vS wj, vI wi, vI jS, vI jQ, vI j5, .val (.list j6 jX)]), (5, some [vI j0, vS jT, vI jW, vI jZ, vI jP, vI jV, vI jY, vS jU, .val (.list jO jR)]), (8, some [.row 42 wJ]), (12, some [.val wO, .val wS, .val wP, .val wR, .val wQ, .val wT])], bx 9 [], bx 63 []], KK⟩ (opsK Tryz.prog (C lb n) (I7 lb n) 2 (QaE (sub (B Qaa) [1, 1, 1, 0])) ((QaE (sub (B Qaa) [1, 1, 1, 0])).drop 5) ((seqK (E2 lb n 2 996) (sub (B Qaa) [1, 1, 1, 0]) (sub (B Qaa) [1, 1, 1, 1]) (retK Tryz.prog (R Qaa) 2 K)) .normal)))))) ⟨fr 53 [(0, .rsl 42 0 8 0 jM wc), (1, vI jC), (2, vI wa), (3, .val (.fn Qae)), (8, vI wU), (9, vI oC), (10, vI jC), (11, .val (.int .i64 (IntKind.wrap .i64 (jC + 1))))], [bx 55 [(3, some [.val (.list wk wg), .val (.list wl wh)]), (4, some [vS wj, vI wi, vI jS, vI jQ, vI j5, .val (.list j6 jX)]), (5, some [vI j0, vS jT, vI jW, vI jZ, vI jP, vI jV, vI jY, vS jU, .val (.list jO jR)]), (8, some [.row 42 kX]), (12, some [.val wO, .val wS, .val wP, .val wR, .val wQ, .val wT])], bx 9 [], bx 63 [], bx 53 []], KK⟩)
theorem QcZ (lb n jM wc : Nat) (wa jC wG : Int) (wk : Bool) (wg : LL) (wl : Bool) (wh : LL) (wj : LB) (wi jS jQ j5 : Int) (j6 : Bool) (jX : LL) (j0 : Int) (jT : LB) (jW jZ jP jV jY : Int) (jU : LB) (jO : Bool) (jR wJ : LL) (wO wS wP wR wQ wT : CV) (K : AV → List (List (Option (List AV))) → Option CV) (w4 : Nat) (wU oC : Int) (kX : LL) :
 Qcj lb n jM wc wa jC wG wk wg wl wh wj wi jS jQ j5 j6 jX j0 jT jW jZ jP jV jY jU jO jR wJ wO wS wP wR wQ wT K w4 wU oC kX =
 Qbg lb n w4 jM wc wa jC wG wk wg wl wh wj wi jS jQ j5 j6 jX j0 jT jW jZ jP jV jY jU jO jR wJ wO wS wP wR wQ wT K (IntKind.wrap .i64 (wU + 1)) kX := (Qac _).trans (by kernel_rfl)
theorem QcJ (lb n kW jM wc : Nat) (wa jC wG : Int) (wk : Bool) (wg : LL) (wl : Bool) (wh : LL) (wj : LB) (wi jS jQ j5 : Int) (j6 : Bool) (jX : LL) (j0 : Int) (jT : LB) (jW jZ jP jV jY : Int) (jU : LB) (jO : Bool) (jR wJ : LL) (wO wS wP wR wQ wT : CV) (K : AV → List (List (Option (List AV))) → Option CV) (w4 : Nat) (wU i1143 : Int) (yB : LL) :
 QbC lb n (kW + 1) jM wc wa jC wG wk wg wl wh wj wi jS jQ j5 j6 jX j0 jT jW jZ jP jV jY jU jO jR wJ wO wS wP wR wQ wT K w4 wU i1143 yB =
 bif (decide (i1143 > jC)) then
 (chkO ((decide (0 ≤ (i1143 : Int))) && (decide ((i1143 : Int) < ((jM : Nat) : Int)))) (
 optO (yB[0 + i1143.toNat]?) fun vY =>
 optO (vY[0]?) fun m7 =>
 optO (vY[1]?) fun mW =>
 optO (vY[2]?) fun m9 =>
 optO (vY[3]?) fun mF =>
 optO (vY[4]?) fun mK =>
 optO (vY[5]?) fun nd =>
 chkO ((decide (0 ≤ ((IntKind.wrap .i64 (i1143 - 1)) : Int))) && (decide (((IntKind.wrap .i64 (i1143 - 1)) : Int) < ((jM : Nat) : Int)))) (
 optO (yB[0 + ((IntKind.wrap .i64 (i1143 - 1)).toNat)]?) fun v8 =>
 optO (v8[0]?) fun mI =>
 optO (v8[1]?) fun nk =>
 optO (v8[2]?) fun mG =>
 optO (v8[3]?) fun mD =>
 optO (v8[4]?) fun nj =>
 optO (v8[5]?) fun nx =>
 optO (C lb n Qae [.agg [m7, mW, m9, mF, mK, nd], .agg [mI, nk, mG, mD, nj, nx]]) fun nr =>
 optO (CV.asI .i64 nr) fun nw =>
 bif (decide (nw < 0)) then
 (chkO ((decide (0 ≤ ((IntKind.wrap .i64 (i1143 - 1)) : Int))) && (decide (((IntKind.wrap .i64 (i1143 - 1)) : Int) < ((jM : Nat) : Int)))) (
 optO (yB[0 + ((IntKind.wrap .i64 (i1143 - 1)).toNat)]?) fun vZ =>
 optO (vZ[0]?) fun gk =>
 optO (vZ[1]?) fun gn =>
 optO (vZ[2]?) fun gi =>
 optO (vZ[3]?) fun gc =>
 optO (vZ[4]?) fun gd =>
 optO (vZ[5]?) fun gh =>
 chkO ((decide (0 ≤ (i1143 : Int))) && (decide ((i1143 : Int) < ((jM : Nat) : Int)))) (
 optO (yB[0 + i1143.toNat]?) fun v7 =>
 optO (v7[0]?) fun nu =>
 optO (v7[1]?) fun nf =>
 optO (v7[2]?) fun nv =>
 optO (v7[3]?) fun nq =>
 optO (v7[4]?) fun na =>
 optO (v7[5]?) fun nm =>
 chkO ((decide (0 ≤ (i1143 : Int))) && (decide ((i1143 : Int) < ((jM : Nat) : Int)))) (
 optO (yB[0 + i1143.toNat]?) fun c1208 =>
 chkO (decide ((6 : Nat) ≤ c1208.length)) (
 chkO ((decide (0 ≤ ((IntKind.wrap .i64 (i1143 - 1)) : Int))) && (decide (((IntKind.wrap .i64 (i1143 - 1)) : Int) < ((jM : Nat) : Int)))) (
 optO ((setN yB (0 + i1143.toNat) (Qbo c1208 0 [gk, gn, gi, gc, gd, gh]))[0 + ((IntKind.wrap .i64 (i1143 - 1)).toNat)]?) fun c1209 =>
 chkO (decide ((6 : Nat) ≤ c1209.length)) (
 QbC lb n kW jM wc wa jC wG wk wg wl wh wj wi jS jQ j5 j6 jX j0 jT jW jZ jP jV jY jU jO jR wJ wO wS wP wR wQ wT K w4 wU (IntKind.wrap .i64 (i1143 - 1)) (setN (setN yB (0 + i1143.toNat) (Qbo c1208 0 [gk, gn, gi, gc, gd, gh])) (0 + ((IntKind.wrap .i64 (i1143 - 1)).toNat)) (Qbo c1209 0 [nu, nf, nv, nq, na, nm])))))))))
 else
 (Qcj lb n jM wc wa jC wG wk wg wl wh wj wi jS jQ j5 j6 jX j0 jT jW jZ jP jV jY jU jO jR wJ wO wS wP wR wQ wT K w4 wU i1143 yB))))
 else
 (Qcj lb n jM wc wa jC wG wk wg wl wh wj wi jS jQ j5 j6 jX j0 jT jW jZ jP jV jY jU jO jR wJ wO wS wP wR wQ wT K w4 wU i1143 yB) := (Qac _).trans (by kernel_rfl)
noncomputable def QbE (lb n v6 : Nat) (K : AV → List (List (Option (List AV))) → Option CV) (jM wc : Nat) (wa jC : Int) (wk : Bool) (wg : LL) (wl : Bool) (wh : LL) (wj : LB) (wi jS jQ j5 : Int) (j6 : Bool) (jX : LL) (j0 : Int) (jT : LB) (jW jZ jP jV jY : Int) (jU : LB) (jO : Bool) (jR : LL) (wO wS wP wR wQ wT : CV) (yQ oE oz : Int) (kt : LL) : Option CV :=
 hold (Qas (E2 lb n 2 994) 2 (Qad (sub (B Qaa) [1, 1, 1, 1, 0, 0]) ++ [9]) [] (sub (B Qaa) [1, 1, 1, 1, 0, 0]) (Qak 2 (retK Tryz.prog (R Qaa) 2 K)) v6 ⟨fr 63 [(0, .rsl 42 0 8 0 jM wc), (1, vI wa), (2, .val (.fn Qae)), (6, vI yQ), (7, vI oE), (8, vI oz), (10, vI 20), (23, .rsl 42 0 8 0 jM wc), (24, vI jC), (25, vI wa), (26, .val (.fn Qae)), (27, .val (.tup []))], [bx 55 [(3, some [.val (.list wk wg), .val (.list wl wh)]), (4, some [vS wj, vI wi, vI jS, vI jQ, vI j5, .val (.list j6 jX)]), (5, some [vI j0, vS jT, vI jW, vI jZ, vI jP, vI jV, vI jY, vS jU, .val (.list jO jR)]), (8, some [.row 42 kt]), (12, some [.val wO, .val wS, .val wP, .val wR, .val wQ, .val wT])], bx 9 [], bx 63 []], KK⟩)
noncomputable def Qfp (lb n mA : Nat) (K : AV → List (List (Option (List AV))) → Option CV) (v6 jM wc : Nat) (wa yQ jC : Int) (wk : Bool) (wg : LL) (wl : Bool) (wh : LL) (wj : LB) (wi jS jQ j5 : Int) (j6 : Bool) (jX : LL) (j0 : Int) (jT : LB) (jW jZ jP jV jY : Int) (jU : LB) (jO : Bool) (jR : LL) (wO wS wP wR wQ wT : CV) (mz mY : Int) (mE : LL) : Option CV :=
 hold (Qas (E2 lb n 2 988) 2 (Qad (sub (B Qaa) [1, 1, 1, 1, 0, 0, 1, 0, 1, 0, 0, 0]) ++ []) [] (sub (B Qaa) [1, 1, 1, 1, 0, 0, 1, 0, 1, 0, 0, 0]) (Qak 4 (seqK (E2 lb n 2 990) (sub (B Qaa) [1, 1, 1, 1, 0, 0, 1, 0, 1, 0]) (sub (B Qaa) [1, 1, 1, 1, 0, 0, 1, 0, 1, 1]) (Qak 3 (QbH 2 (Qad (sub (B Qaa) [1, 1, 1, 1, 0, 0]) ++ [9]) [] (Qas (E2 lb n 2 994) 2 (Qad (sub (B Qaa) [1, 1, 1, 1, 0, 0]) ++ [9]) [] (sub (B Qaa) [1, 1, 1, 1, 0, 0]) (Qak 2 (retK Tryz.prog (R Qaa) 2 K)) v6) (Qak 2 (retK Tryz.prog (R Qaa) 2 K)))))) mA ⟨fr 63 [(0, .rsl 42 0 8 0 jM wc), (1, vI wa), (2, .val (.fn Qae)), (6, vI yQ), (7, vI mz), (8, vI mY), (10, vI 20), (23, .rsl 42 0 8 0 jM wc), (24, vI jC), (25, vI wa), (26, .val (.fn Qae)), (27, .val (.tup [])), (31, vI yQ), (32, .val (.int .i64 (IntKind.wrap .i64 (2 * yQ))))], [bx 55 [(3, some [.val (.list wk wg), .val (.list wl wh)]), (4, some [vS wj, vI wi, vI jS, vI jQ, vI j5, .val (.list j6 jX)]), (5, some [vI j0, vS jT, vI jW, vI jZ, vI jP, vI jV, vI jY, vS jU, .val (.list jO jR)]), (8, some [.row 42 mE]), (12, some [.val wO, .val wS, .val wP, .val wR, .val wQ, .val wT])], bx 9 [], bx 63 []], KK⟩)
theorem QcK (lb n v6 : Nat) (K : AV → List (List (Option (List AV))) → Option CV) (jM wc : Nat) (wa jC : Int) (wk : Bool) (wg : LL) (wl : Bool) (wh : LL) (wj : LB) (wi jS jQ j5 : Int) (j6 : Bool) (jX : LL) (j0 : Int) (jT : LB) (jW jZ jP jV jY : Int) (jU : LB) (jO : Bool) (jR : LL) (wO wS wP wR wQ wT : CV) (yQ oE oz : Int) (kt : LL) :
 QbE lb n (v6 + 1) K jM wc wa jC wk wg wl wh wj wi jS jQ j5 j6 jX j0 jT jW jZ jP jV jY jU jO jR wO wS wP wR wQ wT yQ oE oz kt =
 bif (decide (yQ < wa)) then
 (Qfp lb n n K v6 jM wc wa yQ jC wk wg wl wh wj wi jS jQ j5 j6 jX j0 jT jW jZ jP jV jY jU jO jR wO wS wP wR wQ wT 0 (IntKind.wrap .i64 (2 * yQ)) kt)
 else
 (K (.val (.tup [])) [bx 55 [(3, some [.val (.list wk wg), .val (.list wl wh)]), (4, some [vS wj, vI wi, vI jS, vI jQ, vI j5, .val (.list j6 jX)]), (5, some [vI j0, vS jT, vI jW, vI jZ, vI jP, vI jV, vI jY, vS jU, .val (.list jO jR)]), (8, some [.row 42 kt]), (12, some [.val wO, .val wS, .val wP, .val wR, .val wQ, .val wT])], bx 9 []]) := (Qac _).trans (by kernel_rfl)
theorem QcI (lb n w4 jM wc : Nat) (wa jC wG : Int) (wk : Bool) (wg : LL) (wl : Bool) (wh : LL) (wj : LB) (wi jS jQ j5 : Int) (j6 : Bool) (jX : LL) (j0 : Int) (jT : LB) (jW jZ jP jV jY : Int) (jU : LB) (jO : Bool) (jR wJ : LL) (wO wS wP wR wQ wT : CV) (K : AV → List (List (Option (List AV))) → Option CV) (wU : Int) (kC : LL) :
 Qbg lb n (w4 + 1) jM wc wa jC wG wk wg wl wh wj wi jS jQ j5 j6 jX j0 jT jW jZ jP jV jY jU jO jR wJ wO wS wP wR wQ wT K wU kC =
 bif (decide (wU < wa)) then
 (QbC lb n n jM wc wa jC wG wk wg wl wh wj wi jS jQ j5 j6 jX j0 jT jW jZ jP jV jY jU jO jR wJ wO wS wP wR wQ wT K w4 wU wU kC)
 else
 (QbE lb n n K jM wc wa jC wk wg wl wh wj wi jS jQ j5 j6 jX j0 jT jW jZ jP jV jY jU jO jR wO wS wP wR wQ wT 20 jC wG kC) := (Qac _).trans (by kernel_rfl)
theorem QeZ (lb n : Nat) (K : AV → List (List (Option (List AV))) → Option CV) (jM wc : Nat) (wa : Int) (wk : Bool) (wg : LL) (wl : Bool) (wh : LL) (wj : LB) (wi jS jQ j5 : Int) (j6 : Bool) (jX : LL) (j0 : Int) (jT : LB) (jW jZ jP jV jY : Int) (jU : LB) (jO : Bool) (jR : LL) (wO wS wP wR wQ wT : CV) (jC wG : Int) (wJ : LL) :
 Qdn lb n K jM wc wa wk wg wl wh wj wi jS jQ j5 j6 jX j0 jT jW jZ jP jV jY jU jO jR wO wS wP wR wQ wT jC wG wJ =
 Qbg lb n n jM wc wa jC wG wk wg wl wh wj wi jS jQ j5 j6 jX j0 jT jW jZ jP jV jY jU jO jR wJ wO wS wP wR wQ wT K (IntKind.wrap .i64 (jC + 1)) wJ := (Qac _).trans (by kernel_rfl)
theorem QeE (lb n kK : Nat) (K : AV → List (List (Option (List AV))) → Option CV) (jM wc : Nat) (wa : Int) (wk : Bool) (wg : LL) (wl : Bool) (wh : LL) (wj : LB) (wi jS jQ j5 : Int) (j6 : Bool) (jX : LL) (j0 : Int) (jT : LB) (jW jZ jP jV jY : Int) (jU : LB) (jO : Bool) (jR : LL) (wO wS wP wR wQ wT : CV) (yW vf : Int) (vM : LL) :
 Qca lb n (kK + 1) K jM wc wa wk wg wl wh wj wi jS jQ j5 j6 jX j0 jT jW jZ jP jV jY jU jO jR wO wS wP wR wQ wT yW vf vM =
 bif (decide (vf ≤ wa)) then
 (QfJ lb n n jM wc wa yW vf wk wg wl wh wj wi jS jQ j5 j6 jX j0 jT jW jZ jP jV jY jU jO jR vM wO wS wP wR wQ wT K kK (IntKind.wrap .i64 (yW + 1)) vM)
 else
 (Qdn lb n K jM wc wa wk wg wl wh wj wi jS jQ j5 j6 jX j0 jT jW jZ jP jV jY jU jO jR wO wS wP wR wQ wT yW vf vM) := (Qac _).trans (by kernel_rfl)
theorem Qc9 (lb n : Nat) (K : AV → List (List (Option (List AV))) → Option CV) (jM wc : Nat) (wa : Int) (wk : Bool) (wg : LL) (wl : Bool) (wh : LL) (wj : LB) (wi jS jQ j5 : Int) (j6 : Bool) (jX : LL) (j0 : Int) (jT : LB) (jW jZ jP jV jY : Int) (jU : LB) (jO : Bool) (jR oB : LL) (wO wS wP wR wQ wT : CV) :
 Qbn lb n K jM wc wa wk wg wl wh wj wi jS jQ j5 j6 jX j0 jT jW jZ jP jV jY jU jO jR oB wO wS wP wR wQ wT =
 Qca lb n n K jM wc wa wk wg wl wh wj wi jS jQ j5 j6 jX j0 jT jW jZ jP jV jY jU jO jR wO wS wP wR wQ wT 0 20 oB := by kernel_rfl
noncomputable def QbZ (lb n kK : Nat) (K : AV → List (List (Option (List AV))) → Option CV) (jM wc : Nat) (wa : Int) (wk : Bool) (wg : LL) (wl : Bool) (wh : LL) (wj : LB) (wi jS jQ j5 : Int) (j6 : Bool) (jX : LL) (j0 : Int) (jT : LB) (jW jZ jP jV jY : Int) (jU : LB) (jO : Bool) (jR : LL) (yW vf : Int) (vM : LL) : Option CV :=
 hold (Qas (E2 lb n 2 995) 2 (Qad (sub (B Qaa) [1, 1, 0, 0, 0]) ++ []) [] (sub (B Qaa) [1, 1, 0, 0, 0]) (Qak 0 (seqK (E2 lb n 2 997) (sub (B Qaa) [1, 1, 0]) (sub (B Qaa) [1, 1, 1]) (retK Tryz.prog (R Qaa) 2 K))) kK ⟨fr 63 [(0, .rsl 42 0 8 0 jM wc), (1, vI wa), (2, .val (.fn Qae)), (6, vI 20), (7, vI yW), (8, vI vf), (10, vI 20)], [bx 55 [(3, some [.val (.list wk wg), .val (.list wl wh)]), (4, some [vS wj, vI wi, vI jS, vI jQ, vI j5, .val (.list j6 jX)]), (5, some [vI j0, vS jT, vI jW, vI jZ, vI jP, vI jV, vI jY, vS jU, .val (.list jO jR)]), (8, some [.row 42 vM])], bx 9 [], bx 63 []], KK⟩)
noncomputable def Qfd (lb n pd jM wc : Nat) (wa yW vf : Int) (wk : Bool) (wg : LL) (wl : Bool) (wh : LL) (wj : LB) (wi jS jQ j5 : Int) (j6 : Bool) (jX : LL) (j0 : Int) (jT : LB) (jW jZ jP jV jY : Int) (jU : LB) (jO : Bool) (jR vM : LL) (K : AV → List (List (Option (List AV))) → Option CV) (kK : Nat) (pi : Int) (n3 : LL) : Option CV :=
 hold (Qas (E3 lb n 3 997) 3 (Qad (sub (B Qab) [1, 0, 0]) ++ [9, 9]) [] (sub (B Qab) [1, 0, 0]) (Qak 0 (retK Tryz.prog (R Qab) 3 (inlK (opAt (QaE (sub (B Qaa) [1, 1, 0, 0, 0, 1, 0, 0])) 4) ⟨fr 63 [(0, .rsl 42 0 8 0 jM wc), (1, vI wa), (2, .val (.fn Qae)), (6, vI 20), (7, vI yW), (8, vI vf), (10, vI 20), (14, .rsl 42 0 8 0 jM wc), (15, vI yW), (16, vI vf), (17, .val (.fn Qae))], [bx 55 [(3, some [.val (.list wk wg), .val (.list wl wh)]), (4, some [vS wj, vI wi, vI jS, vI jQ, vI j5, .val (.list j6 jX)]), (5, some [vI j0, vS jT, vI jW, vI jZ, vI jP, vI jV, vI jY, vS jU, .val (.list jO jR)]), (8, some [.row 42 vM])], bx 9 [], bx 63 []], KK⟩ (opsK Tryz.prog (C lb n) (I7 lb n) 2 (QaE (sub (B Qaa) [1, 1, 0, 0, 0, 1, 0, 0])) ((QaE (sub (B Qaa) [1, 1, 0, 0, 0, 1, 0, 0])).drop 5) ((seqK (E2 lb n 2 992) (sub (B Qaa) [1, 1, 0, 0, 0, 1, 0, 0]) (sub (B Qaa) [1, 1, 0, 0, 0, 1, 0, 1]) (Qak 1 (QbH 2 (Qad (sub (B Qaa) [1, 1, 0, 0, 0]) ++ []) [] (Qas (E2 lb n 2 995) 2 (Qad (sub (B Qaa) [1, 1, 0, 0, 0]) ++ []) [] (sub (B Qaa) [1, 1, 0, 0, 0]) (Qak 0 (seqK (E2 lb n 2 997) (sub (B Qaa) [1, 1, 0]) (sub (B Qaa) [1, 1, 1]) (retK Tryz.prog (R Qaa) 2 K))) kK) (Qak 0 (seqK (E2 lb n 2 997) (sub (B Qaa) [1, 1, 0]) (sub (B Qaa) [1, 1, 1]) (retK Tryz.prog (R Qaa) 2 K)))))) .normal))))) pd ⟨fr 53 [(0, .rsl 42 0 8 0 jM wc), (1, vI yW), (2, vI vf), (3, .val (.fn Qae)), (8, vI pi), (10, vI yW), (11, .val (.int .i64 (IntKind.wrap .i64 (yW + 1))))], [bx 55 [(3, some [.val (.list wk wg), .val (.list wl wh)]), (4, some [vS wj, vI wi, vI jS, vI jQ, vI j5, .val (.list j6 jX)]), (5, some [vI j0, vS jT, vI jW, vI jZ, vI jP, vI jV, vI jY, vS jU, .val (.list jO jR)]), (8, some [.row 42 n3])], bx 9 [], bx 63 [], bx 53 []], KK⟩)
noncomputable def Qc5 (lb n : Nat) (K : AV → List (List (Option (List AV))) → Option CV) (jM wc : Nat) (wa : Int) (wk : Bool) (wg : LL) (wl : Bool) (wh : LL) (wj : LB) (wi jS jQ j5 : Int) (j6 : Bool) (jX : LL) (j0 : Int) (jT : LB) (jW jZ jP jV jY : Int) (jU : LB) (jO : Bool) (jR : LL) (jC wG : Int) (wJ : LL) : Option CV :=
 hold (E2 lb n 2 997 (sub (B Qaa) [1, 1, 1]) (retK Tryz.prog (R Qaa) 2 K) ⟨fr 63 [(0, .rsl 42 0 8 0 jM wc), (1, vI wa), (2, .val (.fn Qae)), (6, vI 20), (7, vI jC), (8, vI wG), (10, vI 20)], [bx 55 [(3, some [.val (.list wk wg), .val (.list wl wh)]), (4, some [vS wj, vI wi, vI jS, vI jQ, vI j5, .val (.list j6 jX)]), (5, some [vI j0, vS jT, vI jW, vI jZ, vI jP, vI jV, vI jY, vS jU, .val (.list jO jR)]), (8, some [.row 42 wJ])], bx 9 [], bx 63 []], KK⟩)
noncomputable def Qbc (lb n w4 jM wc : Nat) (wa jC wG : Int) (wk : Bool) (wg : LL) (wl : Bool) (wh : LL) (wj : LB) (wi jS jQ j5 : Int) (j6 : Bool) (jX : LL) (j0 : Int) (jT : LB) (jW jZ jP jV jY : Int) (jU : LB) (jO : Bool) (jR wJ : LL) (K : AV → List (List (Option (List AV))) → Option CV) (wU : Int) (kC : LL) : Option CV :=
 hold (Qas (E3 lb n 3 997) 3 (Qad (sub (B Qab) [1, 0, 0]) ++ [9, 9]) [] (sub (B Qab) [1, 0, 0]) (Qak 0 (retK Tryz.prog (R Qab) 3 (inlK (opAt (QaE (sub (B Qaa) [1, 1, 1, 0])) 4) ⟨fr 63 [(0, .rsl 42 0 8 0 jM wc), (1, vI wa), (2, .val (.fn Qae)), (6, vI 20), (7, vI jC), (8, vI wG), (10, vI 20), (23, .rsl 42 0 8 0 jM wc), (24, vI jC), (25, vI wa), (26, .val (.fn Qae))], [bx 55 [(3, some [.val (.list wk wg), .val (.list wl wh)]), (4, some [vS wj, vI wi, vI jS, vI jQ, vI j5, .val (.list j6 jX)]), (5, some [vI j0, vS jT, vI jW, vI jZ, vI jP, vI jV, vI jY, vS jU, .val (.list jO jR)]), (8, some [.row 42 wJ])], bx 9 [], bx 63 []], KK⟩ (opsK Tryz.prog (C lb n) (I7 lb n) 2 (QaE (sub (B Qaa) [1, 1, 1, 0])) ((QaE (sub (B Qaa) [1, 1, 1, 0])).drop 5) ((seqK (E2 lb n 2 996) (sub (B Qaa) [1, 1, 1, 0]) (sub (B Qaa) [1, 1, 1, 1]) (retK Tryz.prog (R Qaa) 2 K)) .normal))))) w4 ⟨fr 53 [(0, .rsl 42 0 8 0 jM wc), (1, vI jC), (2, vI wa), (3, .val (.fn Qae)), (8, vI wU), (10, vI jC), (11, .val (.int .i64 (IntKind.wrap .i64 (jC + 1))))], [bx 55 [(3, some [.val (.list wk wg), .val (.list wl wh)]), (4, some [vS wj, vI wi, vI jS, vI jQ, vI j5, .val (.list j6 jX)]), (5, some [vI j0, vS jT, vI jW, vI jZ, vI jP, vI jV, vI jY, vS jU, .val (.list jO jR)]), (8, some [.row 42 kC])], bx 9 [], bx 63 [], bx 53 []], KK⟩)
noncomputable def Qbs (lb n kW jM wc : Nat) (wa jC wG : Int) (wk : Bool) (wg : LL) (wl : Bool) (wh : LL) (wj : LB) (wi jS jQ j5 : Int) (j6 : Bool) (jX : LL) (j0 : Int) (jT : LB) (jW jZ jP jV jY : Int) (jU : LB) (jO : Bool) (jR wJ : LL) (K : AV → List (List (Option (List AV))) → Option CV) (w4 : Nat) (wU i1143 : Int) (yB : LL) : Option CV :=
 hold (Qas (E3 lb n 3 991) 3 (Qad (sub (B Qab) [1, 0, 0, 1, 0, 0, 1, 0, 0]) ++ []) [] (sub (B Qab) [1, 0, 0, 1, 0, 0, 1, 0, 0]) (Qak 2 (Qak 1 (seqK (E3 lb n 3 995) (sub (B Qab) [1, 0, 0, 1, 0]) (sub (B Qab) [1, 0, 0, 1, 1]) (QbH 3 (Qad (sub (B Qab) [1, 0, 0]) ++ [9, 9]) [] (Qas (E3 lb n 3 997) 3 (Qad (sub (B Qab) [1, 0, 0]) ++ [9, 9]) [] (sub (B Qab) [1, 0, 0]) (Qak 0 (retK Tryz.prog (R Qab) 3 (inlK (opAt (QaE (sub (B Qaa) [1, 1, 1, 0])) 4) ⟨fr 63 [(0, .rsl 42 0 8 0 jM wc), (1, vI wa), (2, .val (.fn Qae)), (6, vI 20), (7, vI jC), (8, vI wG), (10, vI 20), (23, .rsl 42 0 8 0 jM wc), (24, vI jC), (25, vI wa), (26, .val (.fn Qae))], [bx 55 [(3, some [.val (.list wk wg), .val (.list wl wh)]), (4, some [vS wj, vI wi, vI jS, vI jQ, vI j5, .val (.list j6 jX)]), (5, some [vI j0, vS jT, vI jW, vI jZ, vI jP, vI jV, vI jY, vS jU, .val (.list jO jR)]), (8, some [.row 42 wJ])], bx 9 [], bx 63 []], KK⟩ (opsK Tryz.prog (C lb n) (I7 lb n) 2 (QaE (sub (B Qaa) [1, 1, 1, 0])) ((QaE (sub (B Qaa) [1, 1, 1, 0])).drop 5) ((seqK (E2 lb n 2 996) (sub (B Qaa) [1, 1, 1, 0]) (sub (B Qaa) [1, 1, 1, 1]) (retK Tryz.prog (R Qaa) 2 K)) .normal))))) w4) (Qak 0 (retK Tryz.prog (R Qab) 3 (inlK (opAt (QaE (sub (B Qaa) [1, 1, 1, 0])) 4) ⟨fr 63 [(0, .rsl 42 0 8 0 jM wc), (1, vI wa), (2, .val (.fn Qae)), (6, vI 20), (7, vI jC), (8, vI wG), (10, vI 20), (23, .rsl 42 0 8 0 jM wc), (24, vI jC), (25, vI wa), (26, .val (.fn Qae))], [bx 55 [(3, some [.val (.list wk wg), .val (.list wl wh)]), (4, some [vS wj, vI wi, vI jS, vI jQ, vI j5, .val (.list j6 jX)]), (5, some [vI j0, vS jT, vI jW, vI jZ, vI jP, vI jV, vI jY, vS jU, .val (.list jO jR)]), (8, some [.row 42 wJ])], bx 9 [], bx 63 []], KK⟩ (opsK Tryz.prog (C lb n) (I7 lb n) 2 (QaE (sub (B Qaa) [1, 1, 1, 0])) ((QaE (sub (B Qaa) [1, 1, 1, 0])).drop 5) ((seqK (E2 lb n 2 996) (sub (B Qaa) [1, 1, 1, 0]) (sub (B Qaa) [1, 1, 1, 1]) (retK Tryz.prog (R Qaa) 2 K)) .normal))))))))) kW ⟨fr 53 [(0, .rsl 42 0 8 0 jM wc), (1, vI jC), (2, vI wa), (3, .val (.fn Qae)), (8, vI wU), (9, vI i1143), (10, vI jC), (11, .val (.int .i64 (IntKind.wrap .i64 (jC + 1)))), (17, vI wU)], [bx 55 [(3, some [.val (.list wk wg), .val (.list wl wh)]), (4, some [vS wj, vI wi, vI jS, vI jQ, vI j5, .val (.list j6 jX)]), (5, some [vI j0, vS jT, vI jW, vI jZ, vI jP, vI jV, vI jY, vS jU, .val (.list jO jR)]), (8, some [.row 42 yB])], bx 9 [], bx 63 [], bx 53 []], KK⟩)
noncomputable def Qb0 (lb n jM wc : Nat) (wa jC wG : Int) (wk : Bool) (wg : LL) (wl : Bool) (wh : LL) (wj : LB) (wi jS jQ j5 : Int) (j6 : Bool) (jX : LL) (j0 : Int) (jT : LB) (jW jZ jP jV jY : Int) (jU : LB) (jO : Bool) (jR wJ : LL) (K : AV → List (List (Option (List AV))) → Option CV) (w4 : Nat) (wU oC : Int) (kX : LL) : Option CV :=
 hold (E3 lb n 3 995 (sub (B Qab) [1, 0, 0, 1, 1]) (QbH 3 (Qad (sub (B Qab) [1, 0, 0]) ++ [9, 9]) [] (Qas (E3 lb n 3 997) 3 (Qad (sub (B Qab) [1, 0, 0]) ++ [9, 9]) [] (sub (B Qab) [1, 0, 0]) (Qak 0 (retK Tryz.prog (R Qab) 3 (inlK (opAt (QaE (sub (B Qaa) [1, 1, 1, 0])) 4) ⟨fr 63 [(0, .rsl 42 0 8 0 jM wc), (1, vI wa), (2, .val (.fn Qae)), (6, vI 20), (7, vI jC), (8, vI wG), (10, vI 20), (23, .rsl 42 0 8 0 jM wc), (24, vI jC), (25, vI wa), (26, .val (.fn Qae))], [bx 55 [(3, some [.val (.list wk wg), .val (.list wl wh)]), (4, some [vS wj, vI wi, vI jS, vI jQ, vI j5, .val (.list j6 jX)]), (5, some [vI j0, vS jT, vI jW, vI jZ, vI jP, vI jV, vI jY, vS jU, .val (.list jO jR)]), (8, some [.row 42 wJ])], bx 9 [], bx 63 []], KK⟩ (opsK Tryz.prog (C lb n) (I7 lb n) 2 (QaE (sub (B Qaa) [1, 1, 1, 0])) ((QaE (sub (B Qaa) [1, 1, 1, 0])).drop 5) ((seqK (E2 lb n 2 996) (sub (B Qaa) [1, 1, 1, 0]) (sub (B Qaa) [1, 1, 1, 1]) (retK Tryz.prog (R Qaa) 2 K)) .normal))))) w4) (Qak 0 (retK Tryz.prog (R Qab) 3 (inlK (opAt (QaE (sub (B Qaa) [1, 1, 1, 0])) 4) ⟨fr 63 [(0, .rsl 42 0 8 0 jM wc), (1, vI wa), (2, .val (.fn Qae)), (6, vI 20), (7, vI jC), (8, vI wG), (10, vI 20), (23, .rsl 42 0 8 0 jM wc), (24, vI jC), (25, vI wa), (26, .val (.fn Qae))], [bx 55 [(3, some [.val (.list wk wg), .val (.list wl wh)]), (4, some [vS wj, vI wi, vI jS, vI jQ, vI j5, .val (.list j6 jX)]), (5, some [vI j0, vS jT, vI jW, vI jZ, vI jP, vI jV, vI jY, vS jU, .val (.list jO jR)]), (8, some [.row 42 wJ])], bx 9 [], bx 63 []], KK⟩ (opsK Tryz.prog (C lb n) (I7 lb n) 2 (QaE (sub (B Qaa) [1, 1, 1, 0])) ((QaE (sub (B Qaa) [1, 1, 1, 0])).drop 5) ((seqK (E2 lb n 2 996) (sub (B Qaa) [1, 1, 1, 0]) (sub (B Qaa) [1, 1, 1, 1]) (retK Tryz.prog (R Qaa) 2 K)) .normal)))))) ⟨fr 53 [(0, .rsl 42 0 8 0 jM wc), (1, vI jC), (2, vI wa), (3, .val (.fn Qae)), (8, vI wU), (9, vI oC), (10, vI jC), (11, .val (.int .i64 (IntKind.wrap .i64 (jC + 1))))], [bx 55 [(3, some [.val (.list wk wg), .val (.list wl wh)]), (4, some [vS wj, vI wi, vI jS, vI jQ, vI j5, .val (.list j6 jX)]), (5, some [vI j0, vS jT, vI jW, vI jZ, vI jP, vI jV, vI jY, vS jU, .val (.list jO jR)]), (8, some [.row 42 kX])], bx 9 [], bx 63 [], bx 53 []], KK⟩)
theorem QcH (lb n jM wc : Nat) (wa jC wG : Int) (wk : Bool) (wg : LL) (wl : Bool) (wh : LL) (wj : LB) (wi jS jQ j5 : Int) (j6 : Bool) (jX : LL) (j0 : Int) (jT : LB) (jW jZ jP jV jY : Int) (jU : LB) (jO : Bool) (jR wJ : LL) (K : AV → List (List (Option (List AV))) → Option CV) (w4 : Nat) (wU oC : Int) (kX : LL) :
 Qb0 lb n jM wc wa jC wG wk wg wl wh wj wi jS jQ j5 j6 jX j0 jT jW jZ jP jV jY jU jO jR wJ K w4 wU oC kX =
 Qbc lb n w4 jM wc wa jC wG wk wg wl wh wj wi jS jQ j5 j6 jX j0 jT jW jZ jP jV jY jU jO jR wJ K (IntKind.wrap .i64 (wU + 1)) kX := (Qac _).trans (by kernel_rfl)
theorem QcC (lb n kW jM wc : Nat) (wa jC wG : Int) (wk : Bool) (wg : LL) (wl : Bool) (wh : LL) (wj : LB) (wi jS jQ j5 : Int) (j6 : Bool) (jX : LL) (j0 : Int) (jT : LB) (jW jZ jP jV jY : Int) (jU : LB) (jO : Bool) (jR wJ : LL) (K : AV → List (List (Option (List AV))) → Option CV) (w4 : Nat) (wU i1143 : Int) (yB : LL) :
 Qbs lb n (kW + 1) jM wc wa jC wG wk wg wl wh wj wi jS jQ j5 j6 jX j0 jT jW jZ jP jV jY jU jO jR wJ K w4 wU i1143 yB =
 bif (decide (i1143 > jC)) then
 (chkO ((decide (0 ≤ (i1143 : Int))) && (decide ((i1143 : Int) < ((jM : Nat) : Int)))) (
 optO (yB[0 + i1143.toNat]?) fun vY =>
 optO (vY[0]?) fun m7 =>
 optO (vY[1]?) fun mW =>
 optO (vY[2]?) fun m9 =>
 optO (vY[3]?) fun mF =>
 optO (vY[4]?) fun mK =>
 optO (vY[5]?) fun nd =>
 chkO ((decide (0 ≤ ((IntKind.wrap .i64 (i1143 - 1)) : Int))) && (decide (((IntKind.wrap .i64 (i1143 - 1)) : Int) < ((jM : Nat) : Int)))) (
 optO (yB[0 + ((IntKind.wrap .i64 (i1143 - 1)).toNat)]?) fun v8 =>
 optO (v8[0]?) fun mI =>
 optO (v8[1]?) fun nk =>
 optO (v8[2]?) fun mG =>
 optO (v8[3]?) fun mD =>
 optO (v8[4]?) fun nj =>
 optO (v8[5]?) fun nx =>
 optO (C lb n Qae [.agg [m7, mW, m9, mF, mK, nd], .agg [mI, nk, mG, mD, nj, nx]]) fun nr =>
 optO (CV.asI .i64 nr) fun nw =>
 bif (decide (nw < 0)) then
 (chkO ((decide (0 ≤ ((IntKind.wrap .i64 (i1143 - 1)) : Int))) && (decide (((IntKind.wrap .i64 (i1143 - 1)) : Int) < ((jM : Nat) : Int)))) (
 optO (yB[0 + ((IntKind.wrap .i64 (i1143 - 1)).toNat)]?) fun vZ =>
 optO (vZ[0]?) fun gk =>
 optO (vZ[1]?) fun gn =>
 optO (vZ[2]?) fun gi =>
 optO (vZ[3]?) fun gc =>
 optO (vZ[4]?) fun gd =>
 optO (vZ[5]?) fun gh =>
 chkO ((decide (0 ≤ (i1143 : Int))) && (decide ((i1143 : Int) < ((jM : Nat) : Int)))) (
 optO (yB[0 + i1143.toNat]?) fun v7 =>
 optO (v7[0]?) fun nu =>
 optO (v7[1]?) fun nf =>
 optO (v7[2]?) fun nv =>
 optO (v7[3]?) fun nq =>
 optO (v7[4]?) fun na =>
 optO (v7[5]?) fun nm =>
 chkO ((decide (0 ≤ (i1143 : Int))) && (decide ((i1143 : Int) < ((jM : Nat) : Int)))) (
 optO (yB[0 + i1143.toNat]?) fun c1208 =>
 chkO (decide ((6 : Nat) ≤ c1208.length)) (
 chkO ((decide (0 ≤ ((IntKind.wrap .i64 (i1143 - 1)) : Int))) && (decide (((IntKind.wrap .i64 (i1143 - 1)) : Int) < ((jM : Nat) : Int)))) (
 optO ((setN yB (0 + i1143.toNat) (Qbo c1208 0 [gk, gn, gi, gc, gd, gh]))[0 + ((IntKind.wrap .i64 (i1143 - 1)).toNat)]?) fun c1209 =>
 chkO (decide ((6 : Nat) ≤ c1209.length)) (
 Qbs lb n kW jM wc wa jC wG wk wg wl wh wj wi jS jQ j5 j6 jX j0 jT jW jZ jP jV jY jU jO jR wJ K w4 wU (IntKind.wrap .i64 (i1143 - 1)) (setN (setN yB (0 + i1143.toNat) (Qbo c1208 0 [gk, gn, gi, gc, gd, gh])) (0 + ((IntKind.wrap .i64 (i1143 - 1)).toNat)) (Qbo c1209 0 [nu, nf, nv, nq, na, nm])))))))))
 else
 (Qb0 lb n jM wc wa jC wG wk wg wl wh wj wi jS jQ j5 j6 jX j0 jT jW jZ jP jV jY jU jO jR wJ K w4 wU i1143 yB))))
 else
 (Qb0 lb n jM wc wa jC wG wk wg wl wh wj wi jS jQ j5 j6 jX j0 jT jW jZ jP jV jY jU jO jR wJ K w4 wU i1143 yB) := (Qac _).trans (by kernel_rfl)
noncomputable def Qbt (lb n v6 : Nat) (K : AV → List (List (Option (List AV))) → Option CV) (jM wc : Nat) (wa jC : Int) (wk : Bool) (wg : LL) (wl : Bool) (wh : LL) (wj : LB) (wi jS jQ j5 : Int) (j6 : Bool) (jX : LL) (j0 : Int) (jT : LB) (jW jZ jP jV jY : Int) (jU : LB) (jO : Bool) (jR : LL) (yQ oE oz : Int) (kt : LL) : Option CV :=
 hold (Qas (E2 lb n 2 994) 2 (Qad (sub (B Qaa) [1, 1, 1, 1, 0, 0]) ++ [9]) [] (sub (B Qaa) [1, 1, 1, 1, 0, 0]) (Qak 2 (retK Tryz.prog (R Qaa) 2 K)) v6 ⟨fr 63 [(0, .rsl 42 0 8 0 jM wc), (1, vI wa), (2, .val (.fn Qae)), (6, vI yQ), (7, vI oE), (8, vI oz), (10, vI 20), (23, .rsl 42 0 8 0 jM wc), (24, vI jC), (25, vI wa), (26, .val (.fn Qae)), (27, .val (.tup []))], [bx 55 [(3, some [.val (.list wk wg), .val (.list wl wh)]), (4, some [vS wj, vI wi, vI jS, vI jQ, vI j5, .val (.list j6 jX)]), (5, some [vI j0, vS jT, vI jW, vI jZ, vI jP, vI jV, vI jY, vS jU, .val (.list jO jR)]), (8, some [.row 42 kt])], bx 9 [], bx 63 []], KK⟩)
noncomputable def QeX (lb n mA : Nat) (K : AV → List (List (Option (List AV))) → Option CV) (v6 jM wc : Nat) (wa yQ jC : Int) (wk : Bool) (wg : LL) (wl : Bool) (wh : LL) (wj : LB) (wi jS jQ j5 : Int) (j6 : Bool) (jX : LL) (j0 : Int) (jT : LB) (jW jZ jP jV jY : Int) (jU : LB) (jO : Bool) (jR : LL) (mz mY : Int) (mE : LL) : Option CV :=
 hold (Qas (E2 lb n 2 988) 2 (Qad (sub (B Qaa) [1, 1, 1, 1, 0, 0, 1, 0, 1, 0, 0, 0]) ++ []) [] (sub (B Qaa) [1, 1, 1, 1, 0, 0, 1, 0, 1, 0, 0, 0]) (Qak 4 (seqK (E2 lb n 2 990) (sub (B Qaa) [1, 1, 1, 1, 0, 0, 1, 0, 1, 0]) (sub (B Qaa) [1, 1, 1, 1, 0, 0, 1, 0, 1, 1]) (Qak 3 (QbH 2 (Qad (sub (B Qaa) [1, 1, 1, 1, 0, 0]) ++ [9]) [] (Qas (E2 lb n 2 994) 2 (Qad (sub (B Qaa) [1, 1, 1, 1, 0, 0]) ++ [9]) [] (sub (B Qaa) [1, 1, 1, 1, 0, 0]) (Qak 2 (retK Tryz.prog (R Qaa) 2 K)) v6) (Qak 2 (retK Tryz.prog (R Qaa) 2 K)))))) mA ⟨fr 63 [(0, .rsl 42 0 8 0 jM wc), (1, vI wa), (2, .val (.fn Qae)), (6, vI yQ), (7, vI mz), (8, vI mY), (10, vI 20), (23, .rsl 42 0 8 0 jM wc), (24, vI jC), (25, vI wa), (26, .val (.fn Qae)), (27, .val (.tup [])), (31, vI yQ), (32, .val (.int .i64 (IntKind.wrap .i64 (2 * yQ))))], [bx 55 [(3, some [.val (.list wk wg), .val (.list wl wh)]), (4, some [vS wj, vI wi, vI jS, vI jQ, vI j5, .val (.list j6 jX)]), (5, some [vI j0, vS jT, vI jW, vI jZ, vI jP, vI jV, vI jY, vS jU, .val (.list jO jR)]), (8, some [.row 42 mE])], bx 9 [], bx 63 []], KK⟩)
theorem Qeg (lb n v6 : Nat) (K : AV → List (List (Option (List AV))) → Option CV) (jM wc : Nat) (wa jC : Int) (wk : Bool) (wg : LL) (wl : Bool) (wh : LL) (wj : LB) (wi jS jQ j5 : Int) (j6 : Bool) (jX : LL) (j0 : Int) (jT : LB) (jW jZ jP jV jY : Int) (jU : LB) (jO : Bool) (jR : LL) (yQ oE oz : Int) (kt : LL) :
 Qbt lb n (v6 + 1) K jM wc wa jC wk wg wl wh wj wi jS jQ j5 j6 jX j0 jT jW jZ jP jV jY jU jO jR yQ oE oz kt =
 bif (decide (yQ < wa)) then
 (QeX lb n n K v6 jM wc wa yQ jC wk wg wl wh wj wi jS jQ j5 j6 jX j0 jT jW jZ jP jV jY jU jO jR 0 (IntKind.wrap .i64 (2 * yQ)) kt)
 else
 (K (.val (.tup [])) [bx 55 [(3, some [.val (.list wk wg), .val (.list wl wh)]), (4, some [vS wj, vI wi, vI jS, vI jQ, vI j5, .val (.list j6 jX)]), (5, some [vI j0, vS jT, vI jW, vI jZ, vI jP, vI jV, vI jY, vS jU, .val (.list jO jR)]), (8, some [.row 42 kt])], bx 9 []]) := (Qac _).trans (by kernel_rfl)
theorem QcB (lb n w4 jM wc : Nat) (wa jC wG : Int) (wk : Bool) (wg : LL) (wl : Bool) (wh : LL) (wj : LB) (wi jS jQ j5 : Int) (j6 : Bool) (jX : LL) (j0 : Int) (jT : LB) (jW jZ jP jV jY : Int) (jU : LB) (jO : Bool) (jR wJ : LL) (K : AV → List (List (Option (List AV))) → Option CV) (wU : Int) (kC : LL) :
 Qbc lb n (w4 + 1) jM wc wa jC wG wk wg wl wh wj wi jS jQ j5 j6 jX j0 jT jW jZ jP jV jY jU jO jR wJ K wU kC =
 bif (decide (wU < wa)) then
 (Qbs lb n n jM wc wa jC wG wk wg wl wh wj wi jS jQ j5 j6 jX j0 jT jW jZ jP jV jY jU jO jR wJ K w4 wU wU kC)
 else
 (Qbt lb n n K jM wc wa jC wk wg wl wh wj wi jS jQ j5 j6 jX j0 jT jW jZ jP jV jY jU jO jR 20 jC wG kC) := (Qac _).trans (by kernel_rfl)
theorem QeF (lb n : Nat) (K : AV → List (List (Option (List AV))) → Option CV) (jM wc : Nat) (wa : Int) (wk : Bool) (wg : LL) (wl : Bool) (wh : LL) (wj : LB) (wi jS jQ j5 : Int) (j6 : Bool) (jX : LL) (j0 : Int) (jT : LB) (jW jZ jP jV jY : Int) (jU : LB) (jO : Bool) (jR : LL) (jC wG : Int) (wJ : LL) :
 Qc5 lb n K jM wc wa wk wg wl wh wj wi jS jQ j5 j6 jX j0 jT jW jZ jP jV jY jU jO jR jC wG wJ =
 Qbc lb n n jM wc wa jC wG wk wg wl wh wj wi jS jQ j5 j6 jX j0 jT jW jZ jP jV jY jU jO jR wJ K (IntKind.wrap .i64 (jC + 1)) wJ := (Qac _).trans (by kernel_rfl)
theorem Qef (lb n kK : Nat) (K : AV → List (List (Option (List AV))) → Option CV) (jM wc : Nat) (wa : Int) (wk : Bool) (wg : LL) (wl : Bool) (wh : LL) (wj : LB) (wi jS jQ j5 : Int) (j6 : Bool) (jX : LL) (j0 : Int) (jT : LB) (jW jZ jP jV jY : Int) (jU : LB) (jO : Bool) (jR : LL) (yW vf : Int) (vM : LL) :
 QbZ lb n (kK + 1) K jM wc wa wk wg wl wh wj wi jS jQ j5 j6 jX j0 jT jW jZ jP jV jY jU jO jR yW vf vM =
 bif (decide (vf ≤ wa)) then
 (Qfd lb n n jM wc wa yW vf wk wg wl wh wj wi jS jQ j5 j6 jX j0 jT jW jZ jP jV jY jU jO jR vM K kK (IntKind.wrap .i64 (yW + 1)) vM)
 else
 (Qc5 lb n K jM wc wa wk wg wl wh wj wi jS jQ j5 j6 jX j0 jT jW jZ jP jV jY jU jO jR yW vf vM) := (Qac _).trans (by kernel_rfl)
theorem QeW (lb n : Nat) (K : AV → List (List (Option (List AV))) → Option CV) (jM wc : Nat) (wa : Int) (wk : Bool) (wg : LL) (wl : Bool) (wh : LL) (wj : LB) (wi jS jQ j5 : Int) (j6 : Bool) (jX : LL) (j0 : Int) (jT : LB) (jW jZ jP jV jY : Int) (jU : LB) (jO : Bool) (jR oB : LL) :
 Qch lb n K jM wc wa wk wg wl wh wj wi jS jQ j5 j6 jX j0 jT jW jZ jP jV jY jU jO jR oB =
 QbZ lb n n K jM wc wa wk wg wl wh wj wi jS jQ j5 j6 jX j0 jT jW jZ jP jV jY jU jO jR 0 20 oB := by kernel_rfl
theorem Qmh (lb n : Nat) (jt : LB) (js jh jl ji : Int) (jq : Bool) (aleg7 : LL) (oA : LB) (kZ vt kl vO : Int) (kY : Bool) (ow : LL) :
 top lb n Qae [.agg [.str jt, .int .i64 js, .int .i64 jh, .int .i64 jl, .int .i64 ji, .list jq aleg7], .agg [.str oA, .int .i64 kZ, .int .i64 vt, .int .i64 kl, .int .i64 vO, .list kY ow]] =
 optO (C lb n QfZ [.int .i64 jh, .int .i64 vt]) fun mh =>
 some (mh) := by kernel_rfl
theorem QnA (lb n : Nat) (a1 b2 : Int) :
 top lb n QfZ [.int .i64 a1, .int .i64 b2] =
 optO (C lb n Qfk [.int .i64 a1]) fun r3 =>
 optO (C lb n Qfk [.int .i64 b2]) fun r4 =>
 optO (CV.asB r3) fun b5 =>
 bif b5 then
 (optO (CV.asB r4) fun b6 =>
 bif b6 then
 (some (.int .i64 0))
 else
 (some (.int .i64 (-1))))
 else
 (optO (CV.asB r4) fun b7 =>
 bif b7 then
 (some (.int .i64 1))
 else
 (bif (decide (a1 < b2)) then
 (some (.int .i64 (-1)))
 else
 (bif (decide (a1 > b2)) then
 (some (.int .i64 1))
 else
 (some (.int .i64 0))))) := by kernel_rfl
theorem Qpj (lb n : Nat) (a1 : Int) :
 top lb n Qfk [.int .i64 a1] =
 some (.bool (a1 != a1)) := by kernel_rfl
end Go.Proofs
