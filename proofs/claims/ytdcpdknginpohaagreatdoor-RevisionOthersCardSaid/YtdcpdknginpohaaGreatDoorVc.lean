/- Equations of functions, printed by program. Conditions: none. -/
import Derived.Test.YtdcpdknginpohaaGreatDoorEv
namespace Go.Proofs
open Go.Am
set_option maxRecDepth 100000
set_option linter.unusedVariables false
noncomputable def revision_allowed_L1 :=
 fun lb n (nI : Nat) (jO : Bool) (a2 : LL) yf yM yN wU w9 wV yy yx (yg : Bool) (yz : LL) vL kg =>
 hold (Qau (E2 lb n 2 995) 2 (Qae (sub (B Qa8) [1, 0, 1, 0, 0]) ++ [5]) [] (sub (B Qa8) [1, 0, 1, 0, 0]) (Qal 0 (seqK (E2 lb n 2 998) (sub (B Qa8) [1, 0]) (sub (B Qa8) [1, 1]) (retK Tryz.prog (R Qa8) 2 (inlK (opAt (QaA (sub (B Qay) [1, 0])) 2) ⟨fr 9 [(0, .val (.list jO a2)), (1, .clo QbC [.ptr 0 3 0]), (4, vB false), (5, .val (.list jO a2)), (6, .clo QbC [.ptr 0 3 0])], [bx 39 [(3, some [vI yf, vS yM, vI yN, vI wU, vI w9, vI wV, vI yy, vS yx, .val (.list yg yz)])], bx 9 []], KK⟩ (opsK Tryz.prog (C lb n) (I8 lb n) 1 (QaA (sub (B Qay) [1, 0])) ((QaA (sub (B Qay) [1, 0])).drop 3) ((seqK (E1 lb n 1 998) (sub (B Qay) [1, 0]) (sub (B Qay) [1, 1]) (retK Tryz.prog (R Qay) 1 (inlK (opAt (QaA (sub (B QaR) [1, 1, 1, 0])) 2) ⟨fr 39 [(0, .val (.list jO a2)), (1, .val (.agg [.int .i64 yf, .str yM, .int .i64 yN, .int .i64 wU, .int .i64 w9, .int .i64 wV, .int .i64 yy, .str yx, .list yg yz])), (3, .ptr 0 3 0), (4, vI 0), (5, vV vL), (21, .val (.list jO a2)), (22, .clo QbC [.ptr 0 3 0])], [bx 39 [(3, some [vI yf, vS yM, vI yN, vI wU, vI w9, vI wV, vI yy, vS yx, .val (.list yg yz)])]], KK⟩ (opsK Tryz.prog (C lb n) (I9 lb n) 0 (QaA (sub (B QaR) [1, 1, 1, 0])) ((QaA (sub (B QaR) [1, 1, 1, 0])).drop 3) ((seqK (E0 lb n 0 996) (sub (B QaR) [1, 1, 1, 0]) (sub (B QaR) [1, 1, 1, 1]) (retK Tryz.prog (R QaR) 0 (outK (Qaj Tryz.prog QaR)))) .normal))))) .normal)))))) nI ⟨fr 19 [(0, .val (.list jO a2)), (1, .clo QbC [.ptr 0 3 0]), (4, vI 0), (6, .val (.list jO a2)), (7, .val (.int .i64 (a2.length : Int))), (8, vI kg)], [bx 39 [(3, some [vI yf, vS yM, vI yN, vI wU, vI w9, vI wV, vI yy, vS yx, .val (.list yg yz)])], bx 9 [], bx 19 []], KK⟩)
noncomputable def Qg7 (lb n : Nat) (jO : Bool) (a2 : LL) (yf : Int) (yM : LB) (yN wU w9 wV yy : Int) (yx : LB) (yg : Bool) (yz : LL) (vL : CV) : Option CV :=
 hold (E2 lb n 2 998 (sub (B Qa8) [1, 1]) (retK Tryz.prog (R Qa8) 2 (inlK (opAt (QaA (sub (B Qay) [1, 0])) 2) ⟨fr 9 [(0, .val (.list jO a2)), (1, .clo QbC [.ptr 0 3 0]), (4, vB false), (5, .val (.list jO a2)), (6, .clo QbC [.ptr 0 3 0])], [bx 39 [(3, some [vI yf, vS yM, vI yN, vI wU, vI w9, vI wV, vI yy, vS yx, .val (.list yg yz)])], bx 9 []], KK⟩ (opsK Tryz.prog (C lb n) (I8 lb n) 1 (QaA (sub (B Qay) [1, 0])) ((QaA (sub (B Qay) [1, 0])).drop 3) ((seqK (E1 lb n 1 998) (sub (B Qay) [1, 0]) (sub (B Qay) [1, 1]) (retK Tryz.prog (R Qay) 1 (inlK (opAt (QaA (sub (B QaR) [1, 1, 1, 0])) 2) ⟨fr 39 [(0, .val (.list jO a2)), (1, .val (.agg [.int .i64 yf, .str yM, .int .i64 yN, .int .i64 wU, .int .i64 w9, .int .i64 wV, .int .i64 yy, .str yx, .list yg yz])), (3, .ptr 0 3 0), (4, vI 0), (5, vV vL), (21, .val (.list jO a2)), (22, .clo QbC [.ptr 0 3 0])], [bx 39 [(3, some [vI yf, vS yM, vI yN, vI wU, vI w9, vI wV, vI yy, vS yx, .val (.list yg yz)])]], KK⟩ (opsK Tryz.prog (C lb n) (I9 lb n) 0 (QaA (sub (B QaR) [1, 1, 1, 0])) ((QaA (sub (B QaR) [1, 1, 1, 0])).drop 3) ((seqK (E0 lb n 0 996) (sub (B QaR) [1, 1, 1, 0]) (sub (B QaR) [1, 1, 1, 1]) (retK Tryz.prog (R QaR) 0 (outK (Qaj Tryz.prog QaR)))) .normal))))) .normal)))) ⟨fr 19 [(0, .val (.list jO a2)), (1, .clo QbC [.ptr 0 3 0]), (4, vI 0)], [bx 39 [(3, some [vI yf, vS yM, vI yN, vI wU, vI w9, vI wV, vI yy, vS yx, .val (.list yg yz)])], bx 9 [], bx 19 []], KK⟩)
theorem Qj1 (lb n : Nat) (jO : Bool) (a2 : LL) (yf : Int) (yM : LB) (yN wU w9 wV yy : Int) (yx : LB) (yg : Bool) (yz : LL) (vL : CV) :
 Qg7 lb n jO a2 yf yM yN wU w9 wV yy yx yg yz vL =
 bif (yf == 1) then
 (bif (yf != 1) then
 (some (.int .i64 7))
 else
 (some (.int .i64 0)))
 else
 (bif (yf != 1) then
 (some (.int .i64 7))
 else
 (some (.int .i64 0))) := (Qad _).trans (by kernel_rfl)
theorem Qfw (lb n nI : Nat) (jO : Bool) (a2 : LL) (yf : Int) (yM : LB) (yN wU w9 wV yy : Int) (yx : LB) (yg : Bool) (yz : LL) (vL : CV) (kg : Int) :
 revision_allowed_L1 lb n (nI + 1) jO a2 yf yM yN wU w9 wV yy yx yg yz vL kg =
 bif (decide (kg < (a2.length : Int))) then
 (optO (atL a2 kg) fun c38 =>
 chkO (c38.length == 6) (
 optO (c38[0]?) fun gw =>
 optO (c38[1]?) fun kX =>
 optO (c38[2]?) fun ny =>
 optO (c38[3]?) fun gi =>
 optO (c38[4]?) fun oi =>
 optO (c38[5]?) fun k4 =>
 optO (C lb n QdW [.agg [gw, kX, ny, gi, oi, k4], .agg [.int .i64 yf, .str yM, .int .i64 yN, .int .i64 wU, .int .i64 w9, .int .i64 wV, .int .i64 yy, .str yx, .list yg yz]]) fun zz =>
 optO (CV.asB zz) fun o0 =>
 bif o0 then
 (bif (yf == 1) then
 (bif (decide (kg ≥ 0)) then
 (some (.int .i64 6))
 else
 (bif (yf != 1) then
 (bif (!(decide (kg ≥ 0))) then
 (some (.int .i64 7))
 else
 (some (.int .i64 0)))
 else
 (some (.int .i64 0))))
 else
 (bif (yf != 1) then
 (bif (!(decide (kg ≥ 0))) then
 (some (.int .i64 7))
 else
 (some (.int .i64 0)))
 else
 (some (.int .i64 0))))
 else
 (revision_allowed_L1 lb n nI jO a2 yf yM yN wU w9 wV yy yx yg yz vL (IntKind.wrap .i64 (kg + 1)))))
 else
 (Qg7 lb n jO a2 yf yM yN wU w9 wV yy yx yg yz vL ) := (Qad _).trans (by kernel_rfl)
theorem Ql1 (lb n : Nat) (jO : Bool) (a2 : LL) (yf : Int) (yM : LB) (yN wU w9 wV yy : Int) (yx : LB) (yg : Bool) (yz : LL) :
 top lb n QaR [.list jO a2, .agg [.int .i64 yf, .str yM, .int .i64 yN, .int .i64 wU, .int .i64 w9, .int .i64 wV, .int .i64 yy, .str yx, .list yg yz]] =
 bif (decide (yf < 1)) then
 (some (.int .i64 8))
 else
 (bif (decide (yf > 5)) then
 (some (.int .i64 8))
 else
 (optO (C lb n Qbt [.agg [.int .i64 wU, .int .i64 w9, .int .i64 wV]]) fun vL =>
 optO (CV.asI .i64 vL) fun kM =>
 bif (kM != 0) then
 (some (vL))
 else
 (revision_allowed_L1 lb n n jO a2 yf yM yN wU w9 wV yy yx yg yz vL 0))) := by kernel_rfl
noncomputable def QcV (lb n gt : Nat) (ja : Bool) (aair2 : LL) (jb : Bool) (adis4 : LL) (jI : Bool) (b6 : LL) (wn : Int) (wG : LB) (wc jG jN jH wm : Int) (wl : LB) (j5 : Bool) (wh : LL) (vQ : CV) (vY : Bool) (l45 : LL) (i46 : Int) : Option CV :=
 hold (Qau (E0 lb n 0 993) 0 (Qae (sub (B Qbi) [1, 1, 1, 0, 1, 0, 0]) ++ [12, 13]) [11] (sub (B Qbi) [1, 1, 1, 0, 1, 0, 0]) (Qal 0 (seqK (E0 lb n 0 996) (sub (B Qbi) [1, 1, 1, 0]) (sub (B Qbi) [1, 1, 1, 1]) (retK Tryz.prog (R Qbi) 0 (outK (Qaj Tryz.prog Qbi))))) gt ⟨fr 82 [(0, .val (.agg [.list ja aair2, .list jb adis4])), (1, .val (.list jI b6)), (2, .val (.agg [.int .i64 wn, .str wG, .int .i64 wc, .int .i64 jG, .int .i64 jN, .int .i64 jH, .int .i64 wm, .str wl, .list j5 wh])), (3, .ptr 0 3 0), (5, .ptr 0 5 0), (6, .lst true true 42 []), (7, vI 0), (8, vV vQ), (9, .lst true vY 42 l45), (22, .val (.list jI b6)), (23, .val (.int .i64 (b6.length : Int))), (24, vI i46)], [bx 82 [(3, some [.val (.list ja aair2), .val (.list jb adis4)]), (5, some [vI wn, vS wG, vI wc, vI jG, vI jN, vI jH, vI wm, vS wl, .val (.list j5 wh)])]], KK⟩)
noncomputable def Qim (lb n : Nat) (ja : Bool) (aair2 : LL) (jb : Bool) (adis4 : LL) (jI : Bool) (b6 : LL) (wn : Int) (wG : LB) (wc jG jN jH wm : Int) (wl : LB) (j5 : Bool) (wh : LL) (vQ : CV) (mG : Bool) (l82 : LL) : Option CV :=
 hold (E0 lb n 0 996 (sub (B Qbi) [1, 1, 1, 1]) (retK Tryz.prog (R Qbi) 0 (outK (Qaj Tryz.prog Qbi))) ⟨fr 82 [(0, .val (.agg [.list ja aair2, .list jb adis4])), (1, .val (.list jI b6)), (2, .val (.agg [.int .i64 wn, .str wG, .int .i64 wc, .int .i64 jG, .int .i64 jN, .int .i64 jH, .int .i64 wm, .str wl, .list j5 wh])), (3, .ptr 0 3 0), (5, .ptr 0 5 0), (6, .lst true true 42 []), (7, vI 0), (8, vV vQ), (9, .lst true mG 42 l82)], [bx 82 [(3, some [.val (.list ja aair2), .val (.list jb adis4)]), (5, some [vI wn, vS wG, vI wc, vI jG, vI jN, vI jH, vI wm, vS wl, .val (.list j5 wh)])]], KK⟩)
theorem Qls (lb n : Nat) (ja : Bool) (aair2 : LL) (jb : Bool) (adis4 : LL) (jI : Bool) (b6 : LL) (wn : Int) (wG : LB) (wc jG jN jH wm : Int) (wl : LB) (j5 : Bool) (wh : LL) (vQ : CV) (mG : Bool) (l82 : LL) :
 Qim lb n ja aair2 jb adis4 jI b6 wn wG wc jG jN jH wm wl j5 wh vQ mG l82 =
 bif (wn == 1) then
 (optO (C lb n Qah [.agg [.list ja aair2, .list jb adis4], .agg [.str wG, .int .i64 wc, .int .i64 jG, .int .i64 jN, .int .i64 jH, .list j5 wh]]) fun pU =>
 optO (CV.asL pU) fun sE =>
 bif (decide ((sE.2.length : Int) > 0)) then
 (optO (CV.asL pU) fun z7 =>
 optO (atL z7.2 0) fun c86 =>
 chkO (c86.length == 2) (
 optO (c86[0]?) fun z6 =>
 some (.tup [.list true [], z6])))
 else
 (chkO (room (l82.length + 1) 72) (
 some (.tup [.list (mG && false) (l82 ++ [[CV.str wG, CV.int .i64 wc, CV.int .i64 jG, CV.int .i64 jN, CV.int .i64 jH, CV.list j5 wh]]), .int .i64 0]))))
 else
 (some (.tup [.list mG l82, .int .i64 0])) := (Qad _).trans (by kernel_rfl)
theorem Qcp (lb n gt : Nat) (ja : Bool) (aair2 : LL) (jb : Bool) (adis4 : LL) (jI : Bool) (b6 : LL) (wn : Int) (wG : LB) (wc jG jN jH wm : Int) (wl : LB) (j5 : Bool) (wh : LL) (vQ : CV) (vY : Bool) (l45 : LL) (i46 : Int) :
 QcV lb n (gt + 1) ja aair2 jb adis4 jI b6 wn wG wc jG jN jH wm wl j5 wh vQ vY l45 i46 =
 bif (decide (i46 < (b6.length : Int))) then
 (optO (atL b6 i46) fun c65 =>
 chkO (c65.length == 6) (
 optO (c65[0]?) fun vJ =>
 optO (c65[1]?) fun vP =>
 optO (c65[2]?) fun vG =>
 optO (c65[3]?) fun vW =>
 optO (c65[4]?) fun gv =>
 optO (c65[5]?) fun nx =>
 bif (wn == 1) then
 (chkO (room (l45.length + 1) 72) (
 QcV lb n gt ja aair2 jb adis4 jI b6 wn wG wc jG jN jH wm wl j5 wh vQ (vY && false) (l45 ++ [[vJ, vP, vG, vW, gv, nx]]) (IntKind.wrap .i64 (i46 + 1))))
 else
 (optO (C lb n QdW [.agg [vJ, vP, vG, vW, gv, nx], .agg [.int .i64 wn, .str wG, .int .i64 wc, .int .i64 jG, .int .i64 jN, .int .i64 jH, .int .i64 wm, .str wl, .list j5 wh]]) fun sI =>
 optO (CV.asB sI) fun sP =>
 bif (!sP) then
 (chkO (room (l45.length + 1) 72) (
 QcV lb n gt ja aair2 jb adis4 jI b6 wn wG wc jG jN jH wm wl j5 wh vQ (vY && false) (l45 ++ [[vJ, vP, vG, vW, gv, nx]]) (IntKind.wrap .i64 (i46 + 1))))
 else
 (optO (C lb n Qan [.agg [.list ja aair2, .list jb adis4], .agg [vJ, vP, vG, vW, gv, nx], .agg [.int .i64 wn, .str wG, .int .i64 wc, .int .i64 jG, .int .i64 jN, .int .i64 jH, .int .i64 wm, .str wl, .list j5 wh]]) fun pT =>
 optO (CV.asT pT) fun t75 =>
 optO (t75[0]?) fun pg =>
 optO (CV.asT pT) fun zx =>
 optO (zx[1]?) fun gc =>
 optO (CV.asI .i64 gc) fun sT =>
 bif (sT != 0) then
 (some (.tup [.list true [], gc]))
 else
 (optO (CV.asL pg) fun nG =>
 chkO (nG.2.all (·.length == 6)) (
 chkO (room (l45.length + nG.2.length) 72) (
 QcV lb n gt ja aair2 jb adis4 jI b6 wn wG wc jG jN jH wm wl j5 wh vQ (vY && nG.2.isEmpty) (l45 ++ nG.2) (IntKind.wrap .i64 (i46 + 1)))))))))
 else
 (Qim lb n ja aair2 jb adis4 jI b6 wn wG wc jG jN jH wm wl j5 wh vQ vY l45) := (Qad _).trans (by kernel_rfl)
theorem Qig (lb n : Nat) (ja : Bool) (aair2 : LL) (jb : Bool) (adis4 : LL) (jI : Bool) (b6 : LL) (wn : Int) (wG : LB) (wc jG jN jH wm : Int) (wl : LB) (j5 : Bool) (wh : LL) :
 top lb n Qbi [.agg [.list ja aair2, .list jb adis4], .list jI b6, .agg [.int .i64 wn, .str wG, .int .i64 wc, .int .i64 jG, .int .i64 jN, .int .i64 jH, .int .i64 wm, .str wl, .list j5 wh]] =
 optO (C lb n QaR [.list jI b6, .agg [.int .i64 wn, .str wG, .int .i64 wc, .int .i64 jG, .int .i64 jN, .int .i64 jH, .int .i64 wm, .str wl, .list j5 wh]]) fun vQ =>
 optO (CV.asI .i64 vQ) fun i20 =>
 bif (i20 != 0) then
 (some (.tup [.list true [], vQ]))
 else
 (QcV lb n n ja aair2 jb adis4 jI b6 wn wG wc jG jN jH wm wl j5 wh vQ true [] 0) := by kernel_rfl
end Go.Proofs
