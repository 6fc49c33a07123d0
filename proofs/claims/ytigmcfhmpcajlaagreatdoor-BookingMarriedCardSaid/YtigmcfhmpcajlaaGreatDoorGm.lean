/- Equations of functions, printed by program. Conditions: none. -/
import Derived.Test.YtigmcfhmpcajlaaGreatDoorEv
namespace Go.Proofs
open Go.Am
set_option maxRecDepth 100000
set_option linter.unusedVariables false
noncomputable def l35_BookingMarried_L1 :=
 fun lb n (y9 : Nat) aloc1 (ja : Bool) (aper3 : LL) je (jb : Bool) (aseg6 : LL) (jd : Bool) (aser9 : LL) jc (yn : Bool) (b12 : LL) y1 vF v80 vC vi vJ vG =>
 hold (Qau (E0 lb n 0 994) 0 (Qaj (sub (B QaR) [1, 1, 0, 1, 0, 0]) ++ [6, 8, 9]) [7] (sub (B QaR) [1, 1, 0, 1, 0, 0]) (Qal 0 (seqK (E0 lb n 0 997) (sub (B QaR) [1, 1, 0]) (sub (B QaR) [1, 1, 1]) (retK Tryz.prog (R QaR) 0 (outK (Qae Tryz.prog QaR))))) y9 ⟨fr 100 [(0, .val (.agg [.str aloc1, .list ja aper3, .int .i64 je, .list jb aseg6, .list jd aser9, .int .i64 jc])), (1, .val (.list yn b12)), (2, .ptr 0 2 0), (4, vB false), (5, vI y1)], [bx 100 [(2, some [.val vF, .val v80, .val vC, .val vi, .val vJ, .val vG])]], KK⟩)
noncomputable def Qf5 (lb n : Nat) (aloc1 : LB) (ja : Bool) (aper3 : LL) (je : Int) (jb : Bool) (aseg6 : LL) (jd : Bool) (aser9 : LL) (jc : Int) (yn : Bool) (b12 : LL) (oT : Int) (v145 v146 o4 oS oR o7 : CV) : Option CV :=
 hold (E0 lb n 0 997 (sub (B QaR) [1, 1, 1]) (retK Tryz.prog (R QaR) 0 (outK (Qae Tryz.prog QaR))) ⟨fr 100 [(0, .val (.agg [.str aloc1, .list ja aper3, .int .i64 je, .list jb aseg6, .list jd aser9, .int .i64 jc])), (1, .val (.list yn b12)), (2, .ptr 0 2 0), (4, vB false), (5, vI oT)], [bx 100 [(2, some [.val v145, .val v146, .val o4, .val oS, .val oR, .val o7])]], KK⟩)
theorem QiO (lb n : Nat) (aloc1 : LB) (ja : Bool) (aper3 : LL) (je : Int) (jb : Bool) (aseg6 : LL) (jd : Bool) (aser9 : LL) (jc : Int) (yn : Bool) (b12 : LL) (oT : Int) (v145 v146 o4 oS oR o7 : CV) :
 Qf5 lb n aloc1 ja aper3 je jb aseg6 jd aser9 jc yn b12 oT v145 v146 o4 oS oR o7 =
 optO (C lb n Qan []) fun pL =>
 some (pL) := (Qaf _).trans (by kernel_rfl)
theorem Qbg (lb n y9 : Nat) (aloc1 : LB) (ja : Bool) (aper3 : LL) (je : Int) (jb : Bool) (aseg6 : LL) (jd : Bool) (aser9 : LL) (jc : Int) (yn : Bool) (b12 : LL) (y1 : Int) (vF v80 vC vi vJ vG : CV) :
 l35_BookingMarried_L1 lb n (y9 + 1) aloc1 ja aper3 je jb aseg6 jd aser9 jc yn b12 y1 vF v80 vC vi vJ vG =
 bif (decide (y1 < (b12.length : Int))) then
 (optO (atL b12 y1) fun c115 =>
 chkO (c115.length == 2) (
 optO (c115[1]?) fun pi =>
 optO (CV.asI .u8 pi) fun oe =>
 bif ((IntKind.wrap .i64 (Int.tmod oe 9)) == 5) then
 (l35_BookingMarried_L1 lb n y9 aloc1 ja aper3 je jb aseg6 jd aser9 jc yn b12 (IntKind.wrap .i64 (y1 + 1)) vF v80 vC vi vJ vG)
 else
 (bif ((IntKind.wrap .i64 (Int.tmod oe 9)) == 6) then
 (l35_BookingMarried_L1 lb n y9 aloc1 ja aper3 je jb aseg6 jd aser9 jc yn b12 (IntKind.wrap .i64 (y1 + 1)) vF v80 vC vi vJ vG)
 else
 (bif ((IntKind.wrap .i64 (Int.tmod oe 9)) == 7) then
 (l35_BookingMarried_L1 lb n y9 aloc1 ja aper3 je jb aseg6 jd aser9 jc yn b12 (IntKind.wrap .i64 (y1 + 1)) vF v80 vC vi vJ vG)
 else
 (optO (atL b12 y1) fun c118 =>
 chkO (c118.length == 2) (
 optO (c118[0]?) fun pp =>
 optO (CV.asI .u8 pp) fun qJ =>
 optO (CV.asL vi) fun m5 =>
 chkO ((m5.2.length : Int) != 0) (
 optO (C lb n Qab [.agg [vF, v80, vC, vi, vJ, vG], .int .i64 (Int.tmod (IntKind.wrap .i64 (qJ)) (m5.2.length : Int)), .int .i64 (IntKind.wrap .i64 (Int.tmod oe 9))]) fun gi =>
 optO (CV.asT gi) fun pA =>
 optO (pA[0]?) fun oh =>
 optO (CV.asT gi) fun sj =>
 optO (sj[1]?) fun lD =>
 optO (CV.asT gi) fun t127 =>
 optO (t127[2]?) fun vL =>
 optO (CV.asA oh) fun c129 =>
 chkO (c129.length == 6) (
 optO (c129[0]?) fun y6 =>
 optO (c129[1]?) fun kG =>
 optO (c129[2]?) fun kI =>
 optO (c129[3]?) fun vZ =>
 optO (c129[4]?) fun kw =>
 optO (c129[5]?) fun oX =>
 optO (CV.asI .i64 vL) fun kx =>
 bif (kx == 18) then
 (some (.bool false))
 else
 (optO (CV.asI .i64 vL) fun nY =>
 bif (nY == 0) then
 (optO (CV.asL vZ) fun pq =>
 optO (CV.asL vi) fun sr =>
 bif ((pq.2.length : Int) != (sr.2.length : Int)) then
 (some (.bool false))
 else
 (optO (C lb n Qaw [.agg [y6, kG, kI, vZ, kw, oX]]) fun qN =>
 optO (CV.asB qN) fun qg =>
 bif (!qg) then
 (some (.bool false))
 else
 (optO (CV.asI .i64 vL) fun qk =>
 bif (qk == 0) then
 (l35_BookingMarried_L1 lb n y9 aloc1 ja aper3 je jb aseg6 jd aser9 jc yn b12 (IntKind.wrap .i64 (y1 + 1)) y6 kG kI vZ kw oX)
 else
 (l35_BookingMarried_L1 lb n y9 aloc1 ja aper3 je jb aseg6 jd aser9 jc yn b12 (IntKind.wrap .i64 (y1 + 1)) vF v80 vC vi vJ vG))))
 else
 (optO (CV.asI .i64 vL) fun i143 =>
 bif (i143 == 0) then
 (l35_BookingMarried_L1 lb n y9 aloc1 ja aper3 je jb aseg6 jd aser9 jc yn b12 (IntKind.wrap .i64 (y1 + 1)) y6 kG kI vZ kw oX)
 else
 (l35_BookingMarried_L1 lb n y9 aloc1 ja aper3 je jb aseg6 jd aser9 jc yn b12 (IntKind.wrap .i64 (y1 + 1)) vF v80 vC vi vJ vG)))))))))))
 else
 (Qf5 lb n aloc1 ja aper3 je jb aseg6 jd aser9 jc yn b12 y1 vF v80 vC vi vJ vG) := (Qaf _).trans (by kernel_rfl)
theorem Qj1 (lb n : Nat) (aloc1 : LB) (ja : Bool) (aper3 : LL) (je : Int) (jb : Bool) (aseg6 : LL) (jd : Bool) (aser9 : LL) (jc : Int) (yn : Bool) (b12 : LL) :
 top lb n QaR [.agg [.str aloc1, .list ja aper3, .int .i64 je, .list jb aseg6, .list jd aser9, .int .i64 jc], .list yn b12] =
 optO (C lb n QaD [.agg [.str aloc1, .list ja aper3, .int .i64 je, .list jb aseg6, .list jd aser9, .int .i64 jc]]) fun m8 =>
 optO (CV.asB m8) fun yB =>
 bif (!yB) then
 (optO (C lb n Qan []) fun y3 =>
 some (y3))
 else
 (bif (decide ((b12.length : Int) > 20)) then
 (optO (C lb n Qan []) fun g9 =>
 some (g9))
 else
 (bif ((aseg6.length : Int) == 0) then
 (optO (C lb n Qan []) fun jg =>
 some (jg))
 else
 (optO (C lb n Qak [.agg [.str aloc1, .list ja aper3, .int .i64 je, .list jb aseg6, .list jd aser9, .int .i64 jc]]) fun jy =>
 optO (CV.asL jy) fun mf =>
 bif (decide ((mf.2.length : Int) > 0)) then
 (optO (C lb n Qan []) fun li =>
 some (li))
 else
 (optO (C lb n Qaw [.agg [.str aloc1, .list ja aper3, .int .i64 je, .list jb aseg6, .list jd aser9, .int .i64 jc]]) fun jn =>
 optO (CV.asB jn) fun mg =>
 bif (!mg) then
 (optO (C lb n Qan []) fun gT =>
 some (gT))
 else
 (l35_BookingMarried_L1 lb n n aloc1 ja aper3 je jb aseg6 jd aser9 jc yn b12 0 (.str aloc1) (.list ja aper3) (.int .i64 je) (.list jb aseg6) (.list jd aser9) (.int .i64 jc)))))) := by kernel_rfl
noncomputable def Qfw (lb n yw : Nat) (aloc1 : LB) (ja : Bool) (aper3 : LL) (je : Int) (jb : Bool) (aseg6 : LL) (jd : Bool) (aser9 : LL) (jc wB : Int) : Option CV :=
 hold (Qau (E0 lb n 0 995) 0 (Qaj (sub (B Qaw) [1, 0, 1, 0, 0]) ++ [4, 4]) [] (sub (B Qaw) [1, 0, 1, 0, 0]) (Qal 0 (seqK (E0 lb n 0 998) (sub (B Qaw) [1, 0]) (sub (B Qaw) [1, 1]) (retK Tryz.prog (R Qaw) 0 (outK (Qae Tryz.prog Qaw))))) yw ⟨fr 54 [(0, .val (.agg [.str aloc1, .list ja aper3, .int .i64 je, .list jb aseg6, .list jd aser9, .int .i64 jc])), (1, .ptr 0 1 0), (2, vB false), (3, vI wB)], [bx 54 [(1, some [vS aloc1, .val (.list ja aper3), vI je, .val (.list jb aseg6), .val (.list jd aser9), vI jc])]], KK⟩)
noncomputable def Qes (lb n kV yw : Nat) (aloc1 : LB) (ja : Bool) (aper3 : LL) (je : Int) (jb : Bool) (aseg6 : LL) (jd : Bool) (aser9 : LL) (jc wB vD : Int) : Option CV :=
 hold (Qau (E0 lb n 0 989) 0 (Qaj (sub (B Qaw) [1, 0, 1, 0, 0, 1, 0, 0, 1, 0, 0]) ++ []) [] (sub (B Qaw) [1, 0, 1, 0, 0, 1, 0, 0, 1, 0, 0]) (Qal 2 (Qal 1 (seqK (E0 lb n 0 993) (sub (B Qaw) [1, 0, 1, 0, 0, 1, 0]) (sub (B Qaw) [1, 0, 1, 0, 0, 1, 1]) (QbK 0 (Qaj (sub (B Qaw) [1, 0, 1, 0, 0]) ++ [4, 4]) [] (Qau (E0 lb n 0 995) 0 (Qaj (sub (B Qaw) [1, 0, 1, 0, 0]) ++ [4, 4]) [] (sub (B Qaw) [1, 0, 1, 0, 0]) (Qal 0 (seqK (E0 lb n 0 998) (sub (B Qaw) [1, 0]) (sub (B Qaw) [1, 1]) (retK Tryz.prog (R Qaw) 0 (outK (Qae Tryz.prog Qaw))))) yw) (Qal 0 (seqK (E0 lb n 0 998) (sub (B Qaw) [1, 0]) (sub (B Qaw) [1, 1]) (retK Tryz.prog (R Qaw) 0 (outK (Qae Tryz.prog Qaw))))))))) kV ⟨fr 54 [(0, .val (.agg [.str aloc1, .list ja aper3, .int .i64 je, .list jb aseg6, .list jd aser9, .int .i64 jc])), (1, .ptr 0 1 0), (2, vB false), (3, vI wB), (4, vI vD)], [bx 54 [(1, some [vS aloc1, .val (.list ja aper3), vI je, .val (.list jb aseg6), .val (.list jd aser9), vI jc])]], KK⟩)
noncomputable def Qnb (lb n yw : Nat) (aloc1 : LB) (ja : Bool) (aper3 : LL) (je : Int) (jb : Bool) (aseg6 : LL) (jd : Bool) (aser9 : LL) (jc wB vb : Int) : Option CV :=
 hold (E0 lb n 0 993 (sub (B Qaw) [1, 0, 1, 0, 0, 1, 1]) (QbK 0 (Qaj (sub (B Qaw) [1, 0, 1, 0, 0]) ++ [4, 4]) [] (Qau (E0 lb n 0 995) 0 (Qaj (sub (B Qaw) [1, 0, 1, 0, 0]) ++ [4, 4]) [] (sub (B Qaw) [1, 0, 1, 0, 0]) (Qal 0 (seqK (E0 lb n 0 998) (sub (B Qaw) [1, 0]) (sub (B Qaw) [1, 1]) (retK Tryz.prog (R Qaw) 0 (outK (Qae Tryz.prog Qaw))))) yw) (Qal 0 (seqK (E0 lb n 0 998) (sub (B Qaw) [1, 0]) (sub (B Qaw) [1, 1]) (retK Tryz.prog (R Qaw) 0 (outK (Qae Tryz.prog Qaw)))))) ⟨fr 54 [(0, .val (.agg [.str aloc1, .list ja aper3, .int .i64 je, .list jb aseg6, .list jd aser9, .int .i64 jc])), (1, .ptr 0 1 0), (2, vB false), (3, vI wB), (4, vI vb)], [bx 54 [(1, some [vS aloc1, .val (.list ja aper3), vI je, .val (.list jb aseg6), .val (.list jd aser9), vI jc])]], KK⟩)
theorem Qpv (lb n yw : Nat) (aloc1 : LB) (ja : Bool) (aper3 : LL) (je : Int) (jb : Bool) (aseg6 : LL) (jd : Bool) (aser9 : LL) (jc wB vb : Int) :
 Qnb lb n yw aloc1 ja aper3 je jb aseg6 jd aser9 jc wB vb =
 Qfw lb n yw aloc1 ja aper3 je jb aseg6 jd aser9 jc (IntKind.wrap .i64 (wB + 1)) := (Qaf _).trans (by kernel_rfl)
theorem QiG (lb n kV yw : Nat) (aloc1 : LB) (ja : Bool) (aper3 : LL) (je : Int) (jb : Bool) (aseg6 : LL) (jd : Bool) (aser9 : LL) (jc wB vD : Int) :
 Qes lb n (kV + 1) yw aloc1 ja aper3 je jb aseg6 jd aser9 jc wB vD =
 bif (decide (vD < wB)) then
 (optO (atL aseg6 wB) fun c98 =>
 chkO (c98.length == 10) (
 optO (c98[9]?) fun jU =>
 optO (CV.asI .i64 jU) fun kL =>
 bif (decide (kL > 0)) then
 (optO (atL aseg6 wB) fun c101 =>
 chkO (c101.length == 10) (
 optO (c101[9]?) fun wF =>
 optO (atL aseg6 vD) fun c103 =>
 chkO (c103.length == 10) (
 optO (c103[9]?) fun jr =>
 optO (CV.asI .i64 wF) fun vq =>
 optO (CV.asI .i64 jr) fun n6 =>
 bif (vq == n6) then
 (optO (atL aseg6 wB) fun c107 =>
 chkO (c107.length == 10) (
 optO (c107[8]?) fun jB =>
 optO (atL aseg6 vD) fun c109 =>
 chkO (c109.length == 10) (
 optO (c109[8]?) fun pI =>
 optO (CV.asI .i64 jB) fun ql =>
 optO (CV.asI .i64 pI) fun pm =>
 bif (ql != pm) then
 (some (.bool false))
 else
 (Qes lb n kV yw aloc1 ja aper3 je jb aseg6 jd aser9 jc wB (IntKind.wrap .i64 (vD + 1))))))
 else
 (Qes lb n kV yw aloc1 ja aper3 je jb aseg6 jd aser9 jc wB (IntKind.wrap .i64 (vD + 1))))))
 else
 (Qes lb n kV yw aloc1 ja aper3 je jb aseg6 jd aser9 jc wB (IntKind.wrap .i64 (vD + 1)))))
 else
 (Qnb lb n yw aloc1 ja aper3 je jb aseg6 jd aser9 jc wB vD) := (Qaf _).trans (by kernel_rfl)
noncomputable def Qnk (lb n : Nat) (aloc1 : LB) (ja : Bool) (aper3 : LL) (je : Int) (jb : Bool) (aseg6 : LL) (jd : Bool) (aser9 : LL) (jc o6 : Int) : Option CV :=
 hold (E0 lb n 0 998 (sub (B Qaw) [1, 1]) (retK Tryz.prog (R Qaw) 0 (outK (Qae Tryz.prog Qaw))) ⟨fr 54 [(0, .val (.agg [.str aloc1, .list ja aper3, .int .i64 je, .list jb aseg6, .list jd aser9, .int .i64 jc])), (1, .ptr 0 1 0), (2, vB false), (3, vI o6)], [bx 54 [(1, some [vS aloc1, .val (.list ja aper3), vI je, .val (.list jb aseg6), .val (.list jd aser9), vI jc])]], KK⟩)
theorem QpJ (lb n : Nat) (aloc1 : LB) (ja : Bool) (aper3 : LL) (je : Int) (jb : Bool) (aseg6 : LL) (jd : Bool) (aser9 : LL) (jc o6 : Int) :
 Qnk lb n aloc1 ja aper3 je jb aseg6 jd aser9 jc o6 =
 some (.bool true) := (Qaf _).trans (by kernel_rfl)
theorem Qix (lb n yw : Nat) (aloc1 : LB) (ja : Bool) (aper3 : LL) (je : Int) (jb : Bool) (aseg6 : LL) (jd : Bool) (aser9 : LL) (jc wB : Int) :
 Qfw lb n (yw + 1) aloc1 ja aper3 je jb aseg6 jd aser9 jc wB =
 bif (decide (wB < (aseg6.length : Int))) then
 (Qes lb n n yw aloc1 ja aper3 je jb aseg6 jd aser9 jc wB 0)
 else
 (Qnk lb n aloc1 ja aper3 je jb aseg6 jd aser9 jc wB) := (Qaf _).trans (by kernel_rfl)
theorem Qtd (lb n : Nat) (aloc1 : LB) (ja : Bool) (aper3 : LL) (je : Int) (jb : Bool) (aseg6 : LL) (jd : Bool) (aser9 : LL) (jc : Int) :
 top lb n Qaw [.agg [.str aloc1, .list ja aper3, .int .i64 je, .list jb aseg6, .list jd aser9, .int .i64 jc]] =
 Qfw lb n n aloc1 ja aper3 je jb aseg6 jd aser9 jc 0 := by kernel_rfl
end Go.Proofs
