/- Equations of functions, printed by program. Conditions: none. -/
import Derived.Test.YtbdclhadjcfadaaGreatDoorEv
namespace Go.Proofs
open Go.Am
set_option maxRecDepth 100000
set_option linter.unusedVariables false
noncomputable def cond_codes_text_Carrier_L1 :=
 fun lb n (j9 : Nat) (jk : Bool) (a2 : LL) jn =>
 hold (QaC (E0 lb n 0 994) 0 (Qal (sub (B Qam) [1,1,0,1,0,0]) ++ [5,6]) [] (sub (B Qam) [1,1,0,1,0,0]) (Qan 0 (seqK (E0 lb n 0 997) (sub (B Qam) [1,1,0]) (sub (B Qam) [1,1,1]) (retK Tryz.prog (R Qam) 0 (outK (Qak Tryz.prog Qam))))) j9 ⟨fr 27 [(0, .val (.list jk a2)),(1, .val (.fn QaT)),(4,vI 0),(10, .val (.list jk a2)),(11, .val (.int .i64 (a2.length : Int))),(12,vI jn)],[bx 27 []],KK⟩)
noncomputable def Qd4 (lb n : Nat) (jk : Bool) (a2 : LL) : Option CV :=
 hold (E0 lb n 0 997 (sub (B Qam) [1,1,1]) (retK Tryz.prog (R Qam) 0 (outK (Qak Tryz.prog Qam))) ⟨fr 27 [(0, .val (.list jk a2)),(1, .val (.fn QaT)),(4,vI 0)],[bx 27 []],KK⟩)
theorem QfZ (lb n : Nat) (jk : Bool) (a2 : LL) :
 Qd4 lb n jk a2 =
 some (.int .i64 0) := (Qaf _).trans (by kernel_rfl)
theorem Qdo (lb n j9 : Nat) (jk : Bool) (a2 : LL) (jn : Int) :
 cond_codes_text_Carrier_L1 lb n (j9 + 1) jk a2 jn =
 bif (decide (jn < (a2.length : Int))) then
 (optO (atL a2 jn) fun w8 =>
 chkO (w8.length == 1) (
 optO (w8[0]?) fun jy =>
 optO (C lb n QaT [jy]) fun yl =>
 optO (CV.asB yl) fun wy =>
 bif (!wy) then
 (some (.int .i64 5))
 else
 (chkO (a2.all (·.length == 1)) (
 chkO (decide ((0 : Int) ≤ jn ∧ jn ≤ (a2.length : Int))) (
 optO (C lb n QaE [.list jk ((a2.take jn.toNat).drop 0),jy]) fun yd =>
 optO (CV.asB yd) fun ya =>
 bif ya then
 (some (.int .i64 6))
 else
 (cond_codes_text_Carrier_L1 lb n j9 jk a2 (IntKind.wrap .i64 (jn + 1))))))))
 else
 (Qd4 lb n jk a2 ) := (Qaf _).trans (by kernel_rfl)
theorem Qha (lb n : Nat) (jk : Bool) (a2 : LL) :
 top lb n Qam [.list jk a2, .fn QaT] =
 bif ((a2.length : Int) == 0) then
 (some (.int .i64 2))
 else
 (cond_codes_text_Carrier_L1 lb n n jk a2 0) := by kernel_rfl
noncomputable def QbQ (lb n j9 : Nat) (jk : Bool) (a2 : LL) (jn : Int) : Option CV :=
 hold (QaC (E0 lb n 0 994) 0 (Qal (sub (B Qam) [1,1,0,1,0,0]) ++ [5,6]) [] (sub (B Qam) [1,1,0,1,0,0]) (Qan 0 (seqK (E0 lb n 0 997) (sub (B Qam) [1,1,0]) (sub (B Qam) [1,1,1]) (retK Tryz.prog (R Qam) 0 (outK (Qak Tryz.prog Qam))))) j9 ⟨fr 27 [(0, .val (.list jk a2)),(1, .val (.fn QaS)),(4,vI 0),(10, .val (.list jk a2)),(11, .val (.int .i64 (a2.length : Int))),(12,vI jn)],[bx 27 []],KK⟩)
noncomputable def Qd2 (lb n : Nat) (jk : Bool) (a2 : LL) : Option CV :=
 hold (E0 lb n 0 997 (sub (B Qam) [1,1,1]) (retK Tryz.prog (R Qam) 0 (outK (Qak Tryz.prog Qam))) ⟨fr 27 [(0, .val (.list jk a2)),(1, .val (.fn QaS)),(4,vI 0)],[bx 27 []],KK⟩)
theorem QfX (lb n : Nat) (jk : Bool) (a2 : LL) :
 Qd2 lb n jk a2 =
 some (.int .i64 0) := (Qaf _).trans (by kernel_rfl)
theorem Qdn (lb n j9 : Nat) (jk : Bool) (a2 : LL) (jn : Int) :
 QbQ lb n (j9 + 1) jk a2 jn =
 bif (decide (jn < (a2.length : Int))) then
 (optO (atL a2 jn) fun w8 =>
 chkO (w8.length == 1) (
 optO (w8[0]?) fun jy =>
 optO (C lb n QaS [jy]) fun yl =>
 optO (CV.asB yl) fun wy =>
 bif (!wy) then
 (some (.int .i64 5))
 else
 (chkO (a2.all (·.length == 1)) (
 chkO (decide ((0 : Int) ≤ jn ∧ jn ≤ (a2.length : Int))) (
 optO (C lb n QaE [.list jk ((a2.take jn.toNat).drop 0),jy]) fun yd =>
 optO (CV.asB yd) fun ya =>
 bif ya then
 (some (.int .i64 6))
 else
 (QbQ lb n j9 jk a2 (IntKind.wrap .i64 (jn + 1))))))))
 else
 (Qd2 lb n jk a2 ) := (Qaf _).trans (by kernel_rfl)
theorem Qg9 (lb n : Nat) (jk : Bool) (a2 : LL) :
 top lb n Qam [.list jk a2, .fn QaS] =
 bif ((a2.length : Int) == 0) then
 (some (.int .i64 2))
 else
 (QbQ lb n n jk a2 0) := by kernel_rfl
noncomputable def QbF (lb n j9 : Nat) (jk : Bool) (a2 : LL) (jn : Int) : Option CV :=
 hold (QaC (E0 lb n 0 994) 0 (Qal (sub (B Qam) [1,1,0,1,0,0]) ++ [5,6]) [] (sub (B Qam) [1,1,0,1,0,0]) (Qan 0 (seqK (E0 lb n 0 997) (sub (B Qam) [1,1,0]) (sub (B Qam) [1,1,1]) (retK Tryz.prog (R Qam) 0 (outK (Qak Tryz.prog Qam))))) j9 ⟨fr 27 [(0, .val (.list jk a2)),(1, .val (.fn QaJ)),(4,vI 0),(10, .val (.list jk a2)),(11, .val (.int .i64 (a2.length : Int))),(12,vI jn)],[bx 27 []],KK⟩)
noncomputable def QdJ (lb n : Nat) (jk : Bool) (a2 : LL) : Option CV :=
 hold (E0 lb n 0 997 (sub (B Qam) [1,1,1]) (retK Tryz.prog (R Qam) 0 (outK (Qak Tryz.prog Qam))) ⟨fr 27 [(0, .val (.list jk a2)),(1, .val (.fn QaJ)),(4,vI 0)],[bx 27 []],KK⟩)
theorem Qfx (lb n : Nat) (jk : Bool) (a2 : LL) :
 QdJ lb n jk a2 =
 some (.int .i64 0) := (Qaf _).trans (by kernel_rfl)
theorem QcX (lb n j9 : Nat) (jk : Bool) (a2 : LL) (jn : Int) :
 QbF lb n (j9 + 1) jk a2 jn =
 bif (decide (jn < (a2.length : Int))) then
 (optO (atL a2 jn) fun w8 =>
 chkO (w8.length == 1) (
 optO (w8[0]?) fun jy =>
 optO (C lb n QaJ [jy]) fun yl =>
 optO (CV.asB yl) fun wy =>
 bif (!wy) then
 (some (.int .i64 5))
 else
 (chkO (a2.all (·.length == 1)) (
 chkO (decide ((0 : Int) ≤ jn ∧ jn ≤ (a2.length : Int))) (
 optO (C lb n QaE [.list jk ((a2.take jn.toNat).drop 0),jy]) fun yd =>
 optO (CV.asB yd) fun ya =>
 bif ya then
 (some (.int .i64 6))
 else
 (QbF lb n j9 jk a2 (IntKind.wrap .i64 (jn + 1))))))))
 else
 (QdJ lb n jk a2 ) := (Qaf _).trans (by kernel_rfl)
theorem Qf8 (lb n : Nat) (jk : Bool) (a2 : LL) :
 top lb n Qam [.list jk a2, .fn QaJ] =
 bif ((a2.length : Int) == 0) then
 (some (.int .i64 2))
 else
 (QbF lb n n jk a2 0) := by kernel_rfl
theorem QlY (lb n : Nat) (a1 : LB) :
 top lb n QaJ [.str a1] =
 optO (C lb n QgD [.str a1, .int .i64 3, .int .i64 3]) fun r2 =>
 some (r2) := by kernel_rfl
noncomputable def Qe5 (lb n wU : Nat) (jf : Int) (jg : Bool) (jh : LL) (ji jj jb jc ja : Int) (jd : Bool) (je : LL) (jo : CV) (jT : Int) : Option CV :=
 hold (QaC (E0 lb n 0 994) 0 (Qal (sub (B Qbi) [1,1,0,1,0,0]) ++ [6]) [5] (sub (B Qbi) [1,1,0,1,0,0]) (Qan 0 (seqK (E0 lb n 0 997) (sub (B Qbi) [1,1,0]) (sub (B Qbi) [1,1,1]) (retK Tryz.prog (R Qbi) 0 (outK (Qak Tryz.prog Qbi))))) wU ⟨fr 25 [(0, .val (.agg [.int .i64 jf, .list jg jh, .int .i64 ji, .int .i64 jj, .int .i64 jb, .int .i64 jc, .int .i64 ja, .list jd je])),(1, .ptr 0 1 0),(2,vI 0),(3,vV jo),(12, .ptr 0 1 1),(13, .val (.list jg jh)),(14, .val (.int .i64 (jh.length : Int))),(15,vI jT)],[bx 25 [(1,some [vI jf, .val (.list jg jh),vI ji,vI jj,vI jb,vI jc,vI ja, .val (.list jd je)])]],KK⟩)
noncomputable def Qkc (lb n : Nat) (jf : Int) (jg : Bool) (jh : LL) (ji jj jb jc ja : Int) (jd : Bool) (je : LL) (jo : CV) : Option CV :=
 hold (E0 lb n 0 997 (sub (B Qbi) [1,1,1]) (retK Tryz.prog (R Qbi) 0 (outK (Qak Tryz.prog Qbi))) ⟨fr 25 [(0, .val (.agg [.int .i64 jf, .list jg jh, .int .i64 ji, .int .i64 jj, .int .i64 jb, .int .i64 jc, .int .i64 ja, .list jd je])),(1, .ptr 0 1 0),(2,vI 0),(3,vV jo)],[bx 25 [(1,some [vI jf, .val (.list jg jh),vI ji,vI jj,vI jb,vI jc,vI ja, .val (.list jd je)])]],KK⟩)
theorem Qm3 (lb n : Nat) (jf : Int) (jg : Bool) (jh : LL) (ji jj jb jc ja : Int) (jd : Bool) (je : LL) (jo : CV) :
 Qkc lb n jf jg jh ji jj jb jc ja jd je jo =
 some (.int .i64 0) := (Qaf _).trans (by kernel_rfl)
theorem QgY (lb n wU : Nat) (jf : Int) (jg : Bool) (jh : LL) (ji jj jb jc ja : Int) (jd : Bool) (je : LL) (jo : CV) (jT : Int) :
 Qe5 lb n (wU + 1) jf jg jh ji jj jb jc ja jd je jo jT =
 bif (decide (jT < (jh.length : Int))) then
 (optO (atL jh jT) fun jP =>
 chkO (jP.length == 8) (
 optO (jP[0]?) fun ww =>
 optO (jP[1]?) fun wv =>
 optO (jP[2]?) fun wu =>
 optO (jP[3]?) fun wS =>
 optO (jP[4]?) fun wT =>
 optO (jP[5]?) fun wF =>
 optO (jP[6]?) fun wC =>
 optO (jP[7]?) fun kS =>
 optO (C lb n Qbi [.agg [ww,wv,wu,wS,wT,wF,wC,kS]]) fun vm =>
 optO (CV.asI .i64 vm) fun j8 =>
 bif (j8 != 0) then
 (some (vm))
 else
 (Qe5 lb n wU jf jg jh ji jj jb jc ja jd je jo (IntKind.wrap .i64 (jT + 1)))))
 else
 (Qkc lb n jf jg jh ji jj jb jc ja jd je jo ) := (Qaf _).trans (by kernel_rfl)
theorem Qpv (lb n : Nat) (jf : Int) (jg : Bool) (jh : LL) (ji jj jb jc ja : Int) (jd : Bool) (je : LL) :
 top lb n Qbi [.agg [.int .i64 jf, .list jg jh, .int .i64 ji, .int .i64 jj, .int .i64 jb, .int .i64 jc, .int .i64 ja, .list jd je]] =
 optO (C lb n Qb1 [.agg [.int .i64 jf, .list jg jh, .int .i64 ji, .int .i64 jj, .int .i64 jb, .int .i64 jc, .int .i64 ja, .list jd je]]) fun jo =>
 optO (CV.asI .i64 jo) fun jI =>
 bif (jI != 0) then
 (some (jo))
 else
 (Qe5 lb n n jf jg jh ji jj jb jc ja jd je jo 0) := by kernel_rfl
theorem Qpw (lb n : Nat) (jf : Int) (jg : Bool) (jh : LL) (ji jj jb jc ja : Int) (jd : Bool) (je : LL) :
 top lb n Qdh [.agg [.int .i64 jf, .list jg jh, .int .i64 ji, .int .i64 jj, .int .i64 jb, .int .i64 jc, .int .i64 ja, .list jd je]] =
 optO (C lb n Qa8 [.agg [.int .i64 jf, .list jg jh, .int .i64 ji, .int .i64 jj, .int .i64 jb, .int .i64 jc, .int .i64 ja, .list jd je]]) fun jo =>
 optO (CV.asI .i64 jo) fun jI =>
 bif (decide (jI > 8)) then
 (some (.int .i64 4))
 else
 (optO (C lb n Qbr [.agg [.int .i64 jf, .list jg jh, .int .i64 ji, .int .i64 jj, .int .i64 jb, .int .i64 jc, .int .i64 ja, .list jd je]]) fun wA =>
 optO (CV.asI .i64 wA) fun ym =>
 bif (decide (ym > 128)) then
 (some (.int .i64 4))
 else
 (optO (C lb n Qbi [.agg [.int .i64 jf, .list jg jh, .int .i64 ji, .int .i64 jj, .int .i64 jb, .int .i64 jc, .int .i64 ja, .list jd je]]) fun yb =>
 some (yb))) := by kernel_rfl
theorem Qhp (lb n : Nat) (jk : Bool) (a2 : LL) (b3 : LB) :
 top lb n QaE [.list jk a2, .str b3] =
 optO (C lb n QaH [.list jk a2, .str b3]) fun r4 =>
 optO (CV.asI .i64 r4) fun i5 =>
 some (.bool (decide (i5 ≥ 0))) := by kernel_rfl
noncomputable def QcC (lb n jY : Nat) (jk : Bool) (a2 : LL) (b3 : LB) (i7 : Int) : Option CV :=
 hold (QaC (E0 lb n 0 995) 0 (Qal (sub (B QaH) [1,0,1,0,0]) ++ [5]) [] (sub (B QaH) [1,0,1,0,0]) (Qan 0 (seqK (E0 lb n 0 998) (sub (B QaH) [1,0]) (sub (B QaH) [1,1]) (retK Tryz.prog (R QaH) 0 (outK (Qak Tryz.prog QaH))))) jY ⟨fr 19 [(0, .val (.list jk a2)),(1,vS b3),(4,vI 0),(6, .val (.list jk a2)),(7, .val (.int .i64 (a2.length : Int))),(8,vI i7)],[bx 19 []],KK⟩)
noncomputable def QeS (lb n : Nat) (jk : Bool) (a2 : LL) (b3 : LB) : Option CV :=
 hold (E0 lb n 0 998 (sub (B QaH) [1,1]) (retK Tryz.prog (R QaH) 0 (outK (Qak Tryz.prog QaH))) ⟨fr 19 [(0, .val (.list jk a2)),(1,vS b3),(4,vI 0)],[bx 19 []],KK⟩)
theorem Qhm (lb n : Nat) (jk : Bool) (a2 : LL) (b3 : LB) :
 QeS lb n jk a2 b3 =
 some (.int .i64 (-1)) := (Qaf _).trans (by kernel_rfl)
theorem QdN (lb n jY : Nat) (jk : Bool) (a2 : LL) (b3 : LB) (i7 : Int) :
 QcC lb n (jY + 1) jk a2 b3 i7 =
 bif (decide (i7 < (a2.length : Int))) then
 (optO (atL a2 i7) fun yc =>
 chkO (yc.length == 1) (
 optO (yc[0]?) fun yv =>
 optO (CV.asS yv) fun wh =>
 bif (b3 == wh) then
 (some (.int .i64 i7))
 else
 (QcC lb n jY jk a2 b3 (IntKind.wrap .i64 (i7 + 1)))))
 else
 (QeS lb n jk a2 b3 ) := (Qaf _).trans (by kernel_rfl)
theorem QiE (lb n : Nat) (jk : Bool) (a2 : LL) (b3 : LB) :
 top lb n QaH [.list jk a2, .str b3] =
 QcC lb n n jk a2 b3 0 := by kernel_rfl
end Go.Proofs
namespace Go.Proofs
open Go.Am
set_option maxRecDepth 100000
set_option linter.unusedVariables false
theorem QqF (lb n : Nat) (jf : Int) (jg : Bool) (jh : LL) (ji jj jb jc ja : Int) (jd : Bool) (je : LL) (yX : Int) (vo : Bool) (kk : LL) (vT om w3 ye w7 : Int) (yq : Bool) (yV : LL) :
 top lb n QbL [.agg [.int .i64 jf, .list jg jh, .int .i64 ji, .int .i64 jj, .int .i64 jb, .int .i64 jc, .int .i64 ja, .list jd je], .agg [.int .i64 yX, .list vo kk, .int .i64 vT, .int .i64 om, .int .i64 w3, .int .i64 ye, .int .i64 w7, .list yq yV]] =
 bif (jf == yX) then
 (bif (ji == vT) then
 (bif (jj == om) then
 (bif ((jb == w3) && ((jc == ye) && ((ja == w7) && true))) then
 (optO (C lb n QaI [.list jd je, .list yq yV]) fun yd =>
 optO (CV.asB yd) fun ya =>
 bif ya then
 (optO (C lb n Qag [.list jg jh, .list vo kk, .fn QbL]) fun qk =>
 some (qk))
 else
 (some (.bool false)))
 else
 (some (.bool false)))
 else
 (some (.bool false)))
 else
 (some (.bool false)))
 else
 (some (.bool false)) := by kernel_rfl
noncomputable def Qcx (lb n wQ : Nat) (jk : Bool) (a2 : LL) (jK : Bool) (b4 : LL) (wc : Int) : Option CV :=
 hold (QaC (E0 lb n 0 994) 0 (Qal (sub (B QaI) [1,1,0,1,0,0]) ++ [5]) [] (sub (B QaI) [1,1,0,1,0,0]) (Qan 0 (seqK (E0 lb n 0 997) (sub (B QaI) [1,1,0]) (sub (B QaI) [1,1,1]) (retK Tryz.prog (R QaI) 0 (outK (Qak Tryz.prog QaI))))) wQ ⟨fr 26 [(0, .val (.list jk a2)),(1, .val (.list jK b4)),(4,vB false),(11, .val (.list jk a2)),(12, .val (.int .i64 (a2.length : Int))),(13,vI wc)],[bx 26 []],KK⟩)
noncomputable def QeK (lb n : Nat) (jk : Bool) (a2 : LL) (jK : Bool) (b4 : LL) : Option CV :=
 hold (E0 lb n 0 997 (sub (B QaI) [1,1,1]) (retK Tryz.prog (R QaI) 0 (outK (Qak Tryz.prog QaI))) ⟨fr 26 [(0, .val (.list jk a2)),(1, .val (.list jK b4)),(4,vB false)],[bx 26 []],KK⟩)
theorem Qhi (lb n : Nat) (jk : Bool) (a2 : LL) (jK : Bool) (b4 : LL) :
 QeK lb n jk a2 jK b4 =
 some (.bool true) := (Qaf _).trans (by kernel_rfl)
theorem QdM (lb n wQ : Nat) (jk : Bool) (a2 : LL) (jK : Bool) (b4 : LL) (wc : Int) :
 Qcx lb n (wQ + 1) jk a2 jK b4 wc =
 bif (decide (wc < (a2.length : Int))) then
 (optO (atL a2 wc) fun c21 =>
 chkO (c21.length == 1) (
 optO (c21[0]?) fun jH =>
 optO (atL b4 wc) fun oU =>
 chkO (oU.length == 1) (
 optO (oU[0]?) fun qa =>
 optO (CV.asS jH) fun oe =>
 optO (CV.asS qa) fun qq =>
 bif (!(oe == qq)) then
 (some (.bool false))
 else
 (Qcx lb n wQ jk a2 jK b4 (IntKind.wrap .i64 (wc + 1))))))
 else
 (QeK lb n jk a2 jK b4 ) := (Qaf _).trans (by kernel_rfl)
theorem QiS (lb n : Nat) (jk : Bool) (a2 : LL) (jK : Bool) (b4 : LL) :
 top lb n QaI [.list jk a2, .list jK b4] =
 bif ((a2.length : Int) != (b4.length : Int)) then
 (some (.bool false))
 else
 (Qcx lb n n jk a2 jK b4 0) := by kernel_rfl
noncomputable def QaF (lb n vD : Nat) (jk : Bool) (a2 : LL) (jK : Bool) (b4 : LL) (wG : Int) : Option CV :=
 hold (QaC (E0 lb n 0 994) 0 (Qal (sub (B Qag) [1,1,0,1,0,0]) ++ [7]) [8,9] (sub (B Qag) [1,1,0,1,0,0]) (Qan 0 (seqK (E0 lb n 0 997) (sub (B Qag) [1,1,0]) (sub (B Qag) [1,1,1]) (retK Tryz.prog (R Qag) 0 (outK (Qak Tryz.prog Qag))))) vD ⟨fr 32 [(0, .val (.list jk a2)),(1, .val (.list jK b4)),(2, .val (.fn QbL)),(6,vB false),(15, .val (.list jk a2)),(16, .val (.int .i64 (a2.length : Int))),(17,vI wG)],[bx 32 []],KK⟩)
noncomputable def Qbq (lb n : Nat) (jk : Bool) (a2 : LL) (jK : Bool) (b4 : LL) : Option CV :=
 hold (E0 lb n 0 997 (sub (B Qag) [1,1,1]) (retK Tryz.prog (R Qag) 0 (outK (Qak Tryz.prog Qag))) ⟨fr 32 [(0, .val (.list jk a2)),(1, .val (.list jK b4)),(2, .val (.fn QbL)),(6,vB false)],[bx 32 []],KK⟩)
theorem Qcg (lb n : Nat) (jk : Bool) (a2 : LL) (jK : Bool) (b4 : LL) :
 Qbq lb n jk a2 jK b4 =
 some (.bool true) := (Qaf _).trans (by kernel_rfl)
theorem Qbc (lb n vD : Nat) (jk : Bool) (a2 : LL) (jK : Bool) (b4 : LL) (wG : Int) :
 QaF lb n (vD + 1) jk a2 jK b4 wG =
 bif (decide (wG < (a2.length : Int))) then
 (optO (atL a2 wG) fun wL =>
 chkO (wL.length == 8) (
 optO (wL[0]?) fun kv =>
 optO (wL[1]?) fun kY =>
 optO (wL[2]?) fun kM =>
 optO (wL[3]?) fun kZ =>
 optO (wL[4]?) fun oB =>
 optO (wL[5]?) fun oA =>
 optO (wL[6]?) fun pQ =>
 optO (wL[7]?) fun kH =>
 optO (atL b4 wG) fun wN =>
 chkO (wN.length == 8) (
 optO (wN[0]?) fun kw =>
 optO (wN[1]?) fun qB =>
 optO (wN[2]?) fun yp =>
 optO (wN[3]?) fun vC =>
 optO (wN[4]?) fun vP =>
 optO (wN[5]?) fun vM =>
 optO (wN[6]?) fun vp =>
 optO (wN[7]?) fun vz =>
 optO (C lb n QbL [.agg [kv,kY,kM,kZ,oB,oA,pQ,kH], .agg [kw,qB,yp,vC,vP,vM,vp,vz]]) fun qg =>
 optO (CV.asB qg) fun pE =>
 bif (!pE) then
 (some (.bool false))
 else
 (QaF lb n vD jk a2 jK b4 (IntKind.wrap .i64 (wG + 1))))))
 else
 (Qbq lb n jk a2 jK b4 ) := (Qaf _).trans (by kernel_rfl)
theorem Qct (lb n : Nat) (jk : Bool) (a2 : LL) (jK : Bool) (b4 : LL) :
 top lb n Qag [.list jk a2, .list jK b4, .fn QbL] =
 bif ((a2.length : Int) != (b4.length : Int)) then
 (some (.bool false))
 else
 (QaF lb n n jk a2 jK b4 0) := by kernel_rfl
end Go.Proofs
namespace Go.Proofs
open Go.Am
set_option maxRecDepth 100000
set_option linter.unusedVariables false
end Go.Proofs
namespace Go.Proofs
open Go.Am
set_option maxRecDepth 100000
set_option linter.unusedVariables false
theorem QaZ (lb n : Nat) (a1 : Int) :
 top lb n Qar [.int .i64 a1] =
 bif (a1 == 1) then
 (some (.agg [.str [97,108,108], .int .i64 0, .int .i64 0, .int .i64 (-1), .int .i64 (-1), .bool false, .nilfn, .bool false, .bool true]))
 else
 (bif (a1 == 2) then
 (some (.agg [.str [97,110,100], .int .i64 1, .int .i64 128, .int .i64 (-1), .int .i64 (-1), .bool false, .nilfn, .bool false, .bool true]))
 else
 (bif (a1 == 3) then
 (some (.agg [.str [111,114], .int .i64 1, .int .i64 128, .int .i64 (-1), .int .i64 (-1), .bool false, .nilfn, .bool false, .bool true]))
 else
 (bif (a1 == 4) then
 (some (.agg [.str [110,111,116], .int .i64 1, .int .i64 1, .int .i64 (-1), .int .i64 (-1), .bool false, .nilfn, .bool false, .bool true]))
 else
 (bif (a1 == 5) then
 (some (.agg [.str [116,114,97,118,101,108], .int .i64 0, .int .i64 0, .int .i64 (-1), .int .i64 (-1), .bool true, .nilfn, .bool false, .bool true]))
 else
 (bif (a1 == 6) then
 (some (.agg [.str [115,97,108,101], .int .i64 0, .int .i64 0, .int .i64 (-1), .int .i64 (-1), .bool true, .nilfn, .bool false, .bool true]))
 else
 (bif (a1 == 7) then
 (some (.agg [.str [97,100,118,97,110,99,101], .int .i64 0, .int .i64 0, .int .i64 36524, .int .i64 (-1), .bool false, .nilfn, .bool false, .bool true]))
 else
 (bif (a1 == 8) then
 (some (.agg [.str [104,111,117,114], .int .i64 0, .int .i64 0, .int .i64 1439, .int .i64 1439, .bool false, .nilfn, .bool false, .bool true]))
 else
 (bif (a1 == 9) then
 (some (.agg [.str [115,116,111,112,115], .int .i64 0, .int .i64 0, .int .i64 6, .int .i64 (-1), .bool false, .nilfn, .bool false, .bool true]))
 else
 (bif (a1 == 10) then
 (some (.agg [.str [116,114,97,110,115,102,101,114,115], .int .i64 0, .int .i64 0, .int .i64 6, .int .i64 (-1), .bool false, .nilfn, .bool false, .bool true]))
 else
 (bif (a1 == 11) then
 (some (.agg [.str [99,97,114,114,105,101,114], .int .i64 0, .int .i64 0, .int .i64 (-1), .int .i64 (-1), .bool false, .fn QaT, .bool false, .bool true]))
 else
 (bif (a1 == 12) then
 (some (.agg [.str [110,117,109,98,101,114], .int .i64 0, .int .i64 0, .int .i64 9999, .int .i64 9999, .bool false, .nilfn, .bool true, .bool true]))
 else
 (bif (a1 == 13) then
 (some (.agg [.str [118,105,97], .int .i64 0, .int .i64 0, .int .i64 (-1), .int .i64 (-1), .bool false, .fn QaS, .bool false, .bool true]))
 else
 (bif (a1 == 14) then
 (some (.agg [.str [116,121,112,101], .int .i64 0, .int .i64 0, .int .i64 (-1), .int .i64 (-1), .bool false, .fn QaJ, .bool false, .bool true]))
 else
 (some (.agg [.str [], .int .i64 0, .int .i64 0, .int .i64 (-1), .int .i64 (-1), .bool false, .nilfn, .bool false, .bool false]))))))))))))))) := by kernel_rfl
theorem Qj7 (lb n : Nat) (a1 b2 : LB) :
 top lb n Qbl [.str a1, .str b2] =
 optO (C lb n Qc5 [.str a1, .str b2]) fun r3 =>
 optO (CV.asT r3) fun t4 =>
 optO (t4[0]?) fun x5 =>
 optO (CV.asT r3) fun t6 =>
 optO (t6[1]?) fun x7 =>
 some (.tup [x5,x7]) := by kernel_rfl
theorem Qef (lb n : Nat) (a1 b2 : LB) :
 top lb n Qc5 [.str a1, .str b2] =
 optO (C lb n Qdd [.str a1, .str b2]) fun r3 =>
 optO (CV.asB r3) fun b4 =>
 bif (!b4) then
 (some (.tup [.str a1, .bool false]))
 else
 (chkO (decide ((0 : Int) ≤ (b2.length : Int) ∧ (b2.length : Int) ≤ (a1.length : Int))) (
 some (.tup [.str ((a1.take ((a1.length : Int).toNat)).drop ((b2.length : Int).toNat)), .bool true]))) := by kernel_rfl
theorem Qhj (lb n : Nat) (a1 b2 : LB) :
 top lb n Qdd [.str a1, .str b2] =
 bif (decide ((a1.length : Int) ≥ (b2.length : Int))) then
 (chkO (decide ((0 : Int) ≤ (b2.length : Int) ∧ (b2.length : Int) ≤ (a1.length : Int))) (
 some (.bool (((a1.take ((b2.length : Int).toNat)).drop 0) == b2))))
 else
 (some (.bool false)) := by kernel_rfl
end Go.Proofs
