/- Equations of functions, printed by program. Conditions: none. -/
import Derived.Test.YtigmcfhmpcajlaaGreatDoorEv
namespace Go.Proofs
open Go.Am
set_option maxRecDepth 100000
set_option linter.unusedVariables false
noncomputable def l35_Small_L1 :=
 fun lb n (gB : Nat) aloc1 (ja : Bool) (aper3 : LL) je (jb : Bool) (aseg6 : LL) (jd : Bool) (aser9 : LL) jc i21 =>
 hold (Qau (E0 lb n 0 994) 0 (Qaj (sub (B QaD) [1, 1, 0, 1, 0, 0]) ++ []) [] (sub (B QaD) [1, 1, 0, 1, 0, 0]) (Qal 0 (seqK (E0 lb n 0 997) (sub (B QaD) [1, 1, 0]) (sub (B QaD) [1, 1, 1]) (retK Tryz.prog (R QaD) 0 (outK (Qae Tryz.prog QaD))))) gB ⟨fr 120 [(0, .val (.agg [.str aloc1, .list ja aper3, .int .i64 je, .list jb aseg6, .list jd aser9, .int .i64 jc])), (1, .ptr 0 1 0), (2, vB false), (3, vI i21)], [bx 120 [(1, some [vS aloc1, .val (.list ja aper3), vI je, .val (.list jb aseg6), .val (.list jd aser9), vI jc])]], KK⟩)
noncomputable def Ql0 (lb n : Nat) (aloc1 : LB) (ja : Bool) (aper3 : LL) (je : Int) (jb : Bool) (aseg6 : LL) (jd : Bool) (aser9 : LL) (jc ym : Int) : Option CV :=
 hold (E0 lb n 0 997 (sub (B QaD) [1, 1, 1]) (retK Tryz.prog (R QaD) 0 (outK (Qae Tryz.prog QaD))) ⟨fr 120 [(0, .val (.agg [.str aloc1, .list ja aper3, .int .i64 je, .list jb aseg6, .list jd aser9, .int .i64 jc])), (1, .ptr 0 1 0), (2, vB false), (3, vI ym)], [bx 120 [(1, some [vS aloc1, .val (.list ja aper3), vI je, .val (.list jb aseg6), .val (.list jd aser9), vI jc])]], KK⟩)
noncomputable def Qgr (lb n gG : Nat) (aloc1 : LB) (ja : Bool) (aper3 : LL) (je : Int) (jb : Bool) (aseg6 : LL) (jd : Bool) (aser9 : LL) (jc ym kd : Int) : Option CV :=
 hold (Qau (E0 lb n 0 993) 0 (Qaj (sub (B QaD) [1, 1, 1, 0, 1, 0, 0]) ++ []) [5] (sub (B QaD) [1, 1, 1, 0, 1, 0, 0]) (Qal 2 (seqK (E0 lb n 0 996) (sub (B QaD) [1, 1, 1, 0]) (sub (B QaD) [1, 1, 1, 1]) (retK Tryz.prog (R QaD) 0 (outK (Qae Tryz.prog QaD))))) gG ⟨fr 120 [(0, .val (.agg [.str aloc1, .list ja aper3, .int .i64 je, .list jb aseg6, .list jd aser9, .int .i64 jc])), (1, .ptr 0 1 0), (2, vB false), (3, vI ym), (4, vI kd)], [bx 120 [(1, some [vS aloc1, .val (.list ja aper3), vI je, .val (.list jb aseg6), .val (.list jd aser9), vI jc])]], KK⟩)
noncomputable def Qmv (lb n : Nat) (aloc1 : LB) (ja : Bool) (aper3 : LL) (je : Int) (jb : Bool) (aseg6 : LL) (jd : Bool) (aser9 : LL) (jc ym y4 : Int) : Option CV :=
 hold (E0 lb n 0 996 (sub (B QaD) [1, 1, 1, 1]) (retK Tryz.prog (R QaD) 0 (outK (Qae Tryz.prog QaD))) ⟨fr 120 [(0, .val (.agg [.str aloc1, .list ja aper3, .int .i64 je, .list jb aseg6, .list jd aser9, .int .i64 jc])), (1, .ptr 0 1 0), (2, vB false), (3, vI ym), (4, vI y4)], [bx 120 [(1, some [vS aloc1, .val (.list ja aper3), vI je, .val (.list jb aseg6), .val (.list jd aser9), vI jc])]], KK⟩)
noncomputable def Qgk (lb n gu : Nat) (aloc1 : LB) (ja : Bool) (aper3 : LL) (je : Int) (jb : Bool) (aseg6 : LL) (jd : Bool) (aser9 : LL) (jc ym y4 kD : Int) : Option CV :=
 hold (Qau (E0 lb n 0 992) 0 (Qaj (sub (B QaD) [1, 1, 1, 1, 0, 1, 0, 0]) ++ []) [] (sub (B QaD) [1, 1, 1, 1, 0, 1, 0, 0]) (Qal 4 (seqK (E0 lb n 0 995) (sub (B QaD) [1, 1, 1, 1, 0]) (sub (B QaD) [1, 1, 1, 1, 1]) (retK Tryz.prog (R QaD) 0 (outK (Qae Tryz.prog QaD))))) gu ⟨fr 120 [(0, .val (.agg [.str aloc1, .list ja aper3, .int .i64 je, .list jb aseg6, .list jd aser9, .int .i64 jc])), (1, .ptr 0 1 0), (2, vB false), (3, vI ym), (4, vI y4), (6, vI kD)], [bx 120 [(1, some [vS aloc1, .val (.list ja aper3), vI je, .val (.list jb aseg6), .val (.list jd aser9), vI jc])]], KK⟩)
noncomputable def Qms (lb n : Nat) (aloc1 : LB) (ja : Bool) (aper3 : LL) (je : Int) (jb : Bool) (aseg6 : LL) (jd : Bool) (aser9 : LL) (jc ym y4 kL : Int) : Option CV :=
 hold (E0 lb n 0 995 (sub (B QaD) [1, 1, 1, 1, 1]) (retK Tryz.prog (R QaD) 0 (outK (Qae Tryz.prog QaD))) ⟨fr 120 [(0, .val (.agg [.str aloc1, .list ja aper3, .int .i64 je, .list jb aseg6, .list jd aser9, .int .i64 jc])), (1, .ptr 0 1 0), (2, vB false), (3, vI ym), (4, vI y4), (6, vI kL)], [bx 120 [(1, some [vS aloc1, .val (.list ja aper3), vI je, .val (.list jb aseg6), .val (.list jd aser9), vI jc])]], KK⟩)
theorem Qoa (lb n : Nat) (aloc1 : LB) (ja : Bool) (aper3 : LL) (je : Int) (jb : Bool) (aseg6 : LL) (jd : Bool) (aser9 : LL) (jc ym y4 kL : Int) :
 Qms lb n aloc1 ja aper3 je jb aseg6 jd aser9 jc ym y4 kL =
 some (.bool true) := (Qaf _).trans (by kernel_rfl)
theorem Qh1 (lb n gu : Nat) (aloc1 : LB) (ja : Bool) (aper3 : LL) (je : Int) (jb : Bool) (aseg6 : LL) (jd : Bool) (aser9 : LL) (jc ym y4 kD : Int) :
 Qgk lb n (gu + 1) aloc1 ja aper3 je jb aseg6 jd aser9 jc ym y4 kD =
 bif (decide (kD < (aser9.length : Int))) then
 (optO (atL aser9 kD) fun c97 =>
 chkO (c97.length == 3) (
 optO (c97[0]?) fun jT =>
 optO (CV.asS jT) fun s99 =>
 bif (decide ((s99.length : Int) > 100)) then
 (some (.bool false))
 else
 (Qgk lb n gu aloc1 ja aper3 je jb aseg6 jd aser9 jc ym y4 (IntKind.wrap .i64 (kD + 1)))))
 else
 (Qms lb n aloc1 ja aper3 je jb aseg6 jd aser9 jc ym y4 kD) := (Qaf _).trans (by kernel_rfl)
theorem Qo7 (lb n : Nat) (aloc1 : LB) (ja : Bool) (aper3 : LL) (je : Int) (jb : Bool) (aseg6 : LL) (jd : Bool) (aser9 : LL) (jc ym y4 : Int) :
 Qmv lb n aloc1 ja aper3 je jb aseg6 jd aser9 jc ym y4 =
 Qgk lb n n aloc1 ja aper3 je jb aseg6 jd aser9 jc ym y4 0 := (Qaf _).trans (by kernel_rfl)
theorem Qia (lb n gG : Nat) (aloc1 : LB) (ja : Bool) (aper3 : LL) (je : Int) (jb : Bool) (aseg6 : LL) (jd : Bool) (aser9 : LL) (jc ym kd : Int) :
 Qgr lb n (gG + 1) aloc1 ja aper3 je jb aseg6 jd aser9 jc ym kd =
 bif (decide (kd < (aseg6.length : Int))) then
 (optO (atL aseg6 kd) fun c74 =>
 chkO (c74.length == 10) (
 optO (c74[0]?) fun gE =>
 optO (c74[1]?) fun nB =>
 optO (c74[2]?) fun mt =>
 optO (c74[3]?) fun mG =>
 optO (c74[4]?) fun gX =>
 optO (c74[5]?) fun lF =>
 optO (c74[6]?) fun nA =>
 optO (CV.asS gE) fun s82 =>
 bif (decide ((s82.length : Int) > 100)) then
 (some (.bool false))
 else
 (optO (CV.asS mG) fun s83 =>
 bif (decide ((s83.length : Int) > 100)) then
 (some (.bool false))
 else
 (optO (CV.asS gX) fun s84 =>
 bif (decide ((s84.length : Int) > 100)) then
 (some (.bool false))
 else
 (optO (atL aseg6 kd) fun c85 =>
 chkO (c85.length == 10) (
 optO (c85[7]?) fun my =>
 optO (CV.asS my) fun s87 =>
 bif (decide ((s87.length : Int) > 100)) then
 (some (.bool false))
 else
 (Qgr lb n gG aloc1 ja aper3 je jb aseg6 jd aser9 jc ym (IntKind.wrap .i64 (kd + 1)))))))))
 else
 (Qmv lb n aloc1 ja aper3 je jb aseg6 jd aser9 jc ym kd) := (Qaf _).trans (by kernel_rfl)
theorem Qob (lb n : Nat) (aloc1 : LB) (ja : Bool) (aper3 : LL) (je : Int) (jb : Bool) (aseg6 : LL) (jd : Bool) (aser9 : LL) (jc ym : Int) :
 Ql0 lb n aloc1 ja aper3 je jb aseg6 jd aser9 jc ym =
 Qgr lb n n aloc1 ja aper3 je jb aseg6 jd aser9 jc ym 0 := (Qaf _).trans (by kernel_rfl)
theorem Qh5 (lb n gB : Nat) (aloc1 : LB) (ja : Bool) (aper3 : LL) (je : Int) (jb : Bool) (aseg6 : LL) (jd : Bool) (aser9 : LL) (jc i21 : Int) :
 l35_Small_L1 lb n (gB + 1) aloc1 ja aper3 je jb aseg6 jd aser9 jc i21 =
 bif (decide (i21 < (aper3.length : Int))) then
 (optO (atL aper3 i21) fun c33 =>
 chkO (c33.length == 3) (
 optO (c33[0]?) fun nx =>
 optO (CV.asS nx) fun s35 =>
 bif (decide ((s35.length : Int) > 100)) then
 (some (.bool false))
 else
 (optO (atL aper3 i21) fun c36 =>
 chkO (c36.length == 3) (
 optO (c36[1]?) fun vR =>
 optO (CV.asS vR) fun s38 =>
 bif (decide ((s38.length : Int) > 100)) then
 (some (.bool false))
 else
 (optO (atL aper3 i21) fun c39 =>
 chkO (c39.length == 3) (
 optO (c39[2]?) fun nv =>
 optO (CV.asS nv) fun s41 =>
 bif (decide ((s41.length : Int) > 100)) then
 (some (.bool false))
 else
 (l35_Small_L1 lb n gB aloc1 ja aper3 je jb aseg6 jd aser9 jc (IntKind.wrap .i64 (i21 + 1)))))))))
 else
 (Ql0 lb n aloc1 ja aper3 je jb aseg6 jd aser9 jc i21) := (Qaf _).trans (by kernel_rfl)
theorem QrK (lb n : Nat) (aloc1 : LB) (ja : Bool) (aper3 : LL) (je : Int) (jb : Bool) (aseg6 : LL) (jd : Bool) (aser9 : LL) (jc : Int) :
 top lb n QaD [.agg [.str aloc1, .list ja aper3, .int .i64 je, .list jb aseg6, .list jd aser9, .int .i64 jc]] =
 bif (decide ((aper3.length : Int) > 60)) then
 (some (.bool false))
 else
 (bif (decide ((aseg6.length : Int) > 60)) then
 (some (.bool false))
 else
 (bif (decide ((aser9.length : Int) > 60)) then
 (some (.bool false))
 else
 (bif (decide ((aloc1.length : Int) > 100)) then
 (some (.bool false))
 else
 (l35_Small_L1 lb n n aloc1 ja aper3 je jb aseg6 jd aser9 jc 0)))) := by kernel_rfl
end Go.Proofs
