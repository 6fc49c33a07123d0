/- Equations of functions, printed by program. Conditions: none. -/
import Derived.Test.YtigmcfhmpcajlaaGreatDoorEv
namespace Go.Proofs
open Go.Am
set_option maxRecDepth 100000
set_option linter.unusedVariables false
noncomputable def l35_Small_L1 :=
 fun lb n (om : Nat) aloc1 (ja : Bool) (aper3 : LL) je (jb : Bool) (aseg6 : LL) (jd : Bool) (aser9 : LL) jc i21 =>
 hold (QaC (E0 lb n 0 994) 0 (Qak (sub (B Qau) [1, 1, 0, 1, 0, 0]) ++ []) [] (sub (B Qau) [1, 1, 0, 1, 0, 0]) (Qao 0 (seqK (E0 lb n 0 997) (sub (B Qau) [1, 1, 0]) (sub (B Qau) [1, 1, 1]) (retK Tryz.prog (R Qau) 0 (outK (Qaf Tryz.prog Qau))))) om ⟨fr 120 [(0, .val (.agg [.str aloc1, .list ja aper3, .int .i64 je, .list jb aseg6, .list jd aser9, .int .i64 jc])), (1, .ptr 0 1 0), (2, vB false), (3, vI i21)], [bx 120 [(1, some [vS aloc1, .val (.list ja aper3), vI je, .val (.list jb aseg6), .val (.list jd aser9), vI jc])]], KK⟩)
noncomputable def QkO (lb n : Nat) (aloc1 : LB) (ja : Bool) (aper3 : LL) (je : Int) (jb : Bool) (aseg6 : LL) (jd : Bool) (aser9 : LL) (jc wX : Int) : Option CV :=
 hold (E0 lb n 0 997 (sub (B Qau) [1, 1, 1]) (retK Tryz.prog (R Qau) 0 (outK (Qaf Tryz.prog Qau))) ⟨fr 120 [(0, .val (.agg [.str aloc1, .list ja aper3, .int .i64 je, .list jb aseg6, .list jd aser9, .int .i64 jc])), (1, .ptr 0 1 0), (2, vB false), (3, vI wX)], [bx 120 [(1, some [vS aloc1, .val (.list ja aper3), vI je, .val (.list jb aseg6), .val (.list jd aser9), vI jc])]], KK⟩)
noncomputable def QfA (lb n k9 : Nat) (aloc1 : LB) (ja : Bool) (aper3 : LL) (je : Int) (jb : Bool) (aseg6 : LL) (jd : Bool) (aser9 : LL) (jc wX vf : Int) : Option CV :=
 hold (QaC (E0 lb n 0 993) 0 (Qak (sub (B Qau) [1, 1, 1, 0, 1, 0, 0]) ++ []) [5] (sub (B Qau) [1, 1, 1, 0, 1, 0, 0]) (Qao 2 (seqK (E0 lb n 0 996) (sub (B Qau) [1, 1, 1, 0]) (sub (B Qau) [1, 1, 1, 1]) (retK Tryz.prog (R Qau) 0 (outK (Qaf Tryz.prog Qau))))) k9 ⟨fr 120 [(0, .val (.agg [.str aloc1, .list ja aper3, .int .i64 je, .list jb aseg6, .list jd aser9, .int .i64 jc])), (1, .ptr 0 1 0), (2, vB false), (3, vI wX), (4, vI vf)], [bx 120 [(1, some [vS aloc1, .val (.list ja aper3), vI je, .val (.list jb aseg6), .val (.list jd aser9), vI jc])]], KK⟩)
noncomputable def Qj7 (lb n : Nat) (aloc1 : LB) (ja : Bool) (aper3 : LL) (je : Int) (jb : Bool) (aseg6 : LL) (jd : Bool) (aser9 : LL) (jc wX yy : Int) : Option CV :=
 hold (E0 lb n 0 996 (sub (B Qau) [1, 1, 1, 1]) (retK Tryz.prog (R Qau) 0 (outK (Qaf Tryz.prog Qau))) ⟨fr 120 [(0, .val (.agg [.str aloc1, .list ja aper3, .int .i64 je, .list jb aseg6, .list jd aser9, .int .i64 jc])), (1, .ptr 0 1 0), (2, vB false), (3, vI wX), (4, vI yy)], [bx 120 [(1, some [vS aloc1, .val (.list ja aper3), vI je, .val (.list jb aseg6), .val (.list jd aser9), vI jc])]], KK⟩)
noncomputable def QfD (lb n ot : Nat) (aloc1 : LB) (ja : Bool) (aper3 : LL) (je : Int) (jb : Bool) (aseg6 : LL) (jd : Bool) (aser9 : LL) (jc wX yy vp : Int) : Option CV :=
 hold (QaC (E0 lb n 0 992) 0 (Qak (sub (B Qau) [1, 1, 1, 1, 0, 1, 0, 0]) ++ []) [] (sub (B Qau) [1, 1, 1, 1, 0, 1, 0, 0]) (Qao 4 (seqK (E0 lb n 0 995) (sub (B Qau) [1, 1, 1, 1, 0]) (sub (B Qau) [1, 1, 1, 1, 1]) (retK Tryz.prog (R Qau) 0 (outK (Qaf Tryz.prog Qau))))) ot ⟨fr 120 [(0, .val (.agg [.str aloc1, .list ja aper3, .int .i64 je, .list jb aseg6, .list jd aser9, .int .i64 jc])), (1, .ptr 0 1 0), (2, vB false), (3, vI wX), (4, vI yy), (6, vI vp)], [bx 120 [(1, some [vS aloc1, .val (.list ja aper3), vI je, .val (.list jb aseg6), .val (.list jd aser9), vI jc])]], KK⟩)
noncomputable def QkN (lb n : Nat) (aloc1 : LB) (ja : Bool) (aper3 : LL) (je : Int) (jb : Bool) (aseg6 : LL) (jd : Bool) (aser9 : LL) (jc wX yy kV : Int) : Option CV :=
 hold (E0 lb n 0 995 (sub (B Qau) [1, 1, 1, 1, 1]) (retK Tryz.prog (R Qau) 0 (outK (Qaf Tryz.prog Qau))) ⟨fr 120 [(0, .val (.agg [.str aloc1, .list ja aper3, .int .i64 je, .list jb aseg6, .list jd aser9, .int .i64 jc])), (1, .ptr 0 1 0), (2, vB false), (3, vI wX), (4, vI yy), (6, vI kV)], [bx 120 [(1, some [vS aloc1, .val (.list ja aper3), vI je, .val (.list jb aseg6), .val (.list jd aser9), vI jc])]], KK⟩)
theorem Qne (lb n : Nat) (aloc1 : LB) (ja : Bool) (aper3 : LL) (je : Int) (jb : Bool) (aseg6 : LL) (jd : Bool) (aser9 : LL) (jc wX yy kV : Int) :
 QkN lb n aloc1 ja aper3 je jb aseg6 jd aser9 jc wX yy kV =
 some (.bool true) := (Qae _).trans (by kernel_rfl)
theorem QgW (lb n ot : Nat) (aloc1 : LB) (ja : Bool) (aper3 : LL) (je : Int) (jb : Bool) (aseg6 : LL) (jd : Bool) (aser9 : LL) (jc wX yy vp : Int) :
 QfD lb n (ot + 1) aloc1 ja aper3 je jb aseg6 jd aser9 jc wX yy vp =
 bif (decide (vp < (aser9.length : Int))) then
 (optO (atL aser9 vp) fun c97 =>
 chkO (c97.length == 3) (
 optO (c97[0]?) fun jP =>
 optO (CV.asS jP) fun s99 =>
 bif (decide ((s99.length : Int) > 100)) then
 (some (.bool false))
 else
 (QfD lb n ot aloc1 ja aper3 je jb aseg6 jd aser9 jc wX yy (IntKind.wrap .i64 (vp + 1)))))
 else
 (QkN lb n aloc1 ja aper3 je jb aseg6 jd aser9 jc wX yy vp) := (Qae _).trans (by kernel_rfl)
theorem QmC (lb n : Nat) (aloc1 : LB) (ja : Bool) (aper3 : LL) (je : Int) (jb : Bool) (aseg6 : LL) (jd : Bool) (aser9 : LL) (jc wX yy : Int) :
 Qj7 lb n aloc1 ja aper3 je jb aseg6 jd aser9 jc wX yy =
 QfD lb n n aloc1 ja aper3 je jb aseg6 jd aser9 jc wX yy 0 := (Qae _).trans (by kernel_rfl)
theorem Qg2 (lb n k9 : Nat) (aloc1 : LB) (ja : Bool) (aper3 : LL) (je : Int) (jb : Bool) (aseg6 : LL) (jd : Bool) (aser9 : LL) (jc wX vf : Int) :
 QfA lb n (k9 + 1) aloc1 ja aper3 je jb aseg6 jd aser9 jc wX vf =
 bif (decide (vf < (aseg6.length : Int))) then
 (optO (atL aseg6 vf) fun c74 =>
 chkO (c74.length == 10) (
 optO (c74[0]?) fun ow =>
 optO (c74[1]?) fun gG =>
 optO (c74[2]?) fun gJ =>
 optO (c74[3]?) fun ga =>
 optO (c74[4]?) fun oQ =>
 optO (c74[5]?) fun qQ =>
 optO (c74[6]?) fun gB =>
 optO (CV.asS ow) fun s82 =>
 bif (decide ((s82.length : Int) > 100)) then
 (some (.bool false))
 else
 (optO (CV.asS ga) fun s83 =>
 bif (decide ((s83.length : Int) > 100)) then
 (some (.bool false))
 else
 (optO (CV.asS oQ) fun s84 =>
 bif (decide ((s84.length : Int) > 100)) then
 (some (.bool false))
 else
 (optO (atL aseg6 vf) fun c85 =>
 chkO (c85.length == 10) (
 optO (c85[7]?) fun oO =>
 optO (CV.asS oO) fun s87 =>
 bif (decide ((s87.length : Int) > 100)) then
 (some (.bool false))
 else
 (QfA lb n k9 aloc1 ja aper3 je jb aseg6 jd aser9 jc wX (IntKind.wrap .i64 (vf + 1)))))))))
 else
 (Qj7 lb n aloc1 ja aper3 je jb aseg6 jd aser9 jc wX vf) := (Qae _).trans (by kernel_rfl)
theorem Qnj (lb n : Nat) (aloc1 : LB) (ja : Bool) (aper3 : LL) (je : Int) (jb : Bool) (aseg6 : LL) (jd : Bool) (aser9 : LL) (jc wX : Int) :
 QkO lb n aloc1 ja aper3 je jb aseg6 jd aser9 jc wX =
 QfA lb n n aloc1 ja aper3 je jb aseg6 jd aser9 jc wX 0 := (Qae _).trans (by kernel_rfl)
theorem QgY (lb n om : Nat) (aloc1 : LB) (ja : Bool) (aper3 : LL) (je : Int) (jb : Bool) (aseg6 : LL) (jd : Bool) (aser9 : LL) (jc i21 : Int) :
 l35_Small_L1 lb n (om + 1) aloc1 ja aper3 je jb aseg6 jd aser9 jc i21 =
 bif (decide (i21 < (aper3.length : Int))) then
 (optO (atL aper3 i21) fun c33 =>
 chkO (c33.length == 3) (
 optO (c33[0]?) fun ou =>
 optO (CV.asS ou) fun s35 =>
 bif (decide ((s35.length : Int) > 100)) then
 (some (.bool false))
 else
 (optO (atL aper3 i21) fun c36 =>
 chkO (c36.length == 3) (
 optO (c36[1]?) fun y6 =>
 optO (CV.asS y6) fun s38 =>
 bif (decide ((s38.length : Int) > 100)) then
 (some (.bool false))
 else
 (optO (atL aper3 i21) fun c39 =>
 chkO (c39.length == 3) (
 optO (c39[2]?) fun gz =>
 optO (CV.asS gz) fun s41 =>
 bif (decide ((s41.length : Int) > 100)) then
 (some (.bool false))
 else
 (l35_Small_L1 lb n om aloc1 ja aper3 je jb aseg6 jd aser9 jc (IntKind.wrap .i64 (i21 + 1)))))))))
 else
 (QkO lb n aloc1 ja aper3 je jb aseg6 jd aser9 jc i21) := (Qae _).trans (by kernel_rfl)
theorem Qqa (lb n : Nat) (aloc1 : LB) (ja : Bool) (aper3 : LL) (je : Int) (jb : Bool) (aseg6 : LL) (jd : Bool) (aser9 : LL) (jc : Int) :
 top lb n Qau [.agg [.str aloc1, .list ja aper3, .int .i64 je, .list jb aseg6, .list jd aser9, .int .i64 jc]] =
 bif (decide ((aper3.length : Int) > 60)) then
 (some (.bool false))
 else
 (bif (decide ((aseg6.length : Int) > 60)) then
 (some (.bool false))
 else
 (bif (decide ((aser9.length : Int) > 60)) then
 (some (.bool false))
 else
 (bif (decide ((aloc1.length : Int) > 100)) then
 (some (.bool false))
 else
 (l35_Small_L1 lb n n aloc1 ja aper3 je jb aseg6 jd aser9 jc 0)))) := by kernel_rfl
end Go.Proofs
