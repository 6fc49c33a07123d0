/- Equations of functions, printed by program. Conditions: none. -/
import Derived.Test.YtbdclhadjcfadaaGreatDoorEv
namespace Go.Proofs
open Go.Am
set_option maxRecDepth 100000
set_option linter.unusedVariables false
noncomputable def cond_levels_L1 :=
 fun lb n (wa : Nat) jf (jg : Bool) (jh : LL) ji jj jb jc ja (jd : Bool) (je : LL) jO jJ =>
 hold (QaC (E0 lb n 0 994) 0 (Qal (sub (B Qa8) [1,1,0,1,0,0]) ++ []) [5] (sub (B Qa8) [1,1,0,1,0,0]) (Qan 0 (seqK (E0 lb n 0 997) (sub (B Qa8) [1,1,0]) (sub (B Qa8) [1,1,1]) (retK Tryz.prog (R Qa8) 0 (outK (Qak Tryz.prog Qa8))))) wa ⟨fr 20 [(0, .val (.agg [.int .i64 jf, .list jg jh, .int .i64 ji, .int .i64 jj, .int .i64 jb, .int .i64 jc, .int .i64 ja, .list jd je])),(1, .ptr 0 1 0),(2,vI 0),(3,vI jO),(6, .ptr 0 1 1),(7, .val (.list jg jh)),(8, .val (.int .i64 (jh.length : Int))),(9,vI jJ)],[bx 20 [(1,some [vI jf, .val (.list jg jh),vI ji,vI jj,vI jb,vI jc,vI ja, .val (.list jd je)])]],KK⟩)
noncomputable def Qja (lb n : Nat) (jf : Int) (jg : Bool) (jh : LL) (ji jj jb jc ja : Int) (jd : Bool) (je : LL) (j8 : Int) : Option CV :=
 hold (E0 lb n 0 997 (sub (B Qa8) [1,1,1]) (retK Tryz.prog (R Qa8) 0 (outK (Qak Tryz.prog Qa8))) ⟨fr 20 [(0, .val (.agg [.int .i64 jf, .list jg jh, .int .i64 ji, .int .i64 jj, .int .i64 jb, .int .i64 jc, .int .i64 ja, .list jd je])),(1, .ptr 0 1 0),(2,vI 0),(3,vI j8)],[bx 20 [(1,some [vI jf, .val (.list jg jh),vI ji,vI jj,vI jb,vI jc,vI ja, .val (.list jd je)])]],KK⟩)
theorem QlX (lb n : Nat) (jf : Int) (jg : Bool) (jh : LL) (ji jj jb jc ja : Int) (jd : Bool) (je : LL) (j8 : Int) :
 Qja lb n jf jg jh ji jj jb jc ja jd je j8 =
 some (.int .i64 (IntKind.wrap .i64 (j8 + 1))) := (Qaf _).trans (by kernel_rfl)
theorem Qf4 (lb n wa : Nat) (jf : Int) (jg : Bool) (jh : LL) (ji jj jb jc ja : Int) (jd : Bool) (je : LL) (jO jJ : Int) :
 cond_levels_L1 lb n (wa + 1) jf jg jh ji jj jb jc ja jd je jO jJ =
 bif (decide (jJ < (jh.length : Int))) then
 (optO (atL jh jJ) fun jE =>
 chkO (jE.length == 8) (
 optO (jE[0]?) fun w4 =>
 optO (jE[1]?) fun ww =>
 optO (jE[2]?) fun wv =>
 optO (jE[3]?) fun wu =>
 optO (jE[4]?) fun wS =>
 optO (jE[5]?) fun wT =>
 optO (jE[6]?) fun wF =>
 optO (jE[7]?) fun wC =>
 optO (C lb n Qa8 [.agg [w4,ww,wv,wu,wS,wT,wF,wC]]) fun yZ =>
 optO (CV.asI .i64 yZ) fun yw =>
 cond_levels_L1 lb n wa jf jg jh ji jj jb jc ja jd je (if yw > jO then yw else jO) (IntKind.wrap .i64 (jJ + 1))))
 else
 (Qja lb n jf jg jh ji jj jb jc ja jd je jO) := (Qaf _).trans (by kernel_rfl)
theorem Qod (lb n : Nat) (jf : Int) (jg : Bool) (jh : LL) (ji jj jb jc ja : Int) (jd : Bool) (je : LL) :
 top lb n Qa8 [.agg [.int .i64 jf, .list jg jh, .int .i64 ji, .int .i64 jj, .int .i64 jb, .int .i64 jc, .int .i64 ja, .list jd je]] =
 cond_levels_L1 lb n n jf jg jh ji jj jb jc ja jd je 0 0 := by kernel_rfl
noncomputable def QfB (lb n wa : Nat) (jf : Int) (jg : Bool) (jh : LL) (ji jj jb jc ja : Int) (jd : Bool) (je : LL) (jO jJ : Int) : Option CV :=
 hold (QaC (E0 lb n 0 994) 0 (Qal (sub (B Qbr) [1,1,0,1,0,0]) ++ []) [5] (sub (B Qbr) [1,1,0,1,0,0]) (Qan 0 (seqK (E0 lb n 0 997) (sub (B Qbr) [1,1,0]) (sub (B Qbr) [1,1,1]) (retK Tryz.prog (R Qbr) 0 (outK (Qak Tryz.prog Qbr))))) wa ⟨fr 19 [(0, .val (.agg [.int .i64 jf, .list jg jh, .int .i64 ji, .int .i64 jj, .int .i64 jb, .int .i64 jc, .int .i64 ja, .list jd je])),(1, .ptr 0 1 0),(2,vI 0),(3,vI jO),(6, .ptr 0 1 1),(7, .val (.list jg jh)),(8, .val (.int .i64 (jh.length : Int))),(9,vI jJ)],[bx 19 [(1,some [vI jf, .val (.list jg jh),vI ji,vI jj,vI jb,vI jc,vI ja, .val (.list jd je)])]],KK⟩)
noncomputable def Qle (lb n : Nat) (jf : Int) (jg : Bool) (jh : LL) (ji jj jb jc ja : Int) (jd : Bool) (je : LL) (j8 : Int) : Option CV :=
 hold (E0 lb n 0 997 (sub (B Qbr) [1,1,1]) (retK Tryz.prog (R Qbr) 0 (outK (Qak Tryz.prog Qbr))) ⟨fr 19 [(0, .val (.agg [.int .i64 jf, .list jg jh, .int .i64 ji, .int .i64 jj, .int .i64 jb, .int .i64 jc, .int .i64 ja, .list jd je])),(1, .ptr 0 1 0),(2,vI 0),(3,vI j8)],[bx 19 [(1,some [vI jf, .val (.list jg jh),vI ji,vI jj,vI jb,vI jc,vI ja, .val (.list jd je)])]],KK⟩)
theorem Qnp (lb n : Nat) (jf : Int) (jg : Bool) (jh : LL) (ji jj jb jc ja : Int) (jd : Bool) (je : LL) (j8 : Int) :
 Qle lb n jf jg jh ji jj jb jc ja jd je j8 =
 some (.int .i64 j8) := (Qaf _).trans (by kernel_rfl)
theorem Qhe (lb n wa : Nat) (jf : Int) (jg : Bool) (jh : LL) (ji jj jb jc ja : Int) (jd : Bool) (je : LL) (jO jJ : Int) :
 QfB lb n (wa + 1) jf jg jh ji jj jb jc ja jd je jO jJ =
 bif (decide (jJ < (jh.length : Int))) then
 (optO (atL jh jJ) fun jE =>
 chkO (jE.length == 8) (
 optO (jE[0]?) fun w4 =>
 optO (jE[1]?) fun ww =>
 optO (jE[2]?) fun wv =>
 optO (jE[3]?) fun wu =>
 optO (jE[4]?) fun wS =>
 optO (jE[5]?) fun wT =>
 optO (jE[6]?) fun wF =>
 optO (jE[7]?) fun wC =>
 optO (C lb n Qbr [.agg [w4,ww,wv,wu,wS,wT,wF,wC]]) fun yZ =>
 optO (CV.asI .i64 yZ) fun yw =>
 QfB lb n wa jf jg jh ji jj jb jc ja jd je (IntKind.wrap .i64 (jO + yw)) (IntKind.wrap .i64 (jJ + 1))))
 else
 (Qle lb n jf jg jh ji jj jb jc ja jd je jO) := (Qaf _).trans (by kernel_rfl)
theorem Qqp (lb n : Nat) (jf : Int) (jg : Bool) (jh : LL) (ji jj jb jc ja : Int) (jd : Bool) (je : LL) :
 top lb n Qbr [.agg [.int .i64 jf, .list jg jh, .int .i64 ji, .int .i64 jj, .int .i64 jb, .int .i64 jc, .int .i64 ja, .list jd je]] =
 QfB lb n n jf jg jh ji jj jb jc ja jd je 1 0 := by kernel_rfl
noncomputable def Qgy (lb n wa : Nat) (jf : Int) (jg : Bool) (jh : LL) (ji jj jb jc ja : Int) (jd : Bool) (je : LL) (jO jJ : Int) : Option CV :=
 hold (QaC (E0 lb n 0 994) 0 (Qal (sub (B Qbw) [1,1,0,1,0,0]) ++ []) [] (sub (B Qbw) [1,1,0,1,0,0]) (Qan 0 (seqK (E0 lb n 0 997) (sub (B Qbw) [1,1,0]) (sub (B Qbw) [1,1,1]) (retK Tryz.prog (R Qbw) 0 (outK (Qak Tryz.prog Qbw))))) wa ⟨fr 21 [(0, .val (.agg [.int .i64 jf, .list jg jh, .int .i64 ji, .int .i64 jj, .int .i64 jb, .int .i64 jc, .int .i64 ja, .list jd je])),(1, .ptr 0 1 0),(2,vI 0),(3,vI jO),(4,vI jJ)],[bx 21 [(1,some [vI jf, .val (.list jg jh),vI ji,vI jj,vI jb,vI jc,vI ja, .val (.list jd je)])]],KK⟩)
noncomputable def Qmd (lb n : Nat) (jf : Int) (jg : Bool) (jh : LL) (ji jj jb jc ja : Int) (jd : Bool) (je : LL) (j8 i51 : Int) : Option CV :=
 hold (E0 lb n 0 997 (sub (B Qbw) [1,1,1]) (retK Tryz.prog (R Qbw) 0 (outK (Qak Tryz.prog Qbw))) ⟨fr 21 [(0, .val (.agg [.int .i64 jf, .list jg jh, .int .i64 ji, .int .i64 jj, .int .i64 jb, .int .i64 jc, .int .i64 ja, .list jd je])),(1, .ptr 0 1 0),(2,vI 0),(3,vI j8),(4,vI i51)],[bx 21 [(1,some [vI jf, .val (.list jg jh),vI ji,vI jj,vI jb,vI jc,vI ja, .val (.list jd je)])]],KK⟩)
theorem Qom (lb n : Nat) (jf : Int) (jg : Bool) (jh : LL) (ji jj jb jc ja : Int) (jd : Bool) (je : LL) (j8 i51 : Int) :
 Qmd lb n jf jg jh ji jj jb jc ja jd je j8 i51 =
 some (.int .i64 j8) := (Qaf _).trans (by kernel_rfl)
theorem QhH (lb n wa : Nat) (jf : Int) (jg : Bool) (jh : LL) (ji jj jb jc ja : Int) (jd : Bool) (je : LL) (jO jJ : Int) :
 Qgy lb n (wa + 1) jf jg jh ji jj jb jc ja jd je jO jJ =
 bif (decide (jJ < (jh.length : Int))) then
 (optO (atL jh jJ) fun jE =>
 chkO (jE.length == 8) (
 optO (jE[0]?) fun w4 =>
 optO (jE[1]?) fun ww =>
 optO (jE[2]?) fun wv =>
 optO (jE[3]?) fun wu =>
 optO (jE[4]?) fun wS =>
 optO (jE[5]?) fun wT =>
 optO (jE[6]?) fun wF =>
 optO (jE[7]?) fun wC =>
 optO (C lb n Qbw [.agg [w4,ww,wv,wu,wS,wT,wF,wC]]) fun yZ =>
 optO (CV.asI .i64 yZ) fun yw =>
 Qgy lb n wa jf jg jh ji jj jb jc ja jd je (IntKind.wrap .i64 (jO + yw)) (IntKind.wrap .i64 (jJ + 1))))
 else
 (Qmd lb n jf jg jh ji jj jb jc ja jd je jO jJ) := (Qaf _).trans (by kernel_rfl)
theorem QrT (lb n : Nat) (jf : Int) (jg : Bool) (jh : LL) (ji jj jb jc ja : Int) (jd : Bool) (je : LL) :
 top lb n Qbw [.agg [.int .i64 jf, .list jg jh, .int .i64 ji, .int .i64 jj, .int .i64 jb, .int .i64 jc, .int .i64 ja, .list jd je]] =
 Qgy lb n n jf jg jh ji jj jb jc ja jd je 1 0 := by kernel_rfl
noncomputable def QfJ (lb n wU : Nat) (jf : Int) (jg : Bool) (jh : LL) (ji jj jb jc ja : Int) (jd : Bool) (je : LL) (jT : Int) : Option CV :=
 hold (QaC (E0 lb n 0 993) 0 (Qal (sub (B QaO) [1,1,1,0,1,0,0]) ++ []) [] (sub (B QaO) [1,1,1,0,1,0,0]) (Qan 0 (seqK (E0 lb n 0 996) (sub (B QaO) [1,1,1,0]) (sub (B QaO) [1,1,1,1]) (retK Tryz.prog (R QaO) 0 (outK (Qak Tryz.prog QaO))))) wU ⟨fr 46 [(0, .val (.agg [.int .i64 jf, .list jg jh, .int .i64 ji, .int .i64 jj, .int .i64 jb, .int .i64 jc, .int .i64 ja, .list jd je])),(1, .ptr 0 1 0),(2,vB false),(3, .val (.int .i64 (je.length : Int))),(4,vI jT),(9, .ptr 0 1 7),(10, .val (.list jd je)),(11, .val (.int .i64 (je.length : Int)))],[bx 46 [(1,some [vI jf, .val (.list jg jh),vI ji,vI jj,vI jb,vI jc,vI ja, .val (.list jd je)])]],KK⟩)
noncomputable def QkG (lb n : Nat) (jf : Int) (jg : Bool) (jh : LL) (ji jj jb jc ja : Int) (jd : Bool) (je : LL) (i51 : Int) : Option CV :=
 hold (E0 lb n 0 996 (sub (B QaO) [1,1,1,1]) (retK Tryz.prog (R QaO) 0 (outK (Qak Tryz.prog QaO))) ⟨fr 46 [(0, .val (.agg [.int .i64 jf, .list jg jh, .int .i64 ji, .int .i64 jj, .int .i64 jb, .int .i64 jc, .int .i64 ja, .list jd je])),(1, .ptr 0 1 0),(2,vB false),(3, .val (.int .i64 (je.length : Int))),(4,vI i51),(9, .ptr 0 1 7),(10, .val (.list jd je)),(11, .val (.int .i64 (je.length : Int)))],[bx 46 [(1,some [vI jf, .val (.list jg jh),vI ji,vI jj,vI jb,vI jc,vI ja, .val (.list jd je)])]],KK⟩)
noncomputable def QfQ (lb n vF : Nat) (jf : Int) (jg : Bool) (jh : LL) (ji jj jb jc ja : Int) (jd : Bool) (je : LL) (i51 yu wH : Int) : Option CV :=
 hold (QaC (E0 lb n 0 992) 0 (Qal (sub (B QaO) [1,1,1,1,0,1,0,0]) ++ []) [] (sub (B QaO) [1,1,1,1,0,1,0,0]) (Qan 2 (seqK (E0 lb n 0 995) (sub (B QaO) [1,1,1,1,0]) (sub (B QaO) [1,1,1,1,1]) (retK Tryz.prog (R QaO) 0 (outK (Qak Tryz.prog QaO))))) vF ⟨fr 46 [(0, .val (.agg [.int .i64 jf, .list jg jh, .int .i64 ji, .int .i64 jj, .int .i64 jb, .int .i64 jc, .int .i64 ja, .list jd je])),(1, .ptr 0 1 0),(2,vB false),(3,vI yu),(4,vI i51),(5,vI wH),(9, .ptr 0 1 7),(10, .val (.list jd je)),(11, .val (.int .i64 (je.length : Int)))],[bx 46 [(1,some [vI jf, .val (.list jg jh),vI ji,vI jj,vI jb,vI jc,vI ja, .val (.list jd je)])]],KK⟩)
noncomputable def QhC (lb n : Nat) (jf : Int) (jg : Bool) (jh : LL) (ji jj jb jc ja : Int) (jd : Bool) (je : LL) (i51 vj jR : Int) : Option CV :=
 hold (E0 lb n 0 995 (sub (B QaO) [1,1,1,1,1]) (retK Tryz.prog (R QaO) 0 (outK (Qak Tryz.prog QaO))) ⟨fr 46 [(0, .val (.agg [.int .i64 jf, .list jg jh, .int .i64 ji, .int .i64 jj, .int .i64 jb, .int .i64 jc, .int .i64 ja, .list jd je])),(1, .ptr 0 1 0),(2,vB false),(3,vI vj),(4,vI i51),(5,vI jR),(9, .ptr 0 1 7),(10, .val (.list jd je)),(11, .val (.int .i64 (je.length : Int)))],[bx 46 [(1,some [vI jf, .val (.list jg jh),vI ji,vI jj,vI jb,vI jc,vI ja, .val (.list jd je)])]],KK⟩)
theorem QfM (lb n : Nat) (jf : Int) (jg : Bool) (jh : LL) (ji jj jb jc ja : Int) (jd : Bool) (je : LL) (i51 vj jR : Int) :
 QhC lb n jf jg jh ji jj jb jc ja jd je i51 vj jR =
 some (.bool (decide (vj > 400))) := (Qaf _).trans (by kernel_rfl)
theorem Qhc (lb n vF : Nat) (jf : Int) (jg : Bool) (jh : LL) (ji jj jb jc ja : Int) (jd : Bool) (je : LL) (i51 yu wH : Int) :
 QfQ lb n (vF + 1) jf jg jh ji jj jb jc ja jd je i51 yu wH =
 bif (decide (wH < (je.length : Int))) then
 (bif (decide (wH < 200)) then
 (optO (atL je wH) fun wx =>
 chkO (wx.length == 1) (
 optO (wx[0]?) fun yp =>
 optO (CV.asS yp) fun qE =>
 QfQ lb n vF jf jg jh ji jj jb jc ja jd je i51 (IntKind.wrap .i64 (yu + (qE.length : Int))) (IntKind.wrap .i64 (wH + 1))))
 else
 (QhC lb n jf jg jh ji jj jb jc ja jd je i51 yu wH))
 else
 (QhC lb n jf jg jh ji jj jb jc ja jd je i51 yu wH) := (Qaf _).trans (by kernel_rfl)
theorem QnO (lb n : Nat) (jf : Int) (jg : Bool) (jh : LL) (ji jj jb jc ja : Int) (jd : Bool) (je : LL) (i51 : Int) :
 QkG lb n jf jg jh ji jj jb jc ja jd je i51 =
 QfQ lb n n jf jg jh ji jj jb jc ja jd je i51 (je.length : Int) 0 := (Qaf _).trans (by kernel_rfl)
theorem Qhd (lb n wU : Nat) (jf : Int) (jg : Bool) (jh : LL) (ji jj jb jc ja : Int) (jd : Bool) (je : LL) (jT : Int) :
 QfJ lb n (wU + 1) jf jg jh ji jj jb jc ja jd je jT =
 bif (decide (jT < (jh.length : Int))) then
 (optO (atL jh jT) fun jP =>
 chkO (jP.length == 8) (
 optO (jP[0]?) fun ww =>
 optO (jP[1]?) fun wv =>
 optO (jP[2]?) fun wu =>
 optO (jP[3]?) fun wS =>
 optO (jP[4]?) fun wT =>
 optO (jP[5]?) fun wF =>
 optO (jP[6]?) fun wC =>
 optO (jP[7]?) fun kS =>
 optO (C lb n QaO [.agg [ww,wv,wu,wS,wT,wF,wC,kS]]) fun vm =>
 optO (CV.asB vm) fun pU =>
 bif pU then
 (some (.bool true))
 else
 (QfJ lb n wU jf jg jh ji jj jb jc ja jd je (IntKind.wrap .i64 (jT + 1)))))
 else
 (QkG lb n jf jg jh ji jj jb jc ja jd je jT) := (Qaf _).trans (by kernel_rfl)
theorem Qqq (lb n : Nat) (jf : Int) (jg : Bool) (jh : LL) (ji jj jb jc ja : Int) (jd : Bool) (je : LL) :
 top lb n QaO [.agg [.int .i64 jf, .list jg jh, .int .i64 ji, .int .i64 jj, .int .i64 jb, .int .i64 jc, .int .i64 ja, .list jd je]] =
 optO (C lb n Qbw [.agg [.int .i64 jf, .list jg jh, .int .i64 ji, .int .i64 jj, .int .i64 jb, .int .i64 jc, .int .i64 ja, .list jd je]]) fun jo =>
 optO (CV.asI .i64 jo) fun jI =>
 bif (decide (jI > 300)) then
 (some (.bool true))
 else
 (QfJ lb n n jf jg jh ji jj jb jc ja jd je 0) := by kernel_rfl
end Go.Proofs
