/- Equations of functions, printed by program. Conditions: none. -/
import Derived.Test.YtbdclhadjcfadaaGreatDoorEv
namespace Go.Proofs.K3
open Go.Am
set_option maxRecDepth 100000
set_option linter.unusedVariables false
noncomputable def cond_leaf_L1 :=
 fun lb n (yi : Nat) (jk : Bool) (a2 : LL) jR =>
 hold (QaC (E0 lb n 0 995) 0 (Qal (sub (B QaR) [1,0,1,0,0]) ++ [27,34,7,53,70,88]) [4,5,6] (sub (B QaR) [1,0,1,0,0]) (Qan 0 (seqK (E0 lb n 0 998) (sub (B QaR) [1,0]) (sub (B QaR) [1,1]) (retK Tryz.prog (R QaR) 0 (outK (Qak Tryz.prog QaR))))) yi ⟨fr 104 [(0, .val (.list jk a2)),(2, .ptr 0 2 0),(3,vI jR)],[bx 104 [(2,some [vI 0, .lst true true 27 [],vI 0,vI 0,vI 0,vI 0,vI 0, .lst true true 9 []])]],KK⟩)
noncomputable def Qk2 (lb n : Nat) (jk : Bool) (a2 : LL) (vc : Int) : Option CV :=
 hold (E0 lb n 0 998 (sub (B QaR) [1,1]) (retK Tryz.prog (R QaR) 0 (outK (Qak Tryz.prog QaR))) ⟨fr 104 [(0, .val (.list jk a2)),(2, .ptr 0 2 0),(3,vI vc)],[bx 104 [(2,some [vI 0, .lst true true 27 [],vI 0,vI 0,vI 0,vI 0,vI 0, .lst true true 9 []])]],KK⟩)
theorem Qn0 (lb n : Nat) (jk : Bool) (a2 : LL) (vc : Int) :
 Qk2 lb n jk a2 vc =
 some .err := (Qaf _).trans (by kernel_rfl)
theorem QaL (lb n yi : Nat) (jk : Bool) (a2 : LL) (jR : Int) :
 cond_leaf_L1 lb n (yi + 1) jk a2 jR =
 bif (decide (jR ≤ 14)) then
 (optO (C lb n Qar [.int .i64 jR]) fun nm =>
 optO (CV.asA nm) fun c145 =>
 chkO (c145.length == 9) (
 optO (c145[0]?) fun pi =>
 optO (c145[1]?) fun qQ =>
 optO (c145[2]?) fun gK =>
 optO (c145[3]?) fun gV =>
 optO (c145[4]?) fun ml =>
 optO (c145[5]?) fun nV =>
 optO (c145[6]?) fun nK =>
 optO (c145[7]?) fun qN =>
 optO (c145[8]?) fun qM =>
 optO (atL a2 0) fun oC =>
 chkO (oC.length == 1) (
 optO (oC[0]?) fun nQ =>
 optO (CV.asS pi) fun gw =>
 optO (CV.asS nQ) fun wZ =>
 bif (!(gw == wZ)) then
 (cond_leaf_L1 lb n yi jk a2 (IntKind.wrap .i64 (jR + 1)))
 else
 (optO (CV.asI .i64 gK) fun mf =>
 bif (decide (mf > 0)) then
 (cond_leaf_L1 lb n yi jk a2 (IntKind.wrap .i64 (jR + 1)))
 else
 (optO (CV.asNF nK) fun mS =>
 bif (!mS) then
 (chkO (a2.all (·.length == 1)) (
 chkO (decide ((0 : Int) ≤ 1 ∧ 1 ≤ (a2.length : Int))) (
 some (.agg [.int .i64 jR, .list true [], .int .i64 0, .int .i64 0, .int .i64 0, .int .i64 0, .int .i64 0, .list jk ((a2.take ((a2.length : Int).toNat)).drop 1)]))))
 else
 (optO (CV.asB nV) fun ng =>
 bif ng then
 (bif (!((a2.length : Int) == 2)) then
 (some .err)
 else
 (optO (atL a2 1) fun kd =>
 chkO (kd.length == 1) (
 optO (kd[0]?) fun mu =>
 optO (C lb n QdE [mu]) fun ot =>
 optO (CV.asT ot) fun gL =>
 optO (gL[0]?) fun mX =>
 optO (CV.asT ot) fun t167 =>
 optO (t167[1]?) fun mL =>
 optO (CV.asA mX) fun yB =>
 chkO (yB.length == 3) (
 optO (yB[0]?) fun m8 =>
 optO (yB[1]?) fun gC =>
 optO (yB[2]?) fun n9 =>
 optO (CV.asI .i64 mL) fun i173 =>
 bif (!(i173 == 0)) then
 (some .err)
 else
 (some (.agg [.int .i64 jR, .list true [], .int .i64 0, .int .i64 0,m8,gC,n9, .list true []]))))))
 else
 (bif (jR == 8) then
 (bif (!((a2.length : Int) == 3)) then
 (some .err)
 else
 (optO (atL a2 1) fun oa =>
 chkO (oa.length == 1) (
 optO (oa[0]?) fun me =>
 optO (atL a2 2) fun ov =>
 chkO (ov.length == 1) (
 optO (ov[0]?) fun qV =>
 optO (C lb n Qce [me]) fun kI =>
 optO (CV.asT kI) fun nr =>
 optO (nr[0]?) fun kW =>
 optO (CV.asT kI) fun mg =>
 optO (mg[1]?) fun mV =>
 optO (CV.asI .i64 mV) fun gh =>
 bif (!(gh == 0)) then
 (some .err)
 else
 (optO (atL a2 2) fun kf =>
 chkO (kf.length == 1) (
 optO (kf[0]?) fun mP =>
 optO (C lb n Qce [mP]) fun ke =>
 optO (CV.asT ke) fun mI =>
 optO (mI[0]?) fun vR =>
 optO (CV.asT ke) fun nj =>
 optO (nj[1]?) fun gq =>
 optO (CV.asI .i64 gq) fun mG =>
 bif (!(mG == 0)) then
 (some .err)
 else
 (chkO (CV.isCell kW) (
 chkO (CV.isCell vR) (
 some (.agg [.int .i64 jR, .list true [],kW,vR, .int .i64 0, .int .i64 0, .int .i64 0, .list true []]))))))))))
 else
 (optO (CV.asI .i64 ml) fun mq =>
 bif (decide (mq ≥ 0)) then
 (bif (!((a2.length : Int) == 3)) then
 (some .err)
 else
 (optO (atL a2 1) fun oq =>
 chkO (oq.length == 1) (
 optO (oq[0]?) fun nJ =>
 optO (atL a2 2) fun ou =>
 chkO (ou.length == 1) (
 optO (ou[0]?) fun qX =>
 optO (C lb n QcO [nJ]) fun kR =>
 optO (CV.asT kR) fun nf =>
 optO (nf[0]?) fun oE =>
 optO (CV.asT kR) fun m6 =>
 optO (m6[1]?) fun mC =>
 optO (CV.asI .i64 mC) fun gO =>
 bif (!(gO == 0)) then
 (some .err)
 else
 (optO (atL a2 2) fun kK =>
 chkO (kK.length == 1) (
 optO (kK[0]?) fun nk =>
 optO (C lb n QcO [nk]) fun oh =>
 optO (CV.asT oh) fun mz =>
 optO (mz[0]?) fun kV =>
 optO (CV.asT oh) fun m7 =>
 optO (m7[1]?) fun gD =>
 optO (CV.asI .i64 gD) fun i210 =>
 bif (!(i210 == 0)) then
 (some .err)
 else
 (chkO (CV.isCell oE) (
 chkO (CV.isCell kV) (
 some (.agg [.int .i64 jR, .list true [],oE,kV, .int .i64 0, .int .i64 0, .int .i64 0, .list true []]))))))))))
 else
 (optO (CV.asI .i64 gV) fun mt =>
 bif (decide (mt ≥ 0)) then
 (bif (!((a2.length : Int) == 2)) then
 (some .err)
 else
 (optO (atL a2 1) fun c212 =>
 chkO (c212.length == 1) (
 optO (c212[0]?) fun my =>
 optO (C lb n QcO [my]) fun kG =>
 optO (CV.asT kG) fun nE =>
 optO (nE[0]?) fun kT =>
 optO (CV.asT kG) fun gx =>
 optO (gx[1]?) fun nL =>
 optO (CV.asI .i64 nL) fun n6 =>
 bif (!(n6 == 0)) then
 (some .err)
 else
 (chkO (CV.isCell kT) (
 some (.agg [.int .i64 jR, .list true [],kT, .int .i64 0, .int .i64 0, .int .i64 0, .int .i64 0, .list true []]))))))
 else
 (some (.agg [.int .i64 jR, .list true [], .int .i64 0, .int .i64 0, .int .i64 0, .int .i64 0, .int .i64 0, .list true []])))))))))))
 else
 (Qk2 lb n jk a2 jR) := (Qaf _).trans (by kernel_rfl)
theorem cond_leaf_eq (lb n : Nat) (jk : Bool) (a2 : LL) :
 top lb n QaR [.list jk a2] =
 cond_leaf_L1 lb n n jk a2 1 := by kernel_rfl
end Go.Proofs.K3
