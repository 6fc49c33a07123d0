/- Equations of functions, printed by program. Conditions: none. -/
import Derived.Test.YtbdclhadjcfadaaGreatDoorEv
namespace Go.Proofs.K3
open Go.Am
set_option maxRecDepth 100000
set_option linter.unusedVariables false
noncomputable def cond_leaf_L1 :=
 fun lb n (vR:Nat) (jl:Bool) (a2:LL) wo =>
 hold (Qau (E0 lb n 0 995) 0 (Qah (sub (B QaW) [1,0,1,0,0]) ++ [27,34,7,53,70,88]) [4,5,6] (sub (B QaW) [1,0,1,0,0]) (Qak 0 (seqK (E0 lb n 0 998) (sub (B QaW) [1,0]) (sub (B QaW) [1,1]) (retK Tryz.prog (R QaW) 0 (outK (Qag Tryz.prog QaW))))) vR ⟨fr 104 [(0, .val (.list jl a2)),(2, .ptr 0 2 0),(3,vI wo)],[bx 104 [(2,some [vI 0, .lst true true 27 [],vI 0,vI 0,vI 0,vI 0,vI 0, .lst true true 9 []])]],KK⟩)
noncomputable def QnT (lb n:Nat) (jl:Bool) (a2:LL) (oO:Int):Option CV :=
 hold (E0 lb n 0 998 (sub (B QaW) [1,1]) (retK Tryz.prog (R QaW) 0 (outK (Qag Tryz.prog QaW))) ⟨fr 104 [(0, .val (.list jl a2)),(2, .ptr 0 2 0),(3,vI oO)],[bx 104 [(2,some [vI 0, .lst true true 27 [],vI 0,vI 0,vI 0,vI 0,vI 0, .lst true true 9 []])]],KK⟩)
theorem QqV (lb n:Nat) (jl:Bool) (a2:LL) (oO:Int) :
 QnT lb n jl a2 oO =
 some .err := (Qac _).trans (by kernel_rfl)
theorem QaQ (lb n vR:Nat) (jl:Bool) (a2:LL) (wo:Int) :
 cond_leaf_L1 lb n (vR + 1) jl a2 wo =
 bif (decide (wo ≤ 14)) then
 (optO (C lb n Qax [.int .i64 wo]) fun qG =>
 optO (CV.asA qG) fun c145 =>
 chkO (c145.length == 9) (
 optO (c145[0]?) fun qo =>
 optO (c145[1]?) fun rJ =>
 optO (c145[2]?) fun sD =>
 optO (c145[3]?) fun sc =>
 optO (c145[4]?) fun pL =>
 optO (c145[5]?) fun qB =>
 optO (c145[6]?) fun zn =>
 optO (c145[7]?) fun rI =>
 optO (c145[8]?) fun rL =>
 optO (atL a2 0) fun mR =>
 chkO (mR.length == 1) (
 optO (mR[0]?) fun pP =>
 optO (CV.asS qo) fun sL =>
 optO (CV.asS pP) fun vD =>
 bif (!(sL == vD)) then
 (cond_leaf_L1 lb n vR jl a2 (IntKind.wrap .i64 (wo + 1)))
 else
 (optO (CV.asI .i64 sD) fun vX =>
 bif (decide (vX > 0)) then
 (cond_leaf_L1 lb n vR jl a2 (IntKind.wrap .i64 (wo + 1)))
 else
 (optO (CV.asNF zn) fun zi =>
 bif (!zi) then
 (chkO (a2.all (·.length == 1)) (
 chkO (decide ((0:Int) ≤ 1 ∧ 1 ≤ (a2.length:Int))) (
 some (.agg [.int .i64 wo, .list true [], .int .i64 0, .int .i64 0, .int .i64 0, .int .i64 0, .int .i64 0, .list jl ((a2.take ((a2.length:Int).toNat)).drop 1)]))))
 else
 (optO (CV.asB qB) fun qT =>
 bif qT then
 (bif (!((a2.length:Int) == 2)) then
 (some .err)
 else
 (optO (atL a2 1) fun gY =>
 chkO (gY.length == 1) (
 optO (gY[0]?) fun qU =>
 optO (C lb n Qek [qU]) fun gV =>
 optO (CV.asT gV) fun qj =>
 optO (qj[0]?) fun qb =>
 optO (CV.asT gV) fun t167 =>
 optO (t167[1]?) fun qp =>
 optO (CV.asA qb) fun kB =>
 chkO (kB.length == 3) (
 optO (kB[0]?) fun sF =>
 optO (kB[1]?) fun pR =>
 optO (kB[2]?) fun sP =>
 optO (CV.asI .i64 qp) fun i173 =>
 bif (!(i173 == 0)) then
 (some .err)
 else
 (some (.agg [.int .i64 wo, .list true [], .int .i64 0, .int .i64 0,sF,pR,sP, .list true []]))))))
 else
 (bif (wo == 8) then
 (bif (!((a2.length:Int) == 3)) then
 (some .err)
 else
 (optO (atL a2 1) fun mt =>
 chkO (mt.length == 1) (
 optO (mt[0]?) fun pX =>
 optO (atL a2 2) fun mN =>
 chkO (mN.length == 1) (
 optO (mN[0]?) fun rO =>
 optO (C lb n QcH [pX]) fun mX =>
 optO (CV.asT mX) fun pU =>
 optO (pU[0]?) fun mf =>
 optO (CV.asT mX) fun sZ =>
 optO (sZ[1]?) fun pp =>
 optO (CV.asI .i64 pp) fun pi =>
 bif (!(pi == 0)) then
 (some .err)
 else
 (optO (atL a2 2) fun mq =>
 chkO (mq.length == 1) (
 optO (mq[0]?) fun si =>
 optO (C lb n QcH [si]) fun nv =>
 optO (CV.asT nv) fun qv =>
 optO (qv[0]?) fun ml =>
 optO (CV.asT nv) fun pE =>
 optO (pE[1]?) fun qk =>
 optO (CV.asI .i64 qk) fun sl =>
 bif (!(sl == 0)) then
 (some .err)
 else
 (chkO (CV.isCell mf) (
 chkO (CV.isCell ml) (
 some (.agg [.int .i64 wo, .list true [],mf,ml, .int .i64 0, .int .i64 0, .int .i64 0, .list true []]))))))))))
 else
 (optO (CV.asI .i64 pL) fun sj =>
 bif (decide (sj ≥ 0)) then
 (bif (!((a2.length:Int) == 3)) then
 (some .err)
 else
 (optO (atL a2 1) fun m9 =>
 chkO (m9.length == 1) (
 optO (m9[0]?) fun pG =>
 optO (atL a2 2) fun nr =>
 chkO (nr.length == 1) (
 optO (nr[0]?) fun rE =>
 optO (C lb n Qdn [pG]) fun mY =>
 optO (CV.asT mY) fun pF =>
 optO (pF[0]?) fun mM =>
 optO (CV.asT mY) fun qR =>
 optO (qR[1]?) fun sw =>
 optO (CV.asI .i64 sw) fun qZ =>
 bif (!(qZ == 0)) then
 (some .err)
 else
 (optO (atL a2 2) fun nj =>
 chkO (nj.length == 1) (
 optO (nj[0]?) fun sK =>
 optO (C lb n Qdn [sK]) fun nw =>
 optO (CV.asT nw) fun qx =>
 optO (qx[0]?) fun na =>
 optO (CV.asT nw) fun pu =>
 optO (pu[1]?) fun n7 =>
 optO (CV.asI .i64 n7) fun i210 =>
 bif (!(i210 == 0)) then
 (some .err)
 else
 (chkO (CV.isCell mM) (
 chkO (CV.isCell na) (
 some (.agg [.int .i64 wo, .list true [],mM,na, .int .i64 0, .int .i64 0, .int .i64 0, .list true []]))))))))))
 else
 (optO (CV.asI .i64 sc) fun sW =>
 bif (decide (sW ≥ 0)) then
 (bif (!((a2.length:Int) == 2)) then
 (some .err)
 else
 (optO (atL a2 1) fun c212 =>
 chkO (c212.length == 1) (
 optO (c212[0]?) fun pA =>
 optO (C lb n Qdn [pA]) fun gQ =>
 optO (CV.asT gQ) fun sV =>
 optO (sV[0]?) fun mB =>
 optO (CV.asT gQ) fun su =>
 optO (su[1]?) fun sR =>
 optO (CV.asI .i64 sR) fun zg =>
 bif (!(zg == 0)) then
 (some .err)
 else
 (chkO (CV.isCell mB) (
 some (.agg [.int .i64 wo, .list true [],mB, .int .i64 0, .int .i64 0, .int .i64 0, .int .i64 0, .list true []]))))))
 else
 (some (.agg [.int .i64 wo, .list true [], .int .i64 0, .int .i64 0, .int .i64 0, .int .i64 0, .int .i64 0, .list true []])))))))))))
 else
 (QnT lb n jl a2 wo) := (Qac _).trans (by kernel_rfl)
theorem cond_leaf_eq (lb n:Nat) (jl:Bool) (a2:LL) :
 top lb n QaW [.list jl a2] =
 cond_leaf_L1 lb n n jl a2 1 := by kernel_rfl
end Go.Proofs.K3
