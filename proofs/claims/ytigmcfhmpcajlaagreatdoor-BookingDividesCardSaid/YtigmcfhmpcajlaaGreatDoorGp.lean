/- Equations of functions, printed by program. Conditions: none. -/
import Derived.Test.YtigmcfhmpcajlaaGreatDoorEv
namespace Go.Proofs
open Go.Am
set_option maxRecDepth 100000
set_option linter.unusedVariables false
noncomputable def booking_Parse_L1 :=
 fun lb n (ku : Nat) o0 jR kw (v7 : Bool) (vC : LL) kv (vU : Bool) (vD : LL) (vR : Bool) (vA : LL) kp v164 =>
 hold (Qav (E0 lb n 0 992) 0 (Qag (sub (B QaN) [1,1,1,1,0,1,0,0]) ++ [7,8,9,10]) [] (sub (B QaN) [1,1,1,1,0,1,0,0]) (Qak 0 (seqK (E0 lb n 0 995) (sub (B QaN) [1,1,1,1,0]) (sub (B QaN) [1,1,1,1,1]) (retK Tryz.prog (R QaN) 0 (outK (Qad Tryz.prog QaN))))) ku ⟨fr 56 [(0,vV o0),(2, .ptr 0 2 0),(3,vI 0),(4,vI 0),(5, .ptr 0 5 0),(6,vI jR)],[bx 56 [(2,some [.val (.str []), .lst true true 89 [],vI 0, .lst true true 39 [], .lst true true 70 [],vI 0]),(5,some [.val kw, .lst true v7 89 vC, .val kv, .lst true vU 39 vD, .lst true vR 70 vA, .val kp, .val v164])]],KK⟩)
noncomputable def Qin (lb n : Nat) (pG : CV) (pj : Int) (gT : CV) (gP : Bool) (gq : LL) (gy : CV) (gx : Bool) (gA : LL) (gD : Bool) (gJ : LL) (gV pD : CV) : Option CV :=
 hold (E0 lb n 0 995 (sub (B QaN) [1,1,1,1,1]) (retK Tryz.prog (R QaN) 0 (outK (Qad Tryz.prog QaN))) ⟨fr 56 [(0,vV pG),(2, .ptr 0 2 0),(3,vI 0),(4,vI 0),(5, .ptr 0 5 0),(6,vI pj)],[bx 56 [(2,some [.val (.str []), .lst true true 89 [],vI 0, .lst true true 39 [], .lst true true 70 [],vI 0]),(5,some [.val gT, .lst true gP 89 gq, .val gy, .lst true gx 39 gA, .lst true gD 70 gJ, .val gV, .val pD])]],KK⟩)
theorem QlI (lb n : Nat) (pG : CV) (pj : Int) (gT : CV) (gP : Bool) (gq : LL) (gy : CV) (gx : Bool) (gA : LL) (gD : Bool) (gJ : LL) (gV pD : CV) :
 Qin lb n pG pj gT gP gq gy gx gA gD gJ gV pD =
 optO (C lb n Qab [.agg [gT, .list gP gq,gy, .list gx gA, .list gD gJ,gV]]) fun qk =>
 optO (CV.asL qk) fun zE =>
 bif (decide ((zE.2.length : Int) > 0)) then
 (optO (CV.asL qk) fun tz =>
 optO (atL tz.2 0) fun qF =>
 chkO (qF.length == 2) (
 optO (qF[0]?) fun l4 =>
 some (.tup [.agg [.str [], .list true [], .int .i64 0, .list true [], .list true [], .int .i64 0], .int .i64 0,l4])))
 else
 (some (.tup [.agg [gT, .list gP gq,gy, .list gx gA, .list gD gJ,gV], .int .i64 0, .int .i64 0])) := (Qac _).trans (by kernel_rfl)
theorem Qbr (lb n ku : Nat) (o0 : CV) (jR : Int) (kw : CV) (v7 : Bool) (vC : LL) (kv : CV) (vU : Bool) (vD : LL) (vR : Bool) (vA : LL) (kp v164 : CV) :
 booking_Parse_L1 lb n (ku + 1) o0 jR kw v7 vC kv vU vD vR vA kp v164 =
 optO (CV.asS o0) fun lQ =>
 bif (!(lQ == [])) then
 (optO (C lb n QbZ [o0, .str [10]]) fun pf =>
 optO (CV.asT pf) fun zT =>
 optO (zT[0]?) fun gI =>
 optO (CV.asT pf) fun l7 =>
 optO (l7[1]?) fun ow =>
 optO (CV.asT pf) fun tH =>
 optO (tH[2]?) fun rV =>
 optO (CV.asB rV) fun tl =>
 bif (!tl) then
 (some (.tup [.agg [.str [], .list true [], .int .i64 0, .list true [], .list true [], .int .i64 0], .int .i64 jR, .int .i64 3]))
 else
 (optO (C lb n QaR [gI]) fun q8 =>
 optO (CV.asT q8) fun lh =>
 optO (lh[0]?) fun kK =>
 optO (CV.asT q8) fun tF =>
 optO (tF[1]?) fun n8 =>
 optO (CV.asI .i64 n8) fun li =>
 bif (li != 0) then
 (optO (CV.asI .i64 n8) fun zW =>
 bif (zW != 0) then
 (some (.tup [.agg [.str [], .list true [], .int .i64 0, .list true [], .list true [], .int .i64 0], .int .i64 jR,n8]))
 else
 (booking_Parse_L1 lb n ku  ow (IntKind.wrap .i64 (jR + 1)) kw v7 vC kv vU vD vR vA kp v164))
 else
 (optO (CV.asL kK) fun rR =>
 bif ((rR.2.length : Int) == 0) then
 (some (.tup [.agg [.str [], .list true [], .int .i64 0, .list true [], .list true [], .int .i64 0], .int .i64 jR, .int .i64 3]))
 else
 (optO (CV.asL kK) fun tL =>
 optO (atL tL.2 0) fun sf =>
 chkO (sf.length == 1) (
 optO (sf[0]?) fun zR =>
 optO (C lb n Qb7 [.list false [[CV.str [98,111,111,107,105,110,103]],[CV.str [112,101,114,115,111,110]],[CV.str [115,101,103]],[CV.str [115,101,114,118,105,99,101]]],zR]) fun vz =>
 optO (CV.asI .i64 vz) fun lq =>
 bif (decide (lq < 0)) then
 (some (.tup [.agg [.str [], .list true [], .int .i64 0, .list true [], .list true [], .int .i64 0], .int .i64 jR, .int .i64 3]))
 else
 (optO (CV.asI .i64 vz) fun ry =>
 bif (!((ry == 0) == (jR == 1))) then
 (some (.tup [.agg [.str [], .list true [], .int .i64 0, .list true [], .list true [], .int .i64 0], .int .i64 jR, .int .i64 3]))
 else
 (optO (CV.asI .i64 vz) fun lj =>
 optO (CV.asI .i64 v164) fun zD =>
 bif (decide (lj < zD)) then
 (some (.tup [.agg [.str [], .list true [], .int .i64 0, .list true [], .list true [], .int .i64 0], .int .i64 jR, .int .i64 3]))
 else
 (chkO (CV.isCell vz) (
 optO (CV.asL kK) fun tK =>
 optO (CV.asN vz) fun zn =>
 optO (atL [[CV.int .i64 4],[CV.int .i64 2],[CV.int .i64 11],[CV.int .i64 4]] zn) fun sH =>
 chkO (sH.length == 1) (
 optO (sH[0]?) fun lm =>
 optO (CV.asI .i64 lm) fun ru =>
 bif ((tK.2.length : Int) != ru) then
 (some (.tup [.agg [.str [], .list true [], .int .i64 0, .list true [], .list true [], .int .i64 0], .int .i64 jR, .int .i64 3]))
 else
 (optO (CV.asI .i64 vz) fun lw =>
 bif (lw == 0) then
 (optO (CV.asL kK) fun gt =>
 chkO (gt.2.all (·.length == 1)) (
 chkO (decide ((0 : Int) ≤ 2 ∧ 2 ≤ (gt.2.length : Int))) (
 optO (C lb n QdL [.list gt.1 ((gt.2.take ((gt.2.length : Int).toNat)).drop 2)]) fun sj =>
 optO (CV.asT sj) fun rU =>
 optO (rU[0]?) fun qH =>
 optO (CV.asT sj) fun rh =>
 optO (rh[1]?) fun zH =>
 optO (CV.asB zH) fun lE =>
 bif (!lE) then
 (some (.tup [.agg [.str [], .list true [], .int .i64 0, .list true [], .list true [], .int .i64 0], .int .i64 jR, .int .i64 3]))
 else
 (optO (CV.asL kK) fun lT =>
 optO (atL lT.2 1) fun qV =>
 chkO (qV.length == 1) (
 optO (qV[0]?) fun pu =>
 optO (CV.asL qH) fun rN =>
 optO (atL rN.2 0) fun si =>
 chkO (si.length == 1) (
 optO (si[0]?) fun n3 =>
 optO (CV.asL qH) fun rH =>
 optO (atL rH.2 1) fun qQ =>
 chkO (qQ.length == 1) (
 optO (qQ[0]?) fun pA =>
 chkO (CV.isCell pu) (
 chkO (CV.isCell n3) (
 chkO (CV.isCell pA) (
 optO (C lb n Qhy [.agg [pu, .list v7 vC,pA, .list vU vD, .list vR vA,n3]]) fun zq =>
 optO (CV.asS zq) fun l6 =>
 optO (CV.asS gI) fun lH =>
 bif (!(l6 == lH)) then
 (some (.tup [.agg [.str [], .list true [], .int .i64 0, .list true [], .list true [], .int .i64 0], .int .i64 jR, .int .i64 3]))
 else
 (booking_Parse_L1 lb n ku  ow (IntKind.wrap .i64 (jR + 1)) pu v7 vC pA vU vD vR vA n3 vz)))))))))))
 else
 (optO (CV.asI .i64 vz) fun zY =>
 bif (zY == 1) then
 (optO (CV.asL kK) fun ri =>
 optO (atL ri.2 1) fun qz =>
 chkO (qz.length == 1) (
 optO (qz[0]?) fun tG =>
 optO (C lb n QhK [tG]) fun sU =>
 optO (CV.asT sU) fun zB =>
 optO (zB[0]?) fun tu =>
 optO (CV.asT sU) fun rr =>
 optO (rr[1]?) fun pL =>
 optO (CV.asA tu) fun mM =>
 chkO (mM.length == 3) (
 optO (mM[0]?) fun qS =>
 optO (mM[1]?) fun qN =>
 optO (mM[2]?) fun qB =>
 optO (CV.asI .i64 pL) fun zA =>
 bif (zA != 0) then
 (optO (CV.asI .i64 pL) fun zm =>
 bif (zm != 0) then
 (some (.tup [.agg [.str [], .list true [], .int .i64 0, .list true [], .list true [], .int .i64 0], .int .i64 jR,pL]))
 else
 (booking_Parse_L1 lb n ku  ow (IntKind.wrap .i64 (jR + 1)) kw v7 vC kv vU vD vR vA kp vz))
 else
 (chkO (room (vC.length + 1) 48) (
 optO (C lb n Qd0 [.agg [qS,qN,qB]]) fun rc =>
 optO (CV.asS rc) fun rJ =>
 optO (CV.asS gI) fun lf =>
 bif (!(rJ == lf)) then
 (some (.tup [.agg [.str [], .list true [], .int .i64 0, .list true [], .list true [], .int .i64 0], .int .i64 jR, .int .i64 3]))
 else
 (booking_Parse_L1 lb n ku  ow (IntKind.wrap .i64 (jR + 1)) kw (v7 && false) (vC ++ [[qS,qN,qB]]) kv vU vD vR vA kp vz))))))
 else
 (optO (CV.asI .i64 vz) fun lG =>
 bif (lG == 2) then
 (optO (C lb n Qfe [kK]) fun sQ =>
 optO (CV.asT sQ) fun zQ =>
 optO (zQ[0]?) fun zG =>
 optO (CV.asT sQ) fun lR =>
 optO (lR[1]?) fun pB =>
 optO (CV.asA zG) fun kf =>
 chkO (kf.length == 10) (
 optO (kf[0]?) fun sw =>
 optO (kf[1]?) fun sr =>
 optO (kf[2]?) fun qh =>
 optO (kf[3]?) fun qK =>
 optO (kf[4]?) fun sN =>
 optO (kf[5]?) fun qM =>
 optO (kf[6]?) fun qX =>
 optO (kf[7]?) fun qo =>
 optO (kf[8]?) fun sY =>
 optO (kf[9]?) fun sa =>
 optO (CV.asI .i64 pB) fun rE =>
 bif (rE != 0) then
 (optO (CV.asI .i64 pB) fun tA =>
 bif (tA != 0) then
 (some (.tup [.agg [.str [], .list true [], .int .i64 0, .list true [], .list true [], .int .i64 0], .int .i64 jR,pB]))
 else
 (booking_Parse_L1 lb n ku  ow (IntKind.wrap .i64 (jR + 1)) kw v7 vC kv vU vD vR vA kp vz))
 else
 (chkO (room (vD.length + 1) 112) (
 optO (C lb n Qe7 [.agg [sw,sr,qh,qK,sN,qM,qX,qo,sY,sa]]) fun rZ =>
 optO (CV.asS rZ) fun zO =>
 optO (CV.asS gI) fun rm =>
 bif (!(zO == rm)) then
 (some (.tup [.agg [.str [], .list true [], .int .i64 0, .list true [], .list true [], .int .i64 0], .int .i64 jR, .int .i64 3]))
 else
 (booking_Parse_L1 lb n ku  ow (IntKind.wrap .i64 (jR + 1)) kw v7 vC kv (vU && false) (vD ++ [[sw,sr,qh,qK,sN,qM,qX,qo,sY,sa]]) vR vA kp vz)))))
 else
 (optO (CV.asL kK) fun gu =>
 chkO (gu.2.all (·.length == 1)) (
 chkO (decide ((0 : Int) ≤ 2 ∧ 2 ≤ (gu.2.length : Int))) (
 optO (C lb n QdL [.list gu.1 ((gu.2.take ((gu.2.length : Int).toNat)).drop 2)]) fun sJ =>
 optO (CV.asT sJ) fun rq =>
 optO (rq[0]?) fun sK =>
 optO (CV.asT sJ) fun z8 =>
 optO (z8[1]?) fun zo =>
 optO (CV.asB zo) fun le =>
 bif (!le) then
 (some (.tup [.agg [.str [], .list true [], .int .i64 0, .list true [], .list true [], .int .i64 0], .int .i64 jR, .int .i64 3]))
 else
 (optO (CV.asL kK) fun rI =>
 optO (atL rI.2 1) fun sE =>
 chkO (sE.length == 1) (
 optO (sE[0]?) fun pq =>
 optO (CV.asL sK) fun tE =>
 optO (atL tE.2 0) fun ss =>
 chkO (ss.length == 1) (
 optO (ss[0]?) fun nI =>
 optO (CV.asL sK) fun lP =>
 optO (atL lP.2 1) fun qy =>
 chkO (qy.length == 1) (
 optO (qy[0]?) fun nT =>
 chkO (CV.isCell pq) (
 chkO (CV.isCell nI) (
 chkO (CV.isCell nT) (
 chkO (room (vA.length + 1) 32) (
 optO (C lb n QfR [.agg [pq,nI,nT]]) fun zk =>
 optO (CV.asS zk) fun tS =>
 optO (CV.asS gI) fun rp =>
 bif (!(tS == rp)) then
 (some (.tup [.agg [.str [], .list true [], .int .i64 0, .list true [], .list true [], .int .i64 0], .int .i64 jR, .int .i64 3]))
 else
 (booking_Parse_L1 lb n ku  ow (IntKind.wrap .i64 (jR + 1)) kw v7 vC kv vU vD (vR && false) (vA ++ [[pq,nI,nT]]) kp vz)))))))))))))))))))))))))
 else
 (Qin lb n  o0 jR kw v7 vC kv vU vD vR vA kp v164) := (Qac _).trans (by kernel_rfl)
theorem Qoi (lb n : Nat) (a1 : LB) :
 top lb n QaN [.str a1] =
 bif (decide ((a1.length : Int) > 65536)) then
 (some (.tup [.agg [.str [], .list true [], .int .i64 0, .list true [], .list true [], .int .i64 0], .int .i64 0, .int .i64 4]))
 else
 (bif (a1 == []) then
 (some (.tup [.agg [.str [], .list true [], .int .i64 0, .list true [], .list true [], .int .i64 0], .int .i64 1, .int .i64 3]))
 else
 (booking_Parse_L1 lb n n  (.str a1) 1 (.str []) true [] (.int .i64 0) true [] true [] (.int .i64 0) (.int .i64 0))) := by kernel_rfl
end Go.Proofs
