/- Equations of functions, printed by program. Conditions: none. -/
import Derived.Test.YtigmcfhmpcajlaaGreatDoorEv
namespace Go.Proofs
open Go.Am
set_option maxRecDepth 100000
set_option linter.unusedVariables false
theorem Qrv (lb n) (a1 : LB) :
 top lb n QeM [.str a1] =
 optO (C lb n QbO [.str a1, .int .u8 47]) fun r2 =>
 optO (C lb n QcW [.str a1, .int .u8 32]) fun r3 =>
 optO (CV.asI .i64 r2) fun i4 =>
 bif (decide (i4 < 0)) then
 (some (.tup [.agg [.str [], .str [], .str []], .int .i64 3]))
 else
 (optO (C lb n Qe3 [.str a1, .str [47]]) fun r5 =>
 optO (CV.asI .i64 r5) fun i6 =>
 bif (i6 != 1) then
 (some (.tup [.agg [.str [], .str [], .str []], .int .i64 3]))
 else
 (optO (CV.asI .i64 r3) fun i7 =>
 optO (CV.asI .i64 r2) fun i9 =>
 bif (decide (i7 < i9)) then
 (some (.tup [.agg [.str [], .str [], .str []], .int .i64 3]))
 else
 (optO (CV.asN r2) fun gp =>
 chkO (decide ((0 : Int) ≤ gp ∧ gp ≤ (a1.length : Int))) (
 optO (CV.asI .i64 r2) fun yF =>
 optO (CV.asN r3) fun yx =>
 chkO (decide ((0 : Int) ≤ yx ∧ yx ≤ (a1.length : Int))) (
 chkO (decide ((0 : Int) ≤ (IntKind.wrap .i64 (yF + 1)) ∧ (IntKind.wrap .i64 (yF + 1)) ≤ yx)) (
 optO (CV.asI .i64 r3) fun gt =>
 chkO (decide ((0 : Int) ≤ (IntKind.wrap .i64 (gt + 1)) ∧ (IntKind.wrap .i64 (gt + 1)) ≤ (a1.length : Int))) (
 optO (C lb n QeO [.agg [.str ((a1.take gp.toNat).drop 0), .str ((a1.take yx.toNat).drop ((IntKind.wrap .i64 (yF + 1)).toNat)), .str ((a1.take ((a1.length : Int).toNat)).drop ((IntKind.wrap .i64 (gt + 1)).toNat))]]) fun ol =>
 optO (CV.asT ol) fun kS =>
 optO (kS[0]?) fun vK =>
 optO (CV.asT ol) fun mg =>
 optO (mg[1]?) fun kT =>
 optO (CV.asI .i64 kT) fun i20 =>
 bif (i20 != 0) then
 (some (.tup [.agg [.str [], .str [], .str []],kT]))
 else
 (some (.tup [.agg [.str ((a1.take gp.toNat).drop 0), .str ((a1.take yx.toNat).drop ((IntKind.wrap .i64 (yF + 1)).toNat)), .str ((a1.take ((a1.length : Int).toNat)).drop ((IntKind.wrap .i64 (gt + 1)).toNat))], .int .i64 0]))))))))) := by kernel_rfl
noncomputable def booking_numbers_L1 :=
 fun lb n (yE : Nat) (jk : Bool) (a2 : LL) (kc : Bool) (gb : LL) yO =>
 hold (Qaw (E0 lb n 0 994) 0 (Qah (sub (B QaR) [1,1,0,1,0,0]) ++ [6,7,8]) [] (sub (B QaR) [1,1,0,1,0,0]) (Qap 0 (seqK (E0 lb n 0 997) (sub (B QaR) [1,1,0]) (sub (B QaR) [1,1,1]) (retK Tryz.prog (R QaR) 0 (outK (Qad Tryz.prog QaR))))) yE ⟨fr 28 [(0, .val (.list jk a2)),(2, .lst true true 3 []),(3,vB false),(4, .lst true kc 3 gb),(9, .val (.list jk a2)),(10, .val (.int .i64 (a2.length : Int))),(11,vI yO)],[bx 28 []],KK⟩)
noncomputable def Qil (lb n : Nat) (jk : Bool) (a2 : LL) (kB : Bool) (vY : LL) : Option CV :=
 hold (E0 lb n 0 997 (sub (B QaR) [1,1,1]) (retK Tryz.prog (R QaR) 0 (outK (Qad Tryz.prog QaR))) ⟨fr 28 [(0, .val (.list jk a2)),(2, .lst true true 3 []),(3,vB false),(4, .lst true kB 3 vY)],[bx 28 []],KK⟩)
theorem QkO (lb n : Nat) (jk : Bool) (a2 : LL) (kB : Bool) (vY : LL) :
 Qil lb n jk a2 kB vY =
 some (.tup [.list kB vY, .bool true]) := (Qab _).trans (by kernel_rfl)
theorem QfU (lb n yE : Nat) (jk : Bool) (a2 : LL) (kc : Bool) (gb : LL) (yO : Int) :
 booking_numbers_L1 lb n (yE + 1) jk a2 kc gb yO =
 bif (decide (yO < (a2.length : Int))) then
 (optO (atL a2 yO) fun yq =>
 chkO (yq.length == 1) (
 optO (yq[0]?) fun ta =>
 optO (C lb n QiD [ta]) fun nC =>
 optO (CV.asT nC) fun ud =>
 optO (ud[0]?) fun j5 =>
 optO (CV.asT nC) fun qQ =>
 optO (qQ[1]?) fun j7 =>
 optO (CV.asI .i64 j7) fun kw =>
 bif (kw != 0) then
 (some (.tup [.list true [], .bool false]))
 else
 (chkO (CV.isCell j5) (
 chkO (room (gb.length + 1) 8) (
 booking_numbers_L1 lb n yE jk a2 (kc && false) (gb ++ [[j5]]) (IntKind.wrap .i64 (yO + 1)))))))
 else
 (Qil lb n jk a2 kc gb) := (Qab _).trans (by kernel_rfl)
theorem QmD (lb n : Nat) (jk : Bool) (a2 : LL) :
 top lb n QaR [.list jk a2] =
 booking_numbers_L1 lb n n jk a2 true [] 0 := by kernel_rfl
theorem Qm4 (lb n : Nat) (jk : Bool) (a2 : LL) :
 top lb n Qdr [.list jk a2] =
 optO (atL a2 2) fun c3 =>
 chkO (c3.length == 1) (
 optO (c3[0]?) fun x4 =>
 optO (atL a2 3) fun c5 =>
 chkO (c5.length == 1) (
 optO (c5[0]?) fun x6 =>
 optO (atL a2 6) fun c7 =>
 chkO (c7.length == 1) (
 optO (c7[0]?) fun x9 =>
 optO (atL a2 7) fun v6 =>
 chkO (v6.length == 1) (
 optO (v6[0]?) fun gw =>
 optO (atL a2 10) fun vZ =>
 chkO (vZ.length == 1) (
 optO (vZ[0]?) fun ky =>
 chkO (CV.isCell x4) (
 chkO (CV.isCell x6) (
 chkO (CV.isCell x9) (
 chkO (CV.isCell gw) (
 chkO (CV.isCell ky) (
 optO (C lb n QaR [.list false [[x4],[x6],[x9],[gw],[ky]]]) fun ol =>
 optO (CV.asT ol) fun kS =>
 optO (kS[0]?) fun vK =>
 optO (CV.asT ol) fun mg =>
 optO (mg[1]?) fun kT =>
 optO (CV.asB kT) fun yW =>
 bif (!yW) then
 (some (.tup [.agg [.str [], .int .i64 0, .int .i64 0, .str [], .str [], .int .i64 0, .int .i64 0, .str [], .int .i64 0, .int .i64 0], .int .i64 3]))
 else
 (optO (atL a2 9) fun c21 =>
 chkO (c21.length == 1) (
 optO (c21[0]?) fun gy =>
 optO (C lb n Qbu [gy]) fun jq =>
 optO (CV.asT jq) fun oB =>
 optO (oB[0]?) fun jH =>
 optO (CV.asT jq) fun mq =>
 optO (mq[1]?) fun jX =>
 optO (atL a2 1) fun gh =>
 chkO (gh.length == 1) (
 optO (gh[0]?) fun j5 =>
 optO (CV.asL vK) fun tp =>
 optO (atL tp.2 0) fun qZ =>
 chkO (qZ.length == 1) (
 optO (qZ[0]?) fun jY =>
 optO (CV.asL vK) fun tc =>
 optO (atL tc.2 1) fun qT =>
 chkO (qT.length == 1) (
 optO (qT[0]?) fun kQ =>
 optO (atL a2 4) fun c37 =>
 chkO (c37.length == 1) (
 optO (c37[0]?) fun oF =>
 optO (atL a2 5) fun mC =>
 chkO (mC.length == 1) (
 optO (mC[0]?) fun o6 =>
 optO (CV.asL vK) fun rR =>
 optO (atL rR.2 2) fun ku =>
 chkO (ku.length == 1) (
 optO (ku[0]?) fun gg =>
 optO (CV.asL vK) fun qo =>
 optO (atL qo.2 3) fun mh =>
 chkO (mh.length == 1) (
 optO (mh[0]?) fun vF =>
 chkO (CV.isCell j5) (
 chkO (CV.isCell jY) (
 chkO (CV.isCell kQ) (
 chkO (CV.isCell oF) (
 chkO (CV.isCell o6) (
 chkO (CV.isCell gg) (
 chkO (CV.isCell vF) (
 optO (atL a2 8) fun oR =>
 chkO (oR.length == 1) (
 optO (oR[0]?) fun gi =>
 chkO (CV.isCell gi) (
 optO (CV.asL vK) fun uq =>
 optO (atL uq.2 4) fun qW =>
 chkO (qW.length == 1) (
 optO (qW[0]?) fun gk =>
 chkO (CV.isCell jH) (
 chkO (CV.isCell gk) (
 some (.tup [.agg [j5,jY,kQ,oF,o6,gg,vF,gi,jH,gk],jX])))))))))))))))))))))))))))))))) := by kernel_rfl
noncomputable def Qd7 (lb n k3 : Nat) (a1 : LB) (i2 : Int) : Option CV :=
 hold (Qaw (E0 lb n 0 995) 0 (Qah (sub (B Qbu) [1,0,1,0,0]) ++ []) [] (sub (B Qbu) [1,0,1,0,0]) (Qap 0 (seqK (E0 lb n 0 998) (sub (B Qbu) [1,0]) (sub (B Qbu) [1,1]) (retK Tryz.prog (R Qbu) 0 (outK (Qad Tryz.prog Qbu))))) k3 ⟨fr 18 [(0,vS a1),(2,vI 0),(3,vI 0),(4,vI i2)],[bx 18 []],KK⟩)
noncomputable def Qj2 (lb n : Nat) (a1 : LB) (i4 : Int) : Option CV :=
 hold (E0 lb n 0 998 (sub (B Qbu) [1,1]) (retK Tryz.prog (R Qbu) 0 (outK (Qad Tryz.prog Qbu))) ⟨fr 18 [(0,vS a1),(2,vI 0),(3,vI 0),(4,vI i4)],[bx 18 []],KK⟩)
theorem Qnw (lb n : Nat) (a1 : LB) (i4 : Int) :
 Qj2 lb n a1 i4 =
 some (.tup [.int .i64 0, .int .i64 3]) := (Qab _).trans (by kernel_rfl)
theorem Qg0 (lb n k3 : Nat) (a1 : LB) (i2 : Int) :
 Qd7 lb n (k3 + 1) a1 i2 =
 bif (decide (i2 ≤ 7)) then
 (chkO (decide ((0 : Int) ≤ (IntKind.wrap .i64 (2 * i2)) ∧ (IntKind.wrap .i64 (2 * i2)) ≤ 14)) (
 chkO (decide ((0 : Int) ≤ (IntKind.wrap .i64 ((IntKind.wrap .i64 (2 * i2)) - 2)) ∧ (IntKind.wrap .i64 ((IntKind.wrap .i64 (2 * i2)) - 2)) ≤ (IntKind.wrap .i64 (2 * i2)))) (
 bif (((([72,75,72,76,75,76,84,75,85,78,85,67,88,88] : LB).take ((IntKind.wrap .i64 (2 * i2)).toNat)).drop ((IntKind.wrap .i64 ((IntKind.wrap .i64 (2 * i2)) - 2)).toNat)) == a1) then
 (some (.tup [.int .i64 i2, .int .i64 0]))
 else
 (Qd7 lb n k3 a1 (IntKind.wrap .i64 (i2 + 1))))))
 else
 (Qj2 lb n a1 i2) := (Qab _).trans (by kernel_rfl)
theorem Qqn (lb n : Nat) (a1 : LB) :
 top lb n Qbu [.str a1] =
 Qd7 lb n n a1 1 := by kernel_rfl
end Go.Proofs
