/- Equations of functions, printed by program. Conditions: none. -/
import Derived.Test.YtigmcfhmpcajlaaGreatDoorEv
namespace Go.Proofs
open Go.Am
set_option maxRecDepth 100000
set_option linter.unusedVariables false
theorem QlG (lb n) (a1 b2 : Int) :
 top lb n Qcz [.int .i64 a1, .int .i64 b2] =
 optO (C lb n QeW [.int .i64 a1, .int .i64 b2]) fun r3 =>
 optO (CV.asI .i64 r3) fun i4 =>
 bif (i4 == 0) then
 (some (.tup [.int .i64 0, .int .i64 10]))
 else
 (some (.tup [r3, .int .i64 0])) := by kernel_rfl
theorem Qk1 (lb n) (a1 b2 : Int) :
 top lb n QeW [.int .i64 a1, .int .i64 b2] =
 bif (a1 == 0) then
 (bif (b2 == 1) then
 (some (.int .i64 1))
 else
 (bif (b2 == 2) then
 (some (.int .i64 2))
 else
 (some (.int .i64 0))))
 else
 (bif (a1 == 3) then
 (bif (b2 == 7) then
 (some (.int .i64 1))
 else
 (bif (b2 == 5) then
 (some (.int .i64 4))
 else
 (optO (C lb n QbQ [.int .i64 b2]) fun r3 =>
 some (r3))))
 else
 (bif (a1 == 4) then
 (bif (b2 == 7) then
 (some (.int .i64 1))
 else
 (bif (b2 == 5) then
 (some (.int .i64 4))
 else
 (optO (C lb n QbQ [.int .i64 b2]) fun r4 =>
 some (r4))))
 else
 (bif (a1 == 1) then
 (bif (b2 == 5) then
 (some (.int .i64 4))
 else
 (optO (C lb n QbQ [.int .i64 b2]) fun r5 =>
 some (r5)))
 else
 (bif (a1 == 2) then
 (bif (b2 == 3) then
 (some (.int .i64 3))
 else
 (bif (b2 == 4) then
 (some (.int .i64 6))
 else
 (optO (C lb n QbQ [.int .i64 b2]) fun r6 =>
 some (r6))))
 else
 (bif (a1 == 5) then
 (bif (b2 == 1) then
 (some (.int .i64 1))
 else
 (bif (b2 == 8) then
 (some (.int .i64 7))
 else
 (some (.int .i64 0))))
 else
 (bif (a1 == 6) then
 (bif (b2 == 8) then
 (some (.int .i64 7))
 else
 (some (.int .i64 0)))
 else
 (some (.int .i64 0)))))))) := by kernel_rfl
theorem Qj3 (lb n) (a1 : Int) :
 top lb n QbQ [.int .i64 a1] =
 bif (a1 == 6) then
 (some (.int .i64 5))
 else
 (bif (a1 == 8) then
 (some (.int .i64 7))
 else
 (some (.int .i64 0))) := by kernel_rfl
theorem Ql2 (lb n) (a1 : Int) :
 top lb n Qcw [.int .i64 a1] =
 bif (a1 == 1) then
 (some (.bool true))
 else
 (bif (a1 == 3) then
 (some (.bool true))
 else
 (some (.bool (a1 == 4)))) := by kernel_rfl
theorem QlY (lb n) (a1 : Int) :
 top lb n Qda [.int .i64 a1] =
 optO (C lb n Qcw [.int .i64 a1]) fun r2 =>
 optO (CV.asB r2) fun b3 =>
 bif b3 then
 (some (.bool true))
 else
 (some (.bool (a1 == 2))) := by kernel_rfl
theorem QlO (lb n) (a1 : Int) :
 top lb n QfQ [.int .i64 a1] =
 bif (decide (a1 < 1)) then
 (some (.tup [.str [], .int .i64 8]))
 else
 (bif (decide (a1 > 7)) then
 (some (.tup [.str [], .int .i64 8]))
 else
 (chkO (decide ((0 : Int) ≤ (IntKind.wrap .i64 (2 * a1)) ∧ (IntKind.wrap .i64 (2 * a1)) ≤ 14)) (
 chkO (decide ((0 : Int) ≤ (IntKind.wrap .i64 ((IntKind.wrap .i64 (2 * a1)) - 2)) ∧ (IntKind.wrap .i64 ((IntKind.wrap .i64 (2 * a1)) - 2)) ≤ (IntKind.wrap .i64 (2 * a1)))) (
 some (.tup [.str ((([72, 75, 72, 76, 75, 76, 84, 75, 85, 78, 85, 67, 88, 88] : LB).take ((IntKind.wrap .i64 (2 * a1)).toNat)).drop ((IntKind.wrap .i64 ((IntKind.wrap .i64 (2 * a1)) - 2)).toNat)), .int .i64 0]))))) := by kernel_rfl
noncomputable def marry_Check_L1 :=
 fun lb n (kh : Nat) (jg : Bool) (a2 : LL) i6 =>
 hold (QaA (E0 lb n 0 995) 0 (Qag (sub (B QaB) [1, 0, 1, 0, 0]) ++ [4]) [] (sub (B QaB) [1, 0, 1, 0, 0]) (Qal 0 (seqK (E0 lb n 0 998) (sub (B QaB) [1, 0]) (sub (B QaB) [1, 1]) (retK Tryz.prog (R QaB) 0 (outK (Qah Tryz.prog QaB))))) kh ⟨fr 51 [(0, .val (.list jg a2)), (2, vI 0), (8, .val (.list jg a2)), (9, .val (.int .i64 (a2.length : Int))), (10, vI i6)], [bx 51 []], KK⟩)
noncomputable def QhB (lb n : Nat) (jg : Bool) (a2 : LL) : Option CV :=
 hold (E0 lb n 0 998 (sub (B QaB) [1, 1]) (retK Tryz.prog (R QaB) 0 (outK (Qah Tryz.prog QaB))) ⟨fr 51 [(0, .val (.list jg a2)), (2, vI 0)], [bx 51 []], KK⟩)
noncomputable def Qcn (lb n vN : Nat) (jg : Bool) (a2 : LL) (wV : CV) (yl : Bool × LL) (yv : Int) : Option CV :=
 hold (QaA (E0 lb n 0 994) 0 (Qag (sub (B QaB) [1, 1, 0, 1, 0, 0]) ++ [6, 7]) [] (sub (B QaB) [1, 1, 0, 1, 0, 0]) (Qal 2 (seqK (E0 lb n 0 997) (sub (B QaB) [1, 1, 0]) (sub (B QaB) [1, 1, 1]) (retK Tryz.prog (R QaB) 0 (outK (Qah Tryz.prog QaB))))) vN ⟨fr 51 [(0, .val (.list jg a2)), (2, vI 0), (17, .val (.list jg a2)), (18, vV wV), (19, .val (.int .i64 (yl.2.length : Int))), (20, vI yv)], [bx 51 []], KK⟩)
noncomputable def Qhg (lb n : Nat) (jg : Bool) (a2 : LL) : Option CV :=
 hold (E0 lb n 0 997 (sub (B QaB) [1, 1, 1]) (retK Tryz.prog (R QaB) 0 (outK (Qah Tryz.prog QaB))) ⟨fr 51 [(0, .val (.list jg a2)), (2, vI 0)], [bx 51 []], KK⟩)
theorem QjR (lb n : Nat) (jg : Bool) (a2 : LL) :
 Qhg lb n jg a2 =
 some (.int .i64 0) := (Qai _).trans (by kernel_rfl)
theorem QeM (lb n vN : Nat) (jg : Bool) (a2 : LL) (wV : CV) (yl : Bool × LL) (yv : Int) :
 Qcn lb n (vN + 1) jg a2 wV yl yv =
 bif (decide (yv < (yl.2.length : Int))) then
 (optO (CV.asL wV) fun nR =>
 optO (atL nR.2 yv) fun c59 =>
 chkO (c59.length == 1) (
 optO (c59[0]?) fun ke =>
 optO (CV.asL ke) fun mU =>
 optO (atL mU.2 0) fun c62 =>
 chkO (c62.length == 1) (
 optO (c62[0]?) fun nC =>
 optO (CV.asN nC) fun nw =>
 optO (atL a2 nw) fun c66 =>
 chkO (c66.length == 1) (
 optO (c66[0]?) fun gW =>
 optO (CV.asI .i64 gW) fun nU =>
 bif (decide (nU > 0)) then
 (optO (CV.asL ke) fun nV =>
 bif ((nV.2.length : Int) == 1) then
 (some (.int .i64 18))
 else
 (optO (CV.asL ke) fun nd =>
 optO (CV.asL ke) fun nk =>
 optO (atL nk.2 (IntKind.wrap .i64 ((nd.2.length : Int) - 1))) fun c72 =>
 chkO (c72.length == 1) (
 optO (c72[0]?) fun m5 =>
 optO (CV.asI .i64 m5) fun ko =>
 chkO (a2.all (·.length == 1)) (
 chkO (decide ((0 : Int) ≤ (IntKind.wrap .i64 (ko + 1)) ∧ (IntKind.wrap .i64 (ko + 1)) ≤ (a2.length : Int))) (
 optO (C lb n Qb5 [.list jg ((a2.take ((a2.length : Int).toNat)).drop ((IntKind.wrap .i64 (ko + 1)).toNat)), gW]) fun m6 =>
 optO (CV.asB m6) fun nh =>
 bif nh then
 (some (.int .i64 18))
 else
 (Qcn lb n vN jg a2 wV yl (IntKind.wrap .i64 (yv + 1))))))))
 else
 (Qcn lb n vN jg a2 wV yl (IntKind.wrap .i64 (yv + 1)))))))
 else
 (Qhg lb n jg a2 ) := (Qai _).trans (by kernel_rfl)
theorem QjQ (lb n : Nat) (jg : Bool) (a2 : LL) :
 QhB lb n jg a2 =
 optO (C lb n QcR [.list jg a2]) fun wV =>
 optO (CV.asL wV) fun yl =>
 Qcn lb n n jg a2 wV yl 0 := (Qai _).trans (by kernel_rfl)
theorem QeN (lb n kh : Nat) (jg : Bool) (a2 : LL) (i6 : Int) :
 marry_Check_L1 lb n (kh + 1) jg a2 i6 =
 bif (decide (i6 < (a2.length : Int))) then
 (optO (atL a2 i6) fun c12 =>
 chkO (c12.length == 1) (
 optO (c12[0]?) fun nY =>
 optO (CV.asI .i64 nY) fun mI =>
 bif (decide (mI < 0)) then
 (some (.int .i64 2))
 else
 (marry_Check_L1 lb n kh jg a2 (IntKind.wrap .i64 (i6 + 1)))))
 else
 (QhB lb n jg a2 ) := (Qai _).trans (by kernel_rfl)
theorem QlP (lb n : Nat) (jg : Bool) (a2 : LL) :
 top lb n QaB [.list jg a2] =
 marry_Check_L1 lb n n jg a2 0 := by kernel_rfl
theorem Qlw (lb n : Nat) (jg : Bool) (a2 : LL) :
 top lb n QeZ [.list jg a2] =
 optO (C lb n QaB [.list jg a2]) fun r3 =>
 optO (CV.asI .i64 r3) fun i4 =>
 bif (i4 != 0) then
 (some (.tup [.list true [], r3]))
 else
 (optO (C lb n QcR [.list jg a2]) fun r5 =>
 some (.tup [r5, .int .i64 0])) := by kernel_rfl
noncomputable def Qeb (lb n kg : Nat) (jg : Bool) (a2 : LL) (b3 : Int) (x6 x9 r4 : CV) (yz : Bool × LL) (yI : Int) : Option CV :=
 hold (QaA (E0 lb n 0 993) 0 (Qag (sub (B Qa8) [1, 1, 1, 0, 1, 0, 0]) ++ [9]) [] (sub (B Qa8) [1, 1, 1, 0, 1, 0, 0]) (Qal 0 (seqK (E0 lb n 0 996) (sub (B Qa8) [1, 1, 1, 0]) (sub (B Qa8) [1, 1, 1, 1]) (retK Tryz.prog (R Qa8) 0 (outK (Qah Tryz.prog Qa8))))) kg ⟨fr 29 [(0, .val (.list jg a2)), (1, vI b3), (4, .lst true true 3 []), (5, vI 0), (6, vV x6), (7, vV x9), (10, vV r4), (11, .val (.list jg a2)), (12, vV r4), (13, vV x6), (14, vV x9), (18, vV x6), (19, .val (.int .i64 (yz.2.length : Int))), (20, vI yI)], [bx 29 []], KK⟩)
noncomputable def Qiq (lb n : Nat) (jg : Bool) (a2 : LL) (b3 : Int) (x6 x9 r4 : CV) : Option CV :=
 hold (E0 lb n 0 996 (sub (B Qa8) [1, 1, 1, 1]) (retK Tryz.prog (R Qa8) 0 (outK (Qah Tryz.prog Qa8))) ⟨fr 29 [(0, .val (.list jg a2)), (1, vI b3), (4, .lst true true 3 []), (5, vI 0), (6, vV x6), (7, vV x9), (10, vV r4), (11, .val (.list jg a2)), (12, vV r4), (13, vV x6), (14, vV x9)], [bx 29 []], KK⟩)
theorem QkA (lb n : Nat) (jg : Bool) (a2 : LL) (b3 : Int) (x6 x9 r4 : CV) :
 Qiq lb n jg a2 b3 x6 x9 r4 =
 some (.tup [.list true [], .int .i64 2]) := (Qai _).trans (by kernel_rfl)
theorem QfN (lb n kg : Nat) (jg : Bool) (a2 : LL) (b3 : Int) (x6 x9 r4 : CV) (yz : Bool × LL) (yI : Int) :
 Qeb lb n (kg + 1) jg a2 b3 x6 x9 r4 yz yI =
 bif (decide (yI < (yz.2.length : Int))) then
 (optO (CV.asL x6) fun nJ =>
 optO (atL nJ.2 yI) fun c26 =>
 chkO (c26.length == 1) (
 optO (c26[0]?) fun yk =>
 optO (C lb n Qb5 [yk, .int .i64 b3]) fun nq =>
 optO (CV.asB nq) fun nF =>
 bif nF then
 (some (.tup [yk, .int .i64 0]))
 else
 (Qeb lb n kg jg a2 b3 x6 x9 r4 yz (IntKind.wrap .i64 (yI + 1)))))
 else
 (Qiq lb n jg a2 b3 x6 x9 r4 ) := (Qai _).trans (by kernel_rfl)
theorem QiI (lb n : Nat) (jg : Bool) (a2 : LL) (b3 : Int) :
 top lb n Qa8 [.list jg a2, .int .i64 b3] =
 optO (C lb n QeZ [.list jg a2]) fun r4 =>
 optO (CV.asT r4) fun t5 =>
 optO (t5[0]?) fun x6 =>
 optO (CV.asT r4) fun t7 =>
 optO (t7[1]?) fun x9 =>
 optO (CV.asI .i64 x9) fun nW =>
 bif (nW != 0) then
 (some (.tup [.list true [], x9]))
 else
 (optO (CV.asL x6) fun yz =>
 Qeb lb n n jg a2 b3 x6 x9 r4 yz 0) := by kernel_rfl
theorem Qg2 (lb n : Nat) (jg : Bool) (a2 : LL) (b3 : Int) :
 top lb n Qb5 [.list jg a2, .int .i64 b3] =
 optO (C lb n QaH [.list jg a2, .int .i64 b3]) fun r4 =>
 optO (CV.asI .i64 r4) fun i5 =>
 some (.bool (decide (i5 ≥ 0))) := by kernel_rfl
noncomputable def Qcu (lb n v6 : Nat) (jg : Bool) (a2 : LL) (b3 i7 : Int) : Option CV :=
 hold (QaA (E0 lb n 0 995) 0 (Qag (sub (B QaH) [1, 0, 1, 0, 0]) ++ [5]) [] (sub (B QaH) [1, 0, 1, 0, 0]) (Qal 0 (seqK (E0 lb n 0 998) (sub (B QaH) [1, 0]) (sub (B QaH) [1, 1]) (retK Tryz.prog (R QaH) 0 (outK (Qah Tryz.prog QaH))))) v6 ⟨fr 19 [(0, .val (.list jg a2)), (1, vI b3), (4, vI 0), (6, .val (.list jg a2)), (7, .val (.int .i64 (a2.length : Int))), (8, vI i7)], [bx 19 []], KK⟩)
noncomputable def QeQ (lb n : Nat) (jg : Bool) (a2 : LL) (b3 : Int) : Option CV :=
 hold (E0 lb n 0 998 (sub (B QaH) [1, 1]) (retK Tryz.prog (R QaH) 0 (outK (Qah Tryz.prog QaH))) ⟨fr 19 [(0, .val (.list jg a2)), (1, vI b3), (4, vI 0)], [bx 19 []], KK⟩)
theorem QgY (lb n : Nat) (jg : Bool) (a2 : LL) (b3 : Int) :
 QeQ lb n jg a2 b3 =
 some (.int .i64 (-1)) := (Qai _).trans (by kernel_rfl)
theorem Qdq (lb n v6 : Nat) (jg : Bool) (a2 : LL) (b3 i7 : Int) :
 Qcu lb n (v6 + 1) jg a2 b3 i7 =
 bif (decide (i7 < (a2.length : Int))) then
 (optO (atL a2 i7) fun c13 =>
 chkO (c13.length == 1) (
 optO (c13[0]?) fun kE =>
 optO (CV.asI .i64 kE) fun nf =>
 bif (b3 == nf) then
 (some (.int .i64 i7))
 else
 (Qcu lb n v6 jg a2 b3 (IntKind.wrap .i64 (i7 + 1)))))
 else
 (QeQ lb n jg a2 b3 ) := (Qai _).trans (by kernel_rfl)
theorem QiN (lb n : Nat) (jg : Bool) (a2 : LL) (b3 : Int) :
 top lb n QaH [.list jg a2, .int .i64 b3] =
 Qcu lb n n jg a2 b3 0 := by kernel_rfl
noncomputable def Qcf (lb n kf : Nat) (jg : Bool) (a2 l15 : LL) (yG : Int) : Option CV :=
 hold (QaA (E0 lb n 0 994) 0 (Qag (sub (B QaD) [1, 1, 0, 1, 0, 0]) ++ []) [5] (sub (B QaD) [1, 1, 0, 1, 0, 0]) (Qal 0 (seqK (E0 lb n 0 997) (sub (B QaD) [1, 1, 0]) (sub (B QaD) [1, 1, 1]) (retK Tryz.prog (R QaD) 0 (outK (Qah Tryz.prog QaD))))) kf ⟨fr 22 [(0, .val (.list jg a2)), (2, .lst true true 3 []), (3, .lst true false 3 l15), (6, .val (.list jg a2)), (7, .val (.int .i64 (a2.length : Int))), (8, .val (.list false [])), (9, .val (.list jg a2)), (10, .val (.int .i64 (a2.length : Int))), (11, vI yG)], [bx 22 []], KK⟩)
noncomputable def QeK (lb n : Nat) (jg : Bool) (a2 : LL) (kc : Bool) (vZ : LL) : Option CV :=
 hold (E0 lb n 0 997 (sub (B QaD) [1, 1, 1]) (retK Tryz.prog (R QaD) 0 (outK (Qah Tryz.prog QaD))) ⟨fr 22 [(0, .val (.list jg a2)), (2, .lst true true 3 []), (3, .lst true kc 3 vZ), (6, .val (.list jg a2)), (7, .val (.int .i64 (a2.length : Int))), (8, .val (.list false []))], [bx 22 []], KK⟩)
theorem QgA (lb n : Nat) (jg : Bool) (a2 : LL) (kc : Bool) (vZ : LL) :
 QeK lb n jg a2 kc vZ =
 some (.list kc vZ) := (Qai _).trans (by kernel_rfl)
theorem Qdm (lb n kf : Nat) (jg : Bool) (a2 l15 : LL) (yG : Int) :
 Qcf lb n (kf + 1) jg a2 l15 yG =
 bif (decide (yG < (a2.length : Int))) then
 (optO (atL a2 yG) fun c30 =>
 chkO (c30.length == 10) (
 optO (c30[0]?) fun pc =>
 optO (c30[1]?) fun n8 =>
 optO (c30[2]?) fun n7 =>
 optO (c30[3]?) fun ka =>
 optO (c30[4]?) fun kb =>
 optO (c30[5]?) fun v7 =>
 optO (c30[6]?) fun n9 =>
 optO (c30[7]?) fun ph =>
 optO (c30[8]?) fun pi =>
 optO (c30[9]?) fun gV =>
 chkO (CV.isCell gV) (
 chkO (room (l15.length + 1) 8) (
 Qcf lb n kf jg a2 (l15 ++ [[gV]]) (IntKind.wrap .i64 (yG + 1))))))
 else
 (QeK lb n jg a2 false l15) := (Qai _).trans (by kernel_rfl)
theorem QhZ (lb n : Nat) (jg : Bool) (a2 : LL) :
 top lb n QaD [.list jg a2] =
 chkO (decide (0 ≤ (0 : Int)) && decide ((0 : Int) ≤ ((a2.length : Int) : Int)) && decide (((a2.length : Int) : Int) * 8 ≤ 140737488355328) && decide (((a2.length : Int) : Int) ≤ 140737488355328)) (
 Qcf lb n n jg a2 [] 0) := by kernel_rfl
theorem Qi4 (lb n : Nat) (a1 : LB) :
 top lb n QdS [.str a1] =
 optO (C lb n Qde [.str a1, .int .i64 6, .int .i64 6]) fun r2 =>
 some (r2) := by kernel_rfl
noncomputable def Qcj (lb n : Nat) (awansegcar1 : LB) (awansegnum2 awansegday3 : Int) (awansegfro4 jj : LB) (awansegdep6 awansegarr7 : Int) (jC : LB) (jQ jR : Int) (yD : Bool) (l15 : LL) : Option CV :=
 hold (E0 lb n 0 996 (sub (B QaQ) [1, 1, 1, 1]) (retK Tryz.prog (R QaQ) 0 (outK (Qah Tryz.prog QaQ))) ⟨fr 67 [(0, .val (.agg [.str awansegcar1, .int .i64 awansegnum2, .int .i64 awansegday3, .str awansegfro4, .str jj, .int .i64 awansegdep6, .int .i64 awansegarr7, .str jC, .int .i64 jQ, .int .i64 jR])), (1, .ptr 0 1 0), (2, .lst true true 31 []), (3, .lst true yD 31 l15), (4, .ptr 0 4 0), (7, .ptr 0 1 0), (8, .ptr 0 1 0), (9, .val (.agg [.str awansegcar1, .int .i64 awansegnum2, .int .i64 awansegday3, .str awansegfro4, .str jj, .int .i64 awansegdep6, .int .i64 awansegarr7]))], [bx 67 [(1, some [vS awansegcar1, vI awansegnum2, vI awansegday3, vS awansegfro4, vS jj, vI awansegdep6, vI awansegarr7, vS jC, vI jQ, vI jR]), (4, some [vS awansegcar1, vI awansegnum2, vI awansegday3, vS awansegfro4, vS jj, vI awansegdep6, vI awansegarr7])]], KK⟩)
noncomputable def Qci (lb n : Nat) (awansegcar1 : LB) (awansegnum2 awansegday3 : Int) (awansegfro4 jj : LB) (awansegdep6 awansegarr7 : Int) (jC : LB) (jQ jR : Int) (vO : Bool) (l18 : LL) : Option CV :=
 hold (E0 lb n 0 995 (sub (B QaQ) [1, 1, 1, 1, 1]) (retK Tryz.prog (R QaQ) 0 (outK (Qah Tryz.prog QaQ))) ⟨fr 67 [(0, .val (.agg [.str awansegcar1, .int .i64 awansegnum2, .int .i64 awansegday3, .str awansegfro4, .str jj, .int .i64 awansegdep6, .int .i64 awansegarr7, .str jC, .int .i64 jQ, .int .i64 jR])), (1, .ptr 0 1 0), (2, .lst true true 31 []), (3, .lst true vO 31 l18), (4, .ptr 0 4 0), (7, .ptr 0 1 0), (8, .ptr 0 1 0), (9, .val (.agg [.str awansegcar1, .int .i64 awansegnum2, .int .i64 awansegday3, .str awansegfro4, .str jj, .int .i64 awansegdep6, .int .i64 awansegarr7]))], [bx 67 [(1, some [vS awansegcar1, vI awansegnum2, vI awansegday3, vS awansegfro4, vS jj, vI awansegdep6, vI awansegarr7, vS jC, vI jQ, vI jR]), (4, some [vS awansegcar1, vI awansegnum2, vI awansegday3, vS awansegfro4, vS jj, vI awansegdep6, vI awansegarr7])]], KK⟩)
noncomputable def QdC (lb n : Nat) (awansegcar1 : LB) (awansegnum2 awansegday3 : Int) (awansegfro4 jj : LB) (awansegdep6 awansegarr7 : Int) (jC : LB) (jQ jR : Int) (vP : Bool) (l22 : LL) : Option CV :=
 hold (E0 lb n 0 994 (sub (B QaQ) [1, 1, 1, 1, 1, 1]) (retK Tryz.prog (R QaQ) 0 (outK (Qah Tryz.prog QaQ))) ⟨fr 67 [(0, .val (.agg [.str awansegcar1, .int .i64 awansegnum2, .int .i64 awansegday3, .str awansegfro4, .str jj, .int .i64 awansegdep6, .int .i64 awansegarr7, .str jC, .int .i64 jQ, .int .i64 jR])), (1, .ptr 0 1 0), (2, .lst true true 31 []), (3, .lst true vP 31 l22), (4, .ptr 0 4 0), (7, .ptr 0 1 0), (8, .ptr 0 1 0), (9, .val (.agg [.str awansegcar1, .int .i64 awansegnum2, .int .i64 awansegday3, .str awansegfro4, .str jj, .int .i64 awansegdep6, .int .i64 awansegarr7]))], [bx 67 [(1, some [vS awansegcar1, vI awansegnum2, vI awansegday3, vS awansegfro4, vS jj, vI awansegdep6, vI awansegarr7, vS jC, vI jQ, vI jR]), (4, some [vS awansegcar1, vI awansegnum2, vI awansegday3, vS awansegfro4, vS jj, vI awansegdep6, vI awansegarr7])]], KK⟩)
theorem QjW (lb n : Nat) (awansegcar1 : LB) (awansegnum2 awansegday3 : Int) (awansegfro4 jj : LB) (awansegdep6 awansegarr7 : Int) (jC : LB) (jQ jR : Int) (vP : Bool) (l22 : LL) :
 QdC lb n awansegcar1 awansegnum2 awansegday3 awansegfro4 jj awansegdep6 awansegarr7 jC jQ jR vP l22 =
 optO (C lb n QfQ [.int .i64 jQ]) fun jr =>
 optO (CV.asT jr) fun kw =>
 optO (kw[0]?) fun yb =>
 optO (CV.asT jr) fun ks =>
 optO (ks[1]?) fun yk =>
 optO (CV.asI .i64 yk) fun kk =>
 bif (kk != 0) then
 (chkO (room (l22.length + 1) 8) (
 some (.list (vP && false) (l22 ++ [[CV.int .i64 10]]))))
 else
 (some (.list vP l22)) := (Qai _).trans (by kernel_rfl)
theorem Qj2 (lb n : Nat) (awansegcar1 : LB) (awansegnum2 awansegday3 : Int) (awansegfro4 jj : LB) (awansegdep6 awansegarr7 : Int) (jC : LB) (jQ jR : Int) (vO : Bool) (l18 : LL) :
 Qci lb n awansegcar1 awansegnum2 awansegday3 awansegfro4 jj awansegdep6 awansegarr7 jC jQ jR vO l18 =
 optO (C lb n Qgd [.str jC]) fun kF =>
 optO (CV.asB kF) fun yw =>
 bif (!yw) then
 (chkO (room (l18.length + 1) 8) (
 QdC lb n awansegcar1 awansegnum2 awansegday3 awansegfro4 jj awansegdep6 awansegarr7 jC jQ jR (vO && false) (l18 ++ [[CV.int .i64 16]])))
 else
 (QdC lb n awansegcar1 awansegnum2 awansegday3 awansegfro4 jj awansegdep6 awansegarr7 jC jQ jR vO l18) := (Qai _).trans (by kernel_rfl)
theorem QjV (lb n : Nat) (awansegcar1 : LB) (awansegnum2 awansegday3 : Int) (awansegfro4 jj : LB) (awansegdep6 awansegarr7 : Int) (jC : LB) (jQ jR : Int) (yD : Bool) (l15 : LL) :
 Qcj lb n awansegcar1 awansegnum2 awansegday3 awansegfro4 jj awansegdep6 awansegarr7 jC jQ jR yD l15 =
 bif (decide (awansegdep6 < 0)) then
 (chkO (room (l15.length + 1) 8) (
 Qci lb n awansegcar1 awansegnum2 awansegday3 awansegfro4 jj awansegdep6 awansegarr7 jC jQ jR (yD && false) (l15 ++ [[CV.int .i64 13]])))
 else
 (bif (decide (awansegdep6 ≥ awansegarr7)) then
 (chkO (room (l15.length + 1) 8) (
 Qci lb n awansegcar1 awansegnum2 awansegday3 awansegfro4 jj awansegdep6 awansegarr7 jC jQ jR (yD && false) (l15 ++ [[CV.int .i64 13]])))
 else
 (bif (decide (awansegarr7 ≥ 52596000)) then
 (chkO (room (l15.length + 1) 8) (
 Qci lb n awansegcar1 awansegnum2 awansegday3 awansegfro4 jj awansegdep6 awansegarr7 jC jQ jR (yD && false) (l15 ++ [[CV.int .i64 13]])))
 else
 (Qci lb n awansegcar1 awansegnum2 awansegday3 awansegfro4 jj awansegdep6 awansegarr7 jC jQ jR yD l15))) := (Qai _).trans (by kernel_rfl)
theorem Qmb (lb n : Nat) (awansegcar1 : LB) (awansegnum2 awansegday3 : Int) (awansegfro4 jj : LB) (awansegdep6 awansegarr7 : Int) (jC : LB) (jQ jR : Int) :
 top lb n QaQ [.agg [.str awansegcar1, .int .i64 awansegnum2, .int .i64 awansegday3, .str awansegfro4, .str jj, .int .i64 awansegdep6, .int .i64 awansegarr7, .str jC, .int .i64 jQ, .int .i64 jR]] =
 optO (C lb n QeY [.str awansegcar1]) fun yB =>
 optO (CV.asB yB) fun wT =>
 bif (!wT) then
 (Qcj lb n awansegcar1 awansegnum2 awansegday3 awansegfro4 jj awansegdep6 awansegarr7 jC jQ jR false [[CV.int .i64 5]])
 else
 (optO (C lb n QdI [.str awansegfro4]) fun mL =>
 optO (CV.asB mL) fun mQ =>
 bif (!mQ) then
 (Qcj lb n awansegcar1 awansegnum2 awansegday3 awansegfro4 jj awansegdep6 awansegarr7 jC jQ jR false [[CV.int .i64 5]])
 else
 (optO (C lb n QdI [.str jj]) fun nb =>
 optO (CV.asB nb) fun mG =>
 bif (!mG) then
 (Qcj lb n awansegcar1 awansegnum2 awansegday3 awansegfro4 jj awansegdep6 awansegarr7 jC jQ jR false [[CV.int .i64 5]])
 else
 (Qcj lb n awansegcar1 awansegnum2 awansegday3 awansegfro4 jj awansegdep6 awansegarr7 jC jQ jR true []))) := by kernel_rfl
end Go.Proofs
