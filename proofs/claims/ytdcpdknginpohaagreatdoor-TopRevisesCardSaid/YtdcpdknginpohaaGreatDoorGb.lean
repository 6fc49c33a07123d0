/- Equations of functions, printed by program. Conditions: none. -/
import Derived.Test.YtdcpdknginpohaaGreatDoorEv
namespace Go.Proofs
open Go.Am
set_option maxRecDepth 100000
set_option linter.unusedVariables false
noncomputable def flight_leg_J1 :=
 fun lb n (ja : Bool) (aair2 : LL) (jb : Bool) (adis4 : LL) (ji : Bool) (b6 : LL) c7 wA jZ (c9 : List CV) jR wn wm wD yI yP wK wI j1 wi x23 w6 wG wR wH yH yG yy yJ (oh : Bool) (l42 : LL) =>
 hold (E0 lb n 0 994 (sub (B QbU) [1, 1, 1, 1, 1, 1]) (retK Tryz.prog (R QbU) 0 (outK (Qag Tryz.prog QbU))) ⟨fr 68 [(0, .val (.agg [.list ja aair2, .list jb adis4])), (1, .val (.list ji b6)), (2, vI c7), (3, .ptr 0 3 0), (6, .lst true true 36 []), (7, .lst true oh 36 l42), (8, .ptr 0 8 0), (9, .ptr 0 9 0), (10, vV wA), (11, .ptr 0 11 0), (12, vV jZ), (13, .val (.list ji b6)), (14, vI c7), (15, .cptr c9 0), (16, .val (.agg [jR, wn, wm, wD, yI])), (17, vV yP), (18, .val (.agg [.list ja aair2, .list jb adis4])), (19, .ptr 0 8 0), (20, vV jR), (21, vV yP), (22, vV wK), (23, vV wA), (24, vV wI), (25, .val (.agg [.list ja aair2, .list jb adis4])), (26, .ptr 0 8 1), (27, vV wn), (28, vV wI), (29, vV j1), (30, vV jZ)], [bx 68 [(3, some [.val (.list ja aair2), .val (.list jb adis4)]), (8, some [.val jR, .val wn, .val wm, .val wD, .val yI]), (9, some [.val wi, .val x23, .val w6, .val wG, .val wR]), (11, some [.val wH, .val yH, .val yG, .val yy, .val yJ])]], KK⟩)
noncomputable def QeX (lb n : Nat) (ja : Bool) (aair2 : LL) (jb : Bool) (adis4 : LL) (ji : Bool) (b6 : LL) (c7 : Int) (wA jZ : CV) (c9 : List CV) (jR wn wm wD yI yP wK wI j1 wi x23 w6 wG wR wH yH yG yy yJ : CV) (kd : Bool) (l45 : LL) : Option CV :=
 hold (E0 lb n 0 993 (sub (B QbU) [1, 1, 1, 1, 1, 1, 1]) (retK Tryz.prog (R QbU) 0 (outK (Qag Tryz.prog QbU))) ⟨fr 68 [(0, .val (.agg [.list ja aair2, .list jb adis4])), (1, .val (.list ji b6)), (2, vI c7), (3, .ptr 0 3 0), (6, .lst true true 36 []), (7, .lst true kd 36 l45), (8, .ptr 0 8 0), (9, .ptr 0 9 0), (10, vV wA), (11, .ptr 0 11 0), (12, vV jZ), (13, .val (.list ji b6)), (14, vI c7), (15, .cptr c9 0), (16, .val (.agg [jR, wn, wm, wD, yI])), (17, vV yP), (18, .val (.agg [.list ja aair2, .list jb adis4])), (19, .ptr 0 8 0), (20, vV jR), (21, vV yP), (22, vV wK), (23, vV wA), (24, vV wI), (25, .val (.agg [.list ja aair2, .list jb adis4])), (26, .ptr 0 8 1), (27, vV wn), (28, vV wI), (29, vV j1), (30, vV jZ)], [bx 68 [(3, some [.val (.list ja aair2), .val (.list jb adis4)]), (8, some [.val jR, .val wn, .val wm, .val wD, .val yI]), (9, some [.val wi, .val x23, .val w6, .val wG, .val wR]), (11, some [.val wH, .val yH, .val yG, .val yy, .val yJ])]], KK⟩)
noncomputable def QeU (lb n : Nat) (ja : Bool) (aair2 : LL) (jb : Bool) (adis4 : LL) (ji : Bool) (b6 : LL) (c7 : Int) (wA jZ : CV) (c9 : List CV) (jR wn wm wD yI yP wK wI j1 wi x23 w6 wG wR wH yH yG yy yJ : CV) (gQ : Bool) (l49 : LL) : Option CV :=
 hold (E0 lb n 0 992 (sub (B QbU) [1, 1, 1, 1, 1, 1, 1, 1]) (retK Tryz.prog (R QbU) 0 (outK (Qag Tryz.prog QbU))) ⟨fr 68 [(0, .val (.agg [.list ja aair2, .list jb adis4])), (1, .val (.list ji b6)), (2, vI c7), (3, .ptr 0 3 0), (6, .lst true true 36 []), (7, .lst true gQ 36 l49), (8, .ptr 0 8 0), (9, .ptr 0 9 0), (10, vV wA), (11, .ptr 0 11 0), (12, vV jZ), (13, .val (.list ji b6)), (14, vI c7), (15, .cptr c9 0), (16, .val (.agg [jR, wn, wm, wD, yI])), (17, vV yP), (18, .val (.agg [.list ja aair2, .list jb adis4])), (19, .ptr 0 8 0), (20, vV jR), (21, vV yP), (22, vV wK), (23, vV wA), (24, vV wI), (25, .val (.agg [.list ja aair2, .list jb adis4])), (26, .ptr 0 8 1), (27, vV wn), (28, vV wI), (29, vV j1), (30, vV jZ)], [bx 68 [(3, some [.val (.list ja aair2), .val (.list jb adis4)]), (8, some [.val jR, .val wn, .val wm, .val wD, .val yI]), (9, some [.val wi, .val x23, .val w6, .val wG, .val wR]), (11, some [.val wH, .val yH, .val yG, .val yy, .val yJ])]], KK⟩)
theorem QoZ (lb n : Nat) (ja : Bool) (aair2 : LL) (jb : Bool) (adis4 : LL) (ji : Bool) (b6 : LL) (c7 : Int) (wA jZ : CV) (c9 : List CV) (jR wn wm wD yI yP wK wI j1 wi x23 w6 wG wR wH yH yG yy yJ : CV) (gQ : Bool) (l49 : LL) :
 QeU lb n ja aair2 jb adis4 ji b6 c7 wA jZ c9 jR wn wm wD yI yP wK wI j1 wi x23 w6 wG wR wH yH yG yy yJ gQ l49 =
 optO (C lb n QbI [wm]) fun rh =>
 optO (CV.asB rh) fun zV =>
 bif (!zV) then
 (chkO (room (l49.length + 1) 8) (
 some (.list (gQ && false) (l49 ++ [[CV.int .i64 2]]))))
 else
 (optO (C lb n QbI [wD]) fun ly =>
 optO (CV.asB ly) fun lA =>
 bif (!lA) then
 (chkO (room (l49.length + 1) 8) (
 some (.list (gQ && false) (l49 ++ [[CV.int .i64 2]]))))
 else
 (some (.list gQ l49))) := (Qaf _).trans (by kernel_rfl)
theorem Qpg (lb n : Nat) (ja : Bool) (aair2 : LL) (jb : Bool) (adis4 : LL) (ji : Bool) (b6 : LL) (c7 : Int) (wA jZ : CV) (c9 : List CV) (jR wn wm wD yI yP wK wI j1 wi x23 w6 wG wR wH yH yG yy yJ : CV) (kd : Bool) (l45 : LL) :
 QeX lb n ja aair2 jb adis4 ji b6 c7 wA jZ c9 jR wn wm wD yI yP wK wI j1 wi x23 w6 wG wR wH yH yG yy yJ kd l45 =
 optO (C lb n QaV [.list ji b6, .int .i64 c7]) fun rk =>
 optO (CV.asB rk) fun kI =>
 bif (!kI) then
 (chkO (room (l45.length + 1) 8) (
 QeU lb n ja aair2 jb adis4 ji b6 c7 wA jZ c9 jR wn wm wD yI yP wK wI j1 wi x23 w6 wG wR wH yH yG yy yJ (kd && false) (l45 ++ [[CV.int .i64 15]])))
 else
 (QeU lb n ja aair2 jb adis4 ji b6 c7 wA jZ c9 jR wn wm wD yI yP wK wI j1 wi x23 w6 wG wR wH yH yG yy yJ kd l45) := (Qaf _).trans (by kernel_rfl)
theorem Qpm (lb n : Nat) (ja : Bool) (aair2 : LL) (jb : Bool) (adis4 : LL) (ji : Bool) (b6 : LL) (c7 : Int) (wA jZ : CV) (c9 : List CV) (jR wn wm wD yI yP wK wI j1 wi x23 w6 wG wR wH yH yG yy yJ : CV) (oh : Bool) (l42 : LL) :
 flight_leg_J1 lb n ja aair2 jb adis4 ji b6 c7 wA jZ c9 jR wn wm wD yI yP wK wI j1 wi x23 w6 wG wR wH yH yG yy yJ oh l42 =
 optO (CV.asB wA) fun qd =>
 bif (!qd) then
 (chkO (room (l42.length + 1) 8) (
 QeX lb n ja aair2 jb adis4 ji b6 c7 wA jZ c9 jR wn wm wD yI yP wK wI j1 wi x23 w6 wG wR wH yH yG yy yJ (oh && false) (l42 ++ [[CV.int .i64 14]])))
 else
 (optO (CV.asB jZ) fun zQ =>
 bif (!zQ) then
 (chkO (room (l42.length + 1) 8) (
 QeX lb n ja aair2 jb adis4 ji b6 c7 wA jZ c9 jR wn wm wD yI yP wK wI j1 wi x23 w6 wG wR wH yH yG yy yJ (oh && false) (l42 ++ [[CV.int .i64 14]])))
 else
 (QeX lb n ja aair2 jb adis4 ji b6 c7 wA jZ c9 jR wn wm wD yI yP wK wI j1 wi x23 w6 wG wR wH yH yG yy yJ oh l42)) := (Qaf _).trans (by kernel_rfl)
theorem QsD (lb n : Nat) (ja : Bool) (aair2 : LL) (jb : Bool) (adis4 : LL) (ji : Bool) (b6 : LL) (c7 : Int) :
 top lb n QbU [.agg [.list ja aair2, .list jb adis4], .list ji b6, .int .i64 c7] =
 optO (atL b6 c7) fun c9 =>
 chkO (c9.length == 5) (
 optO (c9[0]?) fun jR =>
 optO (c9[1]?) fun wn =>
 optO (c9[2]?) fun wm =>
 optO (c9[3]?) fun wD =>
 optO (c9[4]?) fun yI =>
 optO (C lb n Qbk [.agg [.list ja aair2, .list jb adis4], jR]) fun yP =>
 optO (CV.asT yP) fun zp =>
 optO (zp[0]?) fun wK =>
 optO (CV.asT yP) fun zx =>
 optO (zx[1]?) fun wA =>
 optO (CV.asA wK) fun c21 =>
 chkO (c21.length == 5) (
 optO (c21[0]?) fun wi =>
 optO (c21[1]?) fun x23 =>
 optO (c21[2]?) fun w6 =>
 optO (c21[3]?) fun wG =>
 optO (c21[4]?) fun wR =>
 optO (C lb n Qbk [.agg [.list ja aair2, .list jb adis4], wn]) fun wI =>
 optO (CV.asT wI) fun pV =>
 optO (pV[0]?) fun j1 =>
 optO (CV.asT wI) fun pQ =>
 optO (pQ[1]?) fun jZ =>
 optO (CV.asA j1) fun c33 =>
 chkO (c33.length == 5) (
 optO (c33[0]?) fun wH =>
 optO (c33[1]?) fun yH =>
 optO (c33[2]?) fun yG =>
 optO (c33[3]?) fun yy =>
 optO (c33[4]?) fun yJ =>
 optO (C lb n QhW [yI, .int .i64 3, .int .i64 3]) fun lr =>
 optO (CV.asB lr) fun z8 =>
 bif (!z8) then
 (flight_leg_J1 lb n ja aair2 jb adis4 ji b6 c7 wA jZ c9 jR wn wm wD yI yP wK wI j1 wi x23 w6 wG wR wH yH yG yy yJ false [[CV.int .i64 5]])
 else
 (flight_leg_J1 lb n ja aair2 jb adis4 ji b6 c7 wA jZ c9 jR wn wm wD yI yP wK wI j1 wi x23 w6 wG wR wH yH yG yy yJ true [])))) := by kernel_rfl
noncomputable def Qc1 (lb n oe : Nat) (jK : Bool) (a2 : LL) (b3 kh : Int) : Option CV :=
 hold (Qas (E2 lb n 2 995) 2 (Qad (sub (B Qbm) [1, 0, 1, 0, 0]) ++ [5]) [] (sub (B Qbm) [1, 0, 1, 0, 0]) (Qaj 0 (seqK (E2 lb n 2 998) (sub (B Qbm) [1, 0]) (sub (B Qbm) [1, 1]) (retK Tryz.prog (R Qbm) 2 (inlK (opAt (QaA (sub (B QaH) [1, 0])) 2) ⟨fr 9 [(0, .val (.list jK ((a2.take ((IntKind.wrap .i64 (b3 + 1)).toNat)).drop 0))), (1, .clo QbQ [.ptr 0 2 0, .ptr 0 3 0]), (4, vB false), (5, .val (.list jK ((a2.take ((IntKind.wrap .i64 (b3 + 1)).toNat)).drop 0))), (6, .clo QbQ [.ptr 0 2 0, .ptr 0 3 0])], [bx 28 [(2, some [.val (.list jK a2)]), (3, some [vI b3])], bx 9 []], KK⟩ (opsK Tryz.prog (C lb n) (I8 lb n) 1 (QaA (sub (B QaH) [1, 0])) ((QaA (sub (B QaH) [1, 0])).drop 3) ((seqK (E1 lb n 1 998) (sub (B QaH) [1, 0]) (sub (B QaH) [1, 1]) (retK Tryz.prog (R QaH) 1 (inlK (opAt (QaA (sub (B QaV) [1, 1, 0])) 5) ⟨fr 28 [(0, .val (.list jK a2)), (1, vI b3), (2, .ptr 0 2 0), (3, .ptr 0 3 0), (4, vB false), (21, .val (.list jK a2)), (22, vI b3), (23, .val (.int .i64 (IntKind.wrap .i64 (b3 + 1)))), (24, .val (.list jK ((a2.take ((IntKind.wrap .i64 (b3 + 1)).toNat)).drop 0))), (25, .clo QbQ [.ptr 0 2 0, .ptr 0 3 0])], [bx 28 [(2, some [.val (.list jK a2)]), (3, some [vI b3])]], KK⟩ (opsK Tryz.prog (C lb n) (I9 lb n) 0 (QaA (sub (B QaV) [1, 1, 0])) ((QaA (sub (B QaV) [1, 1, 0])).drop 6) ((seqK (E0 lb n 0 997) (sub (B QaV) [1, 1, 0]) (sub (B QaV) [1, 1, 1]) (retK Tryz.prog (R QaV) 0 (outK (Qag Tryz.prog QaV)))) .normal))))) .normal)))))) oe ⟨fr 19 [(0, .val (.list jK ((a2.take ((IntKind.wrap .i64 (b3 + 1)).toNat)).drop 0))), (1, .clo QbQ [.ptr 0 2 0, .ptr 0 3 0]), (4, vI 0), (6, .val (.list jK ((a2.take ((IntKind.wrap .i64 (b3 + 1)).toNat)).drop 0))), (7, .val (.int .i64 (((a2.take ((IntKind.wrap .i64 (b3 + 1)).toNat)).drop 0).length : Int))), (8, vI kh)], [bx 28 [(2, some [.val (.list jK a2)]), (3, some [vI b3])], bx 9 [], bx 19 []], KK⟩)
noncomputable def QiF (lb n : Nat) (jK : Bool) (a2 : LL) (b3 : Int) : Option CV :=
 hold (E2 lb n 2 998 (sub (B Qbm) [1, 1]) (retK Tryz.prog (R Qbm) 2 (inlK (opAt (QaA (sub (B QaH) [1, 0])) 2) ⟨fr 9 [(0, .val (.list jK ((a2.take ((IntKind.wrap .i64 (b3 + 1)).toNat)).drop 0))), (1, .clo QbQ [.ptr 0 2 0, .ptr 0 3 0]), (4, vB false), (5, .val (.list jK ((a2.take ((IntKind.wrap .i64 (b3 + 1)).toNat)).drop 0))), (6, .clo QbQ [.ptr 0 2 0, .ptr 0 3 0])], [bx 28 [(2, some [.val (.list jK a2)]), (3, some [vI b3])], bx 9 []], KK⟩ (opsK Tryz.prog (C lb n) (I8 lb n) 1 (QaA (sub (B QaH) [1, 0])) ((QaA (sub (B QaH) [1, 0])).drop 3) ((seqK (E1 lb n 1 998) (sub (B QaH) [1, 0]) (sub (B QaH) [1, 1]) (retK Tryz.prog (R QaH) 1 (inlK (opAt (QaA (sub (B QaV) [1, 1, 0])) 5) ⟨fr 28 [(0, .val (.list jK a2)), (1, vI b3), (2, .ptr 0 2 0), (3, .ptr 0 3 0), (4, vB false), (21, .val (.list jK a2)), (22, vI b3), (23, .val (.int .i64 (IntKind.wrap .i64 (b3 + 1)))), (24, .val (.list jK ((a2.take ((IntKind.wrap .i64 (b3 + 1)).toNat)).drop 0))), (25, .clo QbQ [.ptr 0 2 0, .ptr 0 3 0])], [bx 28 [(2, some [.val (.list jK a2)]), (3, some [vI b3])]], KK⟩ (opsK Tryz.prog (C lb n) (I9 lb n) 0 (QaA (sub (B QaV) [1, 1, 0])) ((QaA (sub (B QaV) [1, 1, 0])).drop 6) ((seqK (E0 lb n 0 997) (sub (B QaV) [1, 1, 0]) (sub (B QaV) [1, 1, 1]) (retK Tryz.prog (R QaV) 0 (outK (Qag Tryz.prog QaV)))) .normal))))) .normal)))) ⟨fr 19 [(0, .val (.list jK ((a2.take ((IntKind.wrap .i64 (b3 + 1)).toNat)).drop 0))), (1, .clo QbQ [.ptr 0 2 0, .ptr 0 3 0]), (4, vI 0)], [bx 28 [(2, some [.val (.list jK a2)]), (3, some [vI b3])], bx 9 [], bx 19 []], KK⟩)
theorem Qlz (lb n : Nat) (jK : Bool) (a2 : LL) (b3 : Int) :
 QiF lb n jK a2 b3 =
 some (.bool true) := (Qaf _).trans (by kernel_rfl)
theorem Qgd (lb n oe : Nat) (jK : Bool) (a2 : LL) (b3 kh : Int) :
 Qc1 lb n (oe + 1) jK a2 b3 kh =
 bif (decide (kh < (((a2.take ((IntKind.wrap .i64 (b3 + 1)).toNat)).drop 0).length : Int))) then
 (optO (atL ((a2.take ((IntKind.wrap .i64 (b3 + 1)).toNat)).drop 0) kh) fun c35 =>
 chkO (c35.length == 5) (
 optO (c35[0]?) fun yG =>
 optO (c35[1]?) fun yy =>
 optO (c35[2]?) fun yJ =>
 optO (c35[3]?) fun oU =>
 optO (c35[4]?) fun oc =>
 optO (atL a2 b3) fun c41 =>
 chkO (c41.length == 5) (
 optO (c41[1]?) fun gI =>
 optO (CV.asS yG) fun zD =>
 optO (CV.asS gI) fun lZ =>
 bif (zD == lZ) then
 (some (.bool (!(decide (kh ≥ 0)))))
 else
 (Qc1 lb n oe jK a2 b3 (IntKind.wrap .i64 (kh + 1))))))
 else
 (QiF lb n jK a2 b3 ) := (Qaf _).trans (by kernel_rfl)
theorem QnQ (lb n : Nat) (jK : Bool) (a2 : LL) (b3 : Int) :
 top lb n QaV [.list jK a2, .int .i64 b3] =
 bif (decide (b3 > 0)) then
 (optO (atL a2 b3) fun c4 =>
 chkO (c4.length == 5) (
 optO (c4[0]?) fun x5 =>
 optO (atL a2 (IntKind.wrap .i64 (b3 - 1))) fun c6 =>
 chkO (c6.length == 5) (
 optO (c6[1]?) fun x7 =>
 optO (CV.asS x5) fun s9 =>
 optO (CV.asS x7) fun pI =>
 bif (!(s9 == pI)) then
 (some (.bool false))
 else
 (chkO (a2.all (·.length == 5)) (
 chkO (decide ((0 : Int) ≤ (IntKind.wrap .i64 (b3 + 1)) ∧ (IntKind.wrap .i64 (b3 + 1)) ≤ (a2.length : Int))) (
 Qc1 lb n n jK a2 b3 0))))))
 else
 (chkO (a2.all (·.length == 5)) (
 chkO (decide ((0 : Int) ≤ (IntKind.wrap .i64 (b3 + 1)) ∧ (IntKind.wrap .i64 (b3 + 1)) ≤ (a2.length : Int))) (
 Qc1 lb n n jK a2 b3 0))) := by kernel_rfl
noncomputable def QdT (lb n pi : Nat) (jK : Bool) (a2 : LL) (b3 y4 : Int) : Option CV :=
 hold (Qas (E0 lb n 0 994) 0 (Qad (sub (B QbE) [1, 1, 0, 1, 0, 0]) ++ []) [] (sub (B QbE) [1, 1, 0, 1, 0, 0]) (Qaj 0 (seqK (E0 lb n 0 997) (sub (B QbE) [1, 1, 0]) (sub (B QbE) [1, 1, 1]) (retK Tryz.prog (R QbE) 0 (outK (Qag Tryz.prog QbE))))) pi ⟨fr 38 [(0, .val (.list jK a2)), (1, vI b3), (4, vB false), (5, vI y4)], [bx 38 []], KK⟩)
noncomputable def QlZ (lb n : Nat) (jK : Bool) (a2 : LL) (b3 nd : Int) : Option CV :=
 hold (E0 lb n 0 997 (sub (B QbE) [1, 1, 1]) (retK Tryz.prog (R QbE) 0 (outK (Qag Tryz.prog QbE))) ⟨fr 38 [(0, .val (.list jK a2)), (1, vI b3), (4, vB false), (5, vI nd)], [bx 38 []], KK⟩)
theorem Qpk (lb n : Nat) (jK : Bool) (a2 : LL) (b3 nd : Int) :
 QlZ lb n jK a2 b3 nd =
 some (.bool false) := (Qaf _).trans (by kernel_rfl)
theorem Qij (lb n pi : Nat) (jK : Bool) (a2 : LL) (b3 y4 : Int) :
 QdT lb n (pi + 1) jK a2 b3 y4 =
 bif (decide (y4 ≤ b3)) then
 (optO (atL a2 y4) fun c26 =>
 chkO (c26.length == 5) (
 optO (c26[0]?) fun wC =>
 optO (atL a2 b3) fun c28 =>
 chkO (c28.length == 5) (
 optO (c28[1]?) fun j1 =>
 optO (CV.asS wC) fun gA =>
 optO (CV.asS j1) fun l9 =>
 bif (gA == l9) then
 (some (.bool true))
 else
 (QdT lb n pi jK a2 b3 (IntKind.wrap .i64 (y4 + 1))))))
 else
 (QlZ lb n jK a2 b3 y4) := (Qaf _).trans (by kernel_rfl)
theorem QsE (lb n : Nat) (jK : Bool) (a2 : LL) (b3 : Int) :
 top lb n QbE [.list jK a2, .int .i64 b3] =
 bif (decide (b3 > 0)) then
 (optO (atL a2 b3) fun c4 =>
 chkO (c4.length == 5) (
 optO (c4[0]?) fun x5 =>
 optO (atL a2 (IntKind.wrap .i64 (b3 - 1))) fun c6 =>
 chkO (c6.length == 5) (
 optO (c6[1]?) fun x7 =>
 optO (CV.asS x5) fun s9 =>
 optO (CV.asS x7) fun pI =>
 bif (!(s9 == pI)) then
 (some (.bool true))
 else
 (QdT lb n n jK a2 b3 0))))
 else
 (QdT lb n n jK a2 b3 0) := by kernel_rfl
noncomputable def Qkv (lb n : Nat) (we : LB) (wd jH jP jJ : Int) (j8 : Bool) (aleg7 : LL) (gT : Bool) (l12 : LL) : Option CV :=
 hold (E0 lb n 0 997 (sub (B QcQ) [1, 1, 1]) (Qjx (R QcQ) 83) ⟨fr 50 [(0, .val (.agg [.str we, .int .i64 wd, .int .i64 jH, .int .i64 jP, .int .i64 jJ, .list j8 aleg7])), (1, .ptr 0 1 0), (2, .lst true true 83 []), (3, .lst true gT 83 l12)], [bx 50 [(1, some [vS we, vI wd, vI jH, vI jP, vI jJ, .val (.list j8 aleg7)])]], KK⟩)
noncomputable def QhQ (lb n : Nat) (we : LB) (wd jH jP jJ : Int) (j8 : Bool) (aleg7 : LL) (kx : Bool) (l14 : LL) : Option CV :=
 hold (E0 lb n 0 996 (sub (B QcQ) [1, 1, 1, 1]) (Qjx (R QcQ) 83) ⟨fr 50 [(0, .val (.agg [.str we, .int .i64 wd, .int .i64 jH, .int .i64 jP, .int .i64 jJ, .list j8 aleg7])), (1, .ptr 0 1 0), (2, .lst true true 83 []), (3, .lst true kx 83 l14)], [bx 50 [(1, some [vS we, vI wd, vI jH, vI jP, vI jJ, .val (.list j8 aleg7)])]], KK⟩)
noncomputable def Qku (lb n : Nat) (we : LB) (wd jH jP jJ : Int) (j8 : Bool) (aleg7 : LL) (gU : Bool) (l20 : LL) : Option CV :=
 hold (E0 lb n 0 995 (sub (B QcQ) [1, 1, 1, 1, 1]) (Qjx (R QcQ) 83) ⟨fr 50 [(0, .val (.agg [.str we, .int .i64 wd, .int .i64 jH, .int .i64 jP, .int .i64 jJ, .list j8 aleg7])), (1, .ptr 0 1 0), (2, .lst true true 83 []), (3, .lst true gU 83 l20)], [bx 50 [(1, some [vS we, vI wd, vI jH, vI jP, vI jJ, .val (.list j8 aleg7)])]], KK⟩)
theorem Qro (lb n : Nat) (we : LB) (wd jH jP jJ : Int) (j8 : Bool) (aleg7 : LL) (gU : Bool) (l20 : LL) :
 Qku lb n we wd jH jP jJ j8 aleg7 gU l20 =
 bif (decide ((aleg7.length : Int) < 1)) then
 (chkO (room (l20.length + 1) 24) (
 some (.list (gU && false) (l20 ++ [[CV.int .i64 4, CV.str [108, 101, 103, 115]]]))))
 else
 (bif (decide ((aleg7.length : Int) > 6)) then
 (chkO (room (l20.length + 1) 24) (
 some (.list (gU && false) (l20 ++ [[CV.int .i64 4, CV.str [108, 101, 103, 115]]]))))
 else
 (some (.list gU l20))) := (Qaf _).trans (by kernel_rfl)
theorem Qrw (lb n : Nat) (we : LB) (wd jH jP jJ : Int) (j8 : Bool) (aleg7 : LL) (kx : Bool) (l14 : LL) :
 QhQ lb n we wd jH jP jJ j8 aleg7 kx l14 =
 optO (C lb n Qe7 [.agg [.int .i64 jH, .int .i64 jP, .int .i64 jJ]]) fun yP =>
 optO (CV.asI .i64 yP) fun yx =>
 bif (yx != 0) then
 (optO (C lb n Qe7 [.agg [.int .i64 jH, .int .i64 jP, .int .i64 jJ]]) fun gS =>
 chkO (CV.isCell gS) (
 chkO (room (l14.length + 1) 24) (
 Qku lb n we wd jH jP jJ j8 aleg7 (kx && false) (l14 ++ [[gS, CV.str [112, 101, 114, 105, 111, 100]]]))))
 else
 (Qku lb n we wd jH jP jJ j8 aleg7 kx l14) := (Qaf _).trans (by kernel_rfl)
theorem Qrd (lb n : Nat) (we : LB) (wd jH jP jJ : Int) (j8 : Bool) (aleg7 : LL) (gT : Bool) (l12 : LL) :
 Qkv lb n we wd jH jP jJ j8 aleg7 gT l12 =
 bif (decide (wd < 1)) then
 (chkO (room (l12.length + 1) 24) (
 QhQ lb n we wd jH jP jJ j8 aleg7 (gT && false) (l12 ++ [[CV.int .i64 2, CV.str [110, 117, 109, 98, 101, 114]]])))
 else
 (bif (decide (wd > 9999)) then
 (chkO (room (l12.length + 1) 24) (
 QhQ lb n we wd jH jP jJ j8 aleg7 (gT && false) (l12 ++ [[CV.int .i64 2, CV.str [110, 117, 109, 98, 101, 114]]])))
 else
 (QhQ lb n we wd jH jP jJ j8 aleg7 gT l12)) := (Qaf _).trans (by kernel_rfl)
theorem QuU (lb n : Nat) (we : LB) (wd jH jP jJ : Int) (j8 : Bool) (aleg7 : LL) :
 top lb n QcQ [.agg [.str we, .int .i64 wd, .int .i64 jH, .int .i64 jP, .int .i64 jJ, .list j8 aleg7]] =
 optO (C lb n Qir [.str we]) fun r9 =>
 optO (CV.asB r9) fun zH =>
 bif (!zH) then
 (Qkv lb n we wd jH jP jJ j8 aleg7 false [[CV.int .i64 5, CV.str [99, 97, 114, 114, 105, 101, 114]]])
 else
 (Qkv lb n we wd jH jP jJ j8 aleg7 true []) := by kernel_rfl
noncomputable def Qb5 (lb n yh : Nat) (ja : Bool) (aair2 : LL) (jb : Bool) (adis4 : LL) (jh : LB) (jg jd jf jc : Int) (je : Bool) (bleg12 : LL) (wB : Bool × LL) (o5 : Bool) (l242 : LL) (wN : Int) : Option CV :=
 hold (Qas (E0 lb n 0 993) 0 (Qad (sub (B Qan) [1, 1, 1, 0, 1, 0, 0]) ++ [8, 10, 12]) [7, 9, 11] (sub (B Qan) [1, 1, 1, 0, 1, 0, 0]) (Qaj 0 (seqK (E0 lb n 0 996) (sub (B Qan) [1, 1, 1, 0]) (sub (B Qan) [1, 1, 1, 1]) (retK Tryz.prog (R Qan) 0 (outK (Qag Tryz.prog Qan))))) yh ⟨fr 133 [(0, .val (.agg [.list ja aair2, .list jb adis4])), (1, .val (.agg [.str jh, .int .i64 jg, .int .i64 jd, .int .i64 jf, .int .i64 jc, .list je bleg12])), (2, .ptr 0 2 0), (3, .ptr 0 3 0), (4, .lst true true 83 []), (5, .lst true o5 83 l242), (6, vI wN), (15, .val (.agg [.str jh, .int .i64 jg, .int .i64 jd, .int .i64 jf, .int .i64 jc, .list je bleg12])), (16, .val (.list wB.1 wB.2))], [bx 133 [(2, some [.val (.list ja aair2), .val (.list jb adis4)]), (3, some [vS jh, vI jg, vI jd, vI jf, vI jc, .val (.list je bleg12)])]], KK⟩)
noncomputable def Qhg (lb n yh : Nat) (ja : Bool) (aair2 : LL) (jb : Bool) (adis4 : LL) (jh : LB) (jg jd jf jc : Int) (je : Bool) (bleg12 : LL) (wN : Int) (s370 : LB) (wB : Bool × LL) (c363 : List CV) (yu yv yr yt yB yM : CV) (o6 : Bool) (l374 : LL) : Option CV :=
 hold (E0 lb n 0 987 (sub (B Qan) [1, 1, 1, 0, 1, 0, 0, 1, 0, 0, 1, 1, 1]) (Qaj 1 (seqK (E0 lb n 0 991) (sub (B Qan) [1, 1, 1, 0, 1, 0, 0, 1, 0]) (sub (B Qan) [1, 1, 1, 0, 1, 0, 0, 1, 1]) (Qbs 0 (Qad (sub (B Qan) [1, 1, 1, 0, 1, 0, 0]) ++ [8, 10, 12]) [7, 9, 11] (Qas (E0 lb n 0 993) 0 (Qad (sub (B Qan) [1, 1, 1, 0, 1, 0, 0]) ++ [8, 10, 12]) [7, 9, 11] (sub (B Qan) [1, 1, 1, 0, 1, 0, 0]) (Qaj 0 (seqK (E0 lb n 0 996) (sub (B Qan) [1, 1, 1, 0]) (sub (B Qan) [1, 1, 1, 1]) (retK Tryz.prog (R Qan) 0 (outK (Qag Tryz.prog Qan))))) yh) (Qaj 0 (seqK (E0 lb n 0 996) (sub (B Qan) [1, 1, 1, 0]) (sub (B Qan) [1, 1, 1, 1]) (retK Tryz.prog (R Qan) 0 (outK (Qag Tryz.prog Qan)))))))) ⟨fr 133 [(0, .val (.agg [.list ja aair2, .list jb adis4])), (1, .val (.agg [.str jh, .int .i64 jg, .int .i64 jd, .int .i64 jf, .int .i64 jc, .list je bleg12])), (2, .ptr 0 2 0), (3, .ptr 0 3 0), (4, .lst true true 83 []), (5, .lst true o6 83 l374), (6, vI wN), (7, .ptr 0 7 0), (8, .val (.str (([108, 101, 103, 32] : LB) ++ s370))), (15, .val (.agg [.str jh, .int .i64 jg, .int .i64 jd, .int .i64 jf, .int .i64 jc, .list je bleg12])), (16, .val (.list wB.1 wB.2)), (35, .ptr 0 3 5), (36, .val (.list je bleg12)), (37, vI wN), (38, .cptr c363 0), (39, .val (.agg [yu, yv, yr, yt, yB])), (40, vI wN), (41, vV yM), (42, .val (.str (([108, 101, 103, 32] : LB) ++ s370)))], [bx 133 [(2, some [.val (.list ja aair2), .val (.list jb adis4)]), (3, some [vS jh, vI jg, vI jd, vI jf, vI jc, .val (.list je bleg12)]), (7, some [.val yu, .val yv, .val yr, .val yt, .val yB])]], KK⟩)
noncomputable def QfF (lb n yh : Nat) (ja : Bool) (aair2 : LL) (jb : Bool) (adis4 : LL) (jh : LB) (jg jd jf jc : Int) (je : Bool) (bleg12 : LL) (wN : Int) (s370 : LB) (vg vh : CV) (wB : Bool × LL) (c363 : List CV) (yu yv yr yt yB yM vc vm y9 vl vw vG vF vH vu vD vt vC vA vE : CV) (gD : Bool) (l399 : LL) : Option CV :=
 hold (E0 lb n 0 984 (sub (B Qan) [1, 1, 1, 0, 1, 0, 0, 1, 0, 0, 1, 1, 1, 1, 1, 1]) (Qaj 1 (seqK (E0 lb n 0 991) (sub (B Qan) [1, 1, 1, 0, 1, 0, 0, 1, 0]) (sub (B Qan) [1, 1, 1, 0, 1, 0, 0, 1, 1]) (Qbs 0 (Qad (sub (B Qan) [1, 1, 1, 0, 1, 0, 0]) ++ [8, 10, 12]) [7, 9, 11] (Qas (E0 lb n 0 993) 0 (Qad (sub (B Qan) [1, 1, 1, 0, 1, 0, 0]) ++ [8, 10, 12]) [7, 9, 11] (sub (B Qan) [1, 1, 1, 0, 1, 0, 0]) (Qaj 0 (seqK (E0 lb n 0 996) (sub (B Qan) [1, 1, 1, 0]) (sub (B Qan) [1, 1, 1, 1]) (retK Tryz.prog (R Qan) 0 (outK (Qag Tryz.prog Qan))))) yh) (Qaj 0 (seqK (E0 lb n 0 996) (sub (B Qan) [1, 1, 1, 0]) (sub (B Qan) [1, 1, 1, 1]) (retK Tryz.prog (R Qan) 0 (outK (Qag Tryz.prog Qan)))))))) ⟨fr 133 [(0, .val (.agg [.list ja aair2, .list jb adis4])), (1, .val (.agg [.str jh, .int .i64 jg, .int .i64 jd, .int .i64 jf, .int .i64 jc, .list je bleg12])), (2, .ptr 0 2 0), (3, .ptr 0 3 0), (4, .lst true true 83 []), (5, .lst true gD 83 l399), (6, vI wN), (7, .ptr 0 7 0), (8, .val (.str (([108, 101, 103, 32] : LB) ++ s370))), (9, .ptr 0 9 0), (10, vV vg), (11, .ptr 0 11 0), (12, vV vh), (15, .val (.agg [.str jh, .int .i64 jg, .int .i64 jd, .int .i64 jf, .int .i64 jc, .list je bleg12])), (16, .val (.list wB.1 wB.2)), (35, .ptr 0 3 5), (36, .val (.list je bleg12)), (37, vI wN), (38, .cptr c363 0), (39, .val (.agg [yu, yv, yr, yt, yB])), (40, vI wN), (41, vV yM), (42, .val (.str (([108, 101, 103, 32] : LB) ++ s370))), (52, vV vc), (53, .val (.agg [.list ja aair2, .list jb adis4])), (54, .ptr 0 7 0), (55, vV yu), (56, vV vc), (57, vV vm), (58, vV vg), (59, vV y9), (60, .val (.agg [.list ja aair2, .list jb adis4])), (61, .ptr 0 7 1), (62, vV yv), (63, vV y9), (64, vV vl), (65, vV vh)], [bx 133 [(2, some [.val (.list ja aair2), .val (.list jb adis4)]), (3, some [vS jh, vI jg, vI jd, vI jf, vI jc, .val (.list je bleg12)]), (7, some [.val yu, .val yv, .val yr, .val yt, .val yB]), (9, some [.val vw, .val vG, .val vF, .val vH, .val vu]), (11, some [.val vD, .val vt, .val vC, .val vA, .val vE])]], KK⟩)
noncomputable def Qg2 (lb n yh : Nat) (ja : Bool) (aair2 : LL) (jb : Bool) (adis4 : LL) (jh : LB) (jg jd jf jc : Int) (je : Bool) (bleg12 : LL) (wN : Int) (s370 : LB) (vg vh : CV) (wB : Bool × LL) (c363 : List CV) (yu yv yr yt yB yM vc vm y9 vl vw vG vF vH vu vD vt vC vA vE : CV) (o8 : Bool) (l403 : LL) : Option CV :=
 hold (E0 lb n 0 983 (sub (B Qan) [1, 1, 1, 0, 1, 0, 0, 1, 0, 0, 1, 1, 1, 1, 1, 1, 1]) (Qaj 1 (seqK (E0 lb n 0 991) (sub (B Qan) [1, 1, 1, 0, 1, 0, 0, 1, 0]) (sub (B Qan) [1, 1, 1, 0, 1, 0, 0, 1, 1]) (Qbs 0 (Qad (sub (B Qan) [1, 1, 1, 0, 1, 0, 0]) ++ [8, 10, 12]) [7, 9, 11] (Qas (E0 lb n 0 993) 0 (Qad (sub (B Qan) [1, 1, 1, 0, 1, 0, 0]) ++ [8, 10, 12]) [7, 9, 11] (sub (B Qan) [1, 1, 1, 0, 1, 0, 0]) (Qaj 0 (seqK (E0 lb n 0 996) (sub (B Qan) [1, 1, 1, 0]) (sub (B Qan) [1, 1, 1, 1]) (retK Tryz.prog (R Qan) 0 (outK (Qag Tryz.prog Qan))))) yh) (Qaj 0 (seqK (E0 lb n 0 996) (sub (B Qan) [1, 1, 1, 0]) (sub (B Qan) [1, 1, 1, 1]) (retK Tryz.prog (R Qan) 0 (outK (Qag Tryz.prog Qan)))))))) ⟨fr 133 [(0, .val (.agg [.list ja aair2, .list jb adis4])), (1, .val (.agg [.str jh, .int .i64 jg, .int .i64 jd, .int .i64 jf, .int .i64 jc, .list je bleg12])), (2, .ptr 0 2 0), (3, .ptr 0 3 0), (4, .lst true true 83 []), (5, .lst true o8 83 l403), (6, vI wN), (7, .ptr 0 7 0), (8, .val (.str (([108, 101, 103, 32] : LB) ++ s370))), (9, .ptr 0 9 0), (10, vV vg), (11, .ptr 0 11 0), (12, vV vh), (15, .val (.agg [.str jh, .int .i64 jg, .int .i64 jd, .int .i64 jf, .int .i64 jc, .list je bleg12])), (16, .val (.list wB.1 wB.2)), (35, .ptr 0 3 5), (36, .val (.list je bleg12)), (37, vI wN), (38, .cptr c363 0), (39, .val (.agg [yu, yv, yr, yt, yB])), (40, vI wN), (41, vV yM), (42, .val (.str (([108, 101, 103, 32] : LB) ++ s370))), (52, vV vc), (53, .val (.agg [.list ja aair2, .list jb adis4])), (54, .ptr 0 7 0), (55, vV yu), (56, vV vc), (57, vV vm), (58, vV vg), (59, vV y9), (60, .val (.agg [.list ja aair2, .list jb adis4])), (61, .ptr 0 7 1), (62, vV yv), (63, vV y9), (64, vV vl), (65, vV vh)], [bx 133 [(2, some [.val (.list ja aair2), .val (.list jb adis4)]), (3, some [vS jh, vI jg, vI jd, vI jf, vI jc, .val (.list je bleg12)]), (7, some [.val yu, .val yv, .val yr, .val yt, .val yB]), (9, some [.val vw, .val vG, .val vF, .val vH, .val vu]), (11, some [.val vD, .val vt, .val vC, .val vA, .val vE])]], KK⟩)
theorem QpD (lb n yh : Nat) (ja : Bool) (aair2 : LL) (jb : Bool) (adis4 : LL) (jh : LB) (jg jd jf jc : Int) (je : Bool) (bleg12 : LL) (wN : Int) (s370 : LB) (vg vh : CV) (wB : Bool × LL) (c363 : List CV) (yu yv yr yt yB yM vc vm y9 vl vw vG vF vH vu vD vt vC vA vE : CV) (o8 : Bool) (l403 : LL) :
 Qg2 lb n yh ja aair2 jb adis4 jh jg jd jf jc je bleg12 wN s370 vg vh wB c363 yu yv yr yt yB yM vc vm y9 vl vw vG vF vH vu vD vt vC vA vE o8 l403 =
 optO (C lb n QdE [yr]) fun sU =>
 optO (CV.asB sU) fun sk =>
 bif sk then
 (chkO (room (l403.length + 1) 24) (
 Qb5 lb n yh ja aair2 jb adis4 jh jg jd jf jc je bleg12 wB (o8 && false) (l403 ++ [[CV.int .i64 2, CV.str (([108, 101, 103, 32] : LB) ++ s370)]]) (IntKind.wrap .i64 (wN + 1))))
 else
 (optO (C lb n QdE [yt]) fun sP =>
 optO (CV.asB sP) fun qM =>
 bif qM then
 (chkO (room (l403.length + 1) 24) (
 Qb5 lb n yh ja aair2 jb adis4 jh jg jd jf jc je bleg12 wB (o8 && false) (l403 ++ [[CV.int .i64 2, CV.str (([108, 101, 103, 32] : LB) ++ s370)]]) (IntKind.wrap .i64 (wN + 1))))
 else
 (Qb5 lb n yh ja aair2 jb adis4 jh jg jd jf jc je bleg12 wB o8 l403 (IntKind.wrap .i64 (wN + 1)))) := (Qaf _).trans (by kernel_rfl)
theorem Qqy (lb n yh : Nat) (ja : Bool) (aair2 : LL) (jb : Bool) (adis4 : LL) (jh : LB) (jg jd jf jc : Int) (je : Bool) (bleg12 : LL) (wN : Int) (s370 : LB) (vg vh : CV) (wB : Bool × LL) (c363 : List CV) (yu yv yr yt yB yM vc vm y9 vl vw vG vF vH vu vD vt vC vA vE : CV) (gD : Bool) (l399 : LL) :
 QfF lb n yh ja aair2 jb adis4 jh jg jd jf jc je bleg12 wN s370 vg vh wB c363 yu yv yr yt yB yM vc vm y9 vl vw vG vF vH vu vD vt vC vA vE gD l399 =
 optO (C lb n QbE [.list je bleg12, .int .i64 wN]) fun zd =>
 optO (CV.asB zd) fun zl =>
 bif zl then
 (chkO (room (l399.length + 1) 24) (
 Qg2 lb n yh ja aair2 jb adis4 jh jg jd jf jc je bleg12 wN s370 vg vh wB c363 yu yv yr yt yB yM vc vm y9 vl vw vG vF vH vu vD vt vC vA vE (gD && false) (l399 ++ [[CV.int .i64 15, CV.str (([108, 101, 103, 32] : LB) ++ s370)]])))
 else
 (Qg2 lb n yh ja aair2 jb adis4 jh jg jd jf jc je bleg12 wN s370 vg vh wB c363 yu yv yr yt yB yM vc vm y9 vl vw vG vF vH vu vD vt vC vA vE gD l399) := (Qaf _).trans (by kernel_rfl)
theorem Qqq (lb n yh : Nat) (ja : Bool) (aair2 : LL) (jb : Bool) (adis4 : LL) (jh : LB) (jg jd jf jc : Int) (je : Bool) (bleg12 : LL) (wN : Int) (s370 : LB) (wB : Bool × LL) (c363 : List CV) (yu yv yr yt yB yM : CV) (o6 : Bool) (l374 : LL) :
 Qhg lb n yh ja aair2 jb adis4 jh jg jd jf jc je bleg12 wN s370 wB c363 yu yv yr yt yB yM o6 l374 =
 optO (C lb n QbJ [.agg [.list ja aair2, .list jb adis4], yu]) fun vc =>
 optO (CV.asT vc) fun sw =>
 optO (sw[0]?) fun vm =>
 optO (CV.asT vc) fun sq =>
 optO (sq[1]?) fun vg =>
 optO (CV.asA vm) fun c380 =>
 chkO (c380.length == 5) (
 optO (c380[0]?) fun vw =>
 optO (c380[1]?) fun vG =>
 optO (c380[2]?) fun vF =>
 optO (c380[3]?) fun vH =>
 optO (c380[4]?) fun vu =>
 optO (C lb n QbJ [.agg [.list ja aair2, .list jb adis4], yv]) fun y9 =>
 optO (CV.asT y9) fun ze =>
 optO (ze[0]?) fun vl =>
 optO (CV.asT y9) fun qL =>
 optO (qL[1]?) fun vh =>
 optO (CV.asA vl) fun c391 =>
 chkO (c391.length == 5) (
 optO (c391[0]?) fun vD =>
 optO (c391[1]?) fun vt =>
 optO (c391[2]?) fun vC =>
 optO (c391[3]?) fun vA =>
 optO (c391[4]?) fun vE =>
 optO (CV.asB vg) fun za =>
 bif (!za) then
 (chkO (room (l374.length + 1) 24) (
 QfF lb n yh ja aair2 jb adis4 jh jg jd jf jc je bleg12 wN s370 vg vh wB c363 yu yv yr yt yB yM vc vm y9 vl vw vG vF vH vu vD vt vC vA vE (o6 && false) (l374 ++ [[CV.int .i64 14, CV.str (([108, 101, 103, 32] : LB) ++ s370)]])))
 else
 (optO (CV.asB vh) fun s5 =>
 bif (!s5) then
 (chkO (room (l374.length + 1) 24) (
 QfF lb n yh ja aair2 jb adis4 jh jg jd jf jc je bleg12 wN s370 vg vh wB c363 yu yv yr yt yB yM vc vm y9 vl vw vG vF vH vu vD vt vC vA vE (o6 && false) (l374 ++ [[CV.int .i64 14, CV.str (([108, 101, 103, 32] : LB) ++ s370)]])))
 else
 (QfF lb n yh ja aair2 jb adis4 jh jg jd jf jc je bleg12 wN s370 vg vh wB c363 yu yv yr yt yB yM vc vm y9 vl vw vG vF vH vu vD vt vC vA vE o6 l374)))) := (Qaf _).trans (by kernel_rfl)
noncomputable def Qmn (lb n : Nat) (ja : Bool) (aair2 : LL) (jb : Bool) (adis4 : LL) (jh : LB) (jg jd jf jc : Int) (je : Bool) (bleg12 : LL) (wB : Bool × LL) (mb : Bool) (mh : LL) (vk : Int) : Option CV :=
 hold (E0 lb n 0 996 (sub (B Qan) [1, 1, 1, 1]) (retK Tryz.prog (R Qan) 0 (outK (Qag Tryz.prog Qan))) ⟨fr 133 [(0, .val (.agg [.list ja aair2, .list jb adis4])), (1, .val (.agg [.str jh, .int .i64 jg, .int .i64 jd, .int .i64 jf, .int .i64 jc, .list je bleg12])), (2, .ptr 0 2 0), (3, .ptr 0 3 0), (4, .lst true true 83 []), (5, .lst true mb 83 mh), (6, vI vk), (15, .val (.agg [.str jh, .int .i64 jg, .int .i64 jd, .int .i64 jf, .int .i64 jc, .list je bleg12])), (16, .val (.list wB.1 wB.2))], [bx 133 [(2, some [.val (.list ja aair2), .val (.list jb adis4)]), (3, some [vS jh, vI jg, vI jd, vI jf, vI jc, .val (.list je bleg12)])]], KK⟩)
noncomputable def QdN (lb n go : Nat) (ja : Bool) (aair2 : LL) (jb : Bool) (adis4 : LL) (jh : LB) (jg jd jf jc : Int) (je : Bool) (bleg12 : LL) (vk : Int) (vp : CV) (wB : Bool × LL) (oF : Bool) (l429 : LL) (kG : Int) : Option CV :=
 hold (Qas (E0 lb n 0 991) 0 (Qad (sub (B Qan) [1, 1, 1, 1, 1, 0, 1, 0, 0]) ++ []) [] (sub (B Qan) [1, 1, 1, 1, 1, 0, 1, 0, 0]) (Qaj 2 (seqK (E0 lb n 0 994) (sub (B Qan) [1, 1, 1, 1, 1, 0]) (sub (B Qan) [1, 1, 1, 1, 1, 1]) (retK Tryz.prog (R Qan) 0 (outK (Qag Tryz.prog Qan))))) go ⟨fr 133 [(0, .val (.agg [.list ja aair2, .list jb adis4])), (1, .val (.agg [.str jh, .int .i64 jg, .int .i64 jd, .int .i64 jf, .int .i64 jc, .list je bleg12])), (2, .ptr 0 2 0), (3, .ptr 0 3 0), (4, .lst true true 83 []), (5, .lst true oF 83 l429), (6, vI vk), (13, vV vp), (14, vI kG), (15, .val (.agg [.str jh, .int .i64 jg, .int .i64 jd, .int .i64 jf, .int .i64 jc, .list je bleg12])), (16, .val (.list wB.1 wB.2)), (99, .ptr 0 3 2), (100, .val (.agg [.int .i64 jd, .int .i64 jf, .int .i64 jc])), (101, vV vp)], [bx 133 [(2, some [.val (.list ja aair2), .val (.list jb adis4)]), (3, some [vS jh, vI jg, vI jd, vI jf, vI jc, .val (.list je bleg12)])]], KK⟩)
noncomputable def Qja (lb n : Nat) (ja : Bool) (aair2 : LL) (jb : Bool) (adis4 : LL) (jh : LB) (jg jd jf jc : Int) (je : Bool) (bleg12 : LL) (vk : Int) (vp : CV) (wB : Bool × LL) (mY : Bool) (mD : LL) (nO : Int) : Option CV :=
 hold (E0 lb n 0 994 (sub (B Qan) [1, 1, 1, 1, 1, 1]) (retK Tryz.prog (R Qan) 0 (outK (Qag Tryz.prog Qan))) ⟨fr 133 [(0, .val (.agg [.list ja aair2, .list jb adis4])), (1, .val (.agg [.str jh, .int .i64 jg, .int .i64 jd, .int .i64 jf, .int .i64 jc, .list je bleg12])), (2, .ptr 0 2 0), (3, .ptr 0 3 0), (4, .lst true true 83 []), (5, .lst true mY 83 mD), (6, vI vk), (13, vV vp), (14, vI nO), (15, .val (.agg [.str jh, .int .i64 jg, .int .i64 jd, .int .i64 jf, .int .i64 jc, .list je bleg12])), (16, .val (.list wB.1 wB.2)), (99, .ptr 0 3 2), (100, .val (.agg [.int .i64 jd, .int .i64 jf, .int .i64 jc])), (101, vV vp)], [bx 133 [(2, some [.val (.list ja aair2), .val (.list jb adis4)]), (3, some [vS jh, vI jg, vI jd, vI jf, vI jc, .val (.list je bleg12)])]], KK⟩)
theorem Qg0 (lb n : Nat) (ja : Bool) (aair2 : LL) (jb : Bool) (adis4 : LL) (jh : LB) (jg jd jf jc : Int) (je : Bool) (bleg12 : LL) (vk : Int) (vp : CV) (wB : Bool × LL) (mY : Bool) (mD : LL) (nO : Int) :
 Qja lb n ja aair2 jb adis4 jh jg jd jf jc je bleg12 vk vp wB mY mD nO =
 some (.list mY mD) := (Qaf _).trans (by kernel_rfl)
theorem Qeo (lb n go : Nat) (ja : Bool) (aair2 : LL) (jb : Bool) (adis4 : LL) (jh : LB) (jg jd jf jc : Int) (je : Bool) (bleg12 : LL) (vk : Int) (vp : CV) (wB : Bool × LL) (oF : Bool) (l429 : LL) (kG : Int) :
 QdN lb n (go + 1) ja aair2 jb adis4 jh jg jd jf jc je bleg12 vk vp wB oF l429 kG =
 bif ((l429.length : Int) == 0) then
 (optO (CV.asL vp) fun zi =>
 bif (decide (kG < (zi.2.length : Int))) then
 (optO (CV.asL vp) fun se =>
 optO (atL se.2 kG) fun c446 =>
 chkO (c446.length == 1) (
 optO (c446[0]?) fun qP =>
 optO (C lb n Qch [.agg [.list ja aair2, .list jb adis4], .agg [.str jh, .int .i64 jg, .int .i64 jd, .int .i64 jf, .int .i64 jc, .list je bleg12], qP]) fun q8 =>
 optO (C lb n QbA [q8]) fun qK =>
 optO (CV.asB qK) fun sx =>
 bif (!sx) then
 (optO (CV.asL vp) fun sG =>
 optO (atL sG.2 kG) fun c452 =>
 chkO (c452.length == 1) (
 optO (c452[0]?) fun sN =>
 optO (C lb n Qh2 [sN]) fun sr =>
 optO (CV.asS sr) fun s455 =>
 chkO (decide (([100, 97, 121, 32] : LB).length + s455.length ≤ 9223372036854775807)) (
 chkO (room (l429.length + 1) 24) (
 QdN lb n go ja aair2 jb adis4 jh jg jd jf jc je bleg12 vk vp wB (oF && false) (l429 ++ [[CV.int .i64 13, CV.str (([100, 97, 121, 32] : LB) ++ s455)]]) (IntKind.wrap .i64 (kG + 1))))))
 else
 (QdN lb n go ja aair2 jb adis4 jh jg jd jf jc je bleg12 vk vp wB oF l429 (IntKind.wrap .i64 (kG + 1)))))
 else
 (Qja lb n ja aair2 jb adis4 jh jg jd jf jc je bleg12 vk vp wB oF l429 kG))
 else
 (Qja lb n ja aair2 jb adis4 jh jg jd jf jc je bleg12 vk vp wB oF l429 kG) := (Qaf _).trans (by kernel_rfl)
theorem QqD (lb n : Nat) (ja : Bool) (aair2 : LL) (jb : Bool) (adis4 : LL) (jh : LB) (jg jd jf jc : Int) (je : Bool) (bleg12 : LL) (wB : Bool × LL) (mb : Bool) (mh : LL) (vk : Int) :
 Qmn lb n ja aair2 jb adis4 jh jg jd jf jc je bleg12 wB mb mh vk =
 optO (C lb n Qck [.agg [.int .i64 jd, .int .i64 jf, .int .i64 jc]]) fun vp =>
 QdN lb n n ja aair2 jb adis4 jh jg jd jf jc je bleg12 vk vp wB mb mh 0 := (Qaf _).trans (by kernel_rfl)
theorem QiL (lb n yh : Nat) (ja : Bool) (aair2 : LL) (jb : Bool) (adis4 : LL) (jh : LB) (jg jd jf jc : Int) (je : Bool) (bleg12 : LL) (wB : Bool × LL) (o5 : Bool) (l242 : LL) (wN : Int) :
 Qb5 lb n (yh + 1) ja aair2 jb adis4 jh jg jd jf jc je bleg12 wB o5 l242 wN =
 bif (decide (wN < (bleg12.length : Int))) then
 (optO (atL bleg12 wN) fun c363 =>
 chkO (c363.length == 5) (
 optO (c363[0]?) fun yu =>
 optO (c363[1]?) fun yv =>
 optO (c363[2]?) fun yr =>
 optO (c363[3]?) fun yt =>
 optO (c363[4]?) fun yB =>
 optO (C lb n QdS [.int .i64 wN]) fun yM =>
 optO (CV.asS yM) fun s370 =>
 chkO (decide (([108, 101, 103, 32] : LB).length + s370.length ≤ 9223372036854775807)) (
 optO (C lb n Qci [yB, .int .i64 3, .int .i64 3]) fun sL =>
 optO (CV.asB sL) fun qX =>
 bif (!qX) then
 (chkO (room (l242.length + 1) 24) (
 Qhg lb n yh ja aair2 jb adis4 jh jg jd jf jc je bleg12 wN s370 wB c363 yu yv yr yt yB yM (o5 && false) (l242 ++ [[CV.int .i64 5, CV.str (([108, 101, 103, 32] : LB) ++ s370)]])))
 else
 (Qhg lb n yh ja aair2 jb adis4 jh jg jd jf jc je bleg12 wN s370 wB c363 yu yv yr yt yB yM o5 l242))))
 else
 (Qmn lb n ja aair2 jb adis4 jh jg jd jf jc je bleg12 wB o5 l242 wN) := (Qaf _).trans (by kernel_rfl)
theorem QtY (lb n : Nat) (ja : Bool) (aair2 : LL) (jb : Bool) (adis4 : LL) (jh : LB) (jg jd jf jc : Int) (je : Bool) (bleg12 : LL) :
 top lb n Qan [.agg [.list ja aair2, .list jb adis4], .agg [.str jh, .int .i64 jg, .int .i64 jd, .int .i64 jf, .int .i64 jc, .list je bleg12]] =
 optO (C lb n QcQ [.agg [.str jh, .int .i64 jg, .int .i64 jd, .int .i64 jf, .int .i64 jc, .list je bleg12]]) fun gz =>
 optO (CV.asL gz) fun wB =>
 bif (decide ((bleg12.length : Int) < 1)) then
 (some (.list wB.1 wB.2))
 else
 (bif (decide ((bleg12.length : Int) > 6)) then
 (some (.list wB.1 wB.2))
 else
 (Qb5 lb n n ja aair2 jb adis4 jh jg jd jf jc je bleg12 wB wB.1 wB.2 0)) := by kernel_rfl
noncomputable def Qg8 (lb n : Nat) (ja : Bool) (aair2 : LL) (jb : Bool) (adis4 : LL) (jh : LB) (jg jd jf jc : Int) (je : Bool) (bleg12 : LL) (yN : Bool) (l17 : LL) : Option CV :=
 hold (E0 lb n 0 996 (sub (B Qak) [1, 1, 1, 1]) (retK Tryz.prog (R Qak) 0 (outK (Qag Tryz.prog Qak))) ⟨fr 100 [(0, .val (.agg [.list ja aair2, .list jb adis4])), (1, .val (.agg [.str jh, .int .i64 jg, .int .i64 jd, .int .i64 jf, .int .i64 jc, .list je bleg12])), (2, .ptr 0 2 0), (3, .ptr 0 3 0), (4, .lst true true 83 []), (5, .ptr 0 5 0), (6, .clo QaQ [.ptr 0 5 0]), (13, .clo QaQ [.ptr 0 5 0])], [bx 100 [(2, some [.val (.list ja aair2), .val (.list jb adis4)]), (3, some [vS jh, vI jg, vI jd, vI jf, vI jc, .val (.list je bleg12)]), (5, some [.lst true yN 83 l17])]], KK⟩)
noncomputable def Qfh (lb n : Nat) (ja : Bool) (aair2 : LL) (jb : Bool) (adis4 : LL) (jh : LB) (jg jd jf jc : Int) (je : Bool) (bleg12 : LL) (nu : Bool) (l19 : LL) : Option CV :=
 hold (E0 lb n 0 995 (sub (B Qak) [1, 1, 1, 1, 1]) (retK Tryz.prog (R Qak) 0 (outK (Qag Tryz.prog Qak))) ⟨fr 100 [(0, .val (.agg [.list ja aair2, .list jb adis4])), (1, .val (.agg [.str jh, .int .i64 jg, .int .i64 jd, .int .i64 jf, .int .i64 jc, .list je bleg12])), (2, .ptr 0 2 0), (3, .ptr 0 3 0), (4, .lst true true 83 []), (5, .ptr 0 5 0), (6, .clo QaQ [.ptr 0 5 0]), (13, .clo QaQ [.ptr 0 5 0])], [bx 100 [(2, some [.val (.list ja aair2), .val (.list jb adis4)]), (3, some [vS jh, vI jg, vI jd, vI jf, vI jc, .val (.list je bleg12)]), (5, some [.lst true nu 83 l19])]], KK⟩)
noncomputable def Qfj (lb n : Nat) (ja : Bool) (aair2 : LL) (jb : Bool) (adis4 : LL) (jh : LB) (jg jd jf jc : Int) (je : Bool) (bleg12 : LL) (wT : CV) (kE : Bool) (l24 : LL) : Option CV :=
 hold (E0 lb n 0 994 (sub (B Qak) [1, 1, 1, 1, 1, 1]) (retK Tryz.prog (R Qak) 0 (outK (Qag Tryz.prog Qak))) ⟨fr 100 [(0, .val (.agg [.list ja aair2, .list jb adis4])), (1, .val (.agg [.str jh, .int .i64 jg, .int .i64 jd, .int .i64 jf, .int .i64 jc, .list je bleg12])), (2, .ptr 0 2 0), (3, .ptr 0 3 0), (4, .lst true true 83 []), (5, .ptr 0 5 0), (6, .clo QaQ [.ptr 0 5 0]), (7, vV wT), (13, .clo QaQ [.ptr 0 5 0])], [bx 100 [(2, some [.val (.list ja aair2), .val (.list jb adis4)]), (3, some [vS jh, vI jg, vI jd, vI jf, vI jc, .val (.list je bleg12)]), (5, some [.lst true kE 83 l24])]], KK⟩)
noncomputable def Qdq (lb n kw : Nat) (ja : Bool) (aair2 : LL) (jb : Bool) (adis4 : LL) (jh : LB) (jg jd jf jc : Int) (je : Bool) (bleg12 : LL) (wT : CV) (i46 : Int) (kI : Bool) (od : LL) : Option CV :=
 hold (Qas (E0 lb n 0 989) 0 (Qad (sub (B Qak) [1, 1, 1, 1, 1, 1, 1, 0, 1, 0, 0]) ++ [8, 10]) [] (sub (B Qak) [1, 1, 1, 1, 1, 1, 1, 0, 1, 0, 0]) (Qaj 0 (seqK (E0 lb n 0 992) (sub (B Qak) [1, 1, 1, 1, 1, 1, 1, 0]) (sub (B Qak) [1, 1, 1, 1, 1, 1, 1, 1]) (retK Tryz.prog (R Qak) 0 (outK (Qag Tryz.prog Qak))))) kw ⟨fr 100 [(0, .val (.agg [.list ja aair2, .list jb adis4])), (1, .val (.agg [.str jh, .int .i64 jg, .int .i64 jd, .int .i64 jf, .int .i64 jc, .list je bleg12])), (2, .ptr 0 2 0), (3, .ptr 0 3 0), (4, .lst true true 83 []), (5, .ptr 0 5 0), (6, .clo QaQ [.ptr 0 5 0]), (7, vV wT), (13, .clo QaQ [.ptr 0 5 0]), (51, .ptr 0 3 5), (52, .val (.list je bleg12)), (53, .val (.int .i64 (bleg12.length : Int))), (54, vI i46)], [bx 100 [(2, some [.val (.list ja aair2), .val (.list jb adis4)]), (3, some [vS jh, vI jg, vI jd, vI jf, vI jc, .val (.list je bleg12)]), (5, some [.lst true kI 83 od])]], KK⟩)
noncomputable def Qfp (lb n pf kw : Nat) (ja : Bool) (aair2 : LL) (jb : Bool) (adis4 : LL) (jh : LB) (jg jd jf jc : Int) (je : Bool) (bleg12 : LL) (wT : CV) (i46 : Int) (gh : CV) (oP : Bool × LL) (gO : Int) (yZ : Bool) (l80 : LL) : Option CV :=
 hold (Qas (E0 lb n 0 981) 0 (Qad (sub (B Qak) [1, 1, 1, 1, 1, 1, 1, 0, 1, 0, 0, 1, 1, 0, 0, 1, 1, 0, 0]) ++ [10]) [] (sub (B Qak) [1, 1, 1, 1, 1, 1, 1, 0, 1, 0, 0, 1, 1, 0, 0, 1, 1, 0, 0]) (Qaj 2 (Qaj 1 (seqK (E0 lb n 0 986) (sub (B Qak) [1, 1, 1, 1, 1, 1, 1, 0, 1, 0, 0, 1, 1, 0]) (sub (B Qak) [1, 1, 1, 1, 1, 1, 1, 0, 1, 0, 0, 1, 1, 1]) (Qbs 0 (Qad (sub (B Qak) [1, 1, 1, 1, 1, 1, 1, 0, 1, 0, 0]) ++ [8, 10]) [] (Qas (E0 lb n 0 989) 0 (Qad (sub (B Qak) [1, 1, 1, 1, 1, 1, 1, 0, 1, 0, 0]) ++ [8, 10]) [] (sub (B Qak) [1, 1, 1, 1, 1, 1, 1, 0, 1, 0, 0]) (Qaj 0 (seqK (E0 lb n 0 992) (sub (B Qak) [1, 1, 1, 1, 1, 1, 1, 0]) (sub (B Qak) [1, 1, 1, 1, 1, 1, 1, 1]) (retK Tryz.prog (R Qak) 0 (outK (Qag Tryz.prog Qak))))) kw) (Qaj 0 (seqK (E0 lb n 0 992) (sub (B Qak) [1, 1, 1, 1, 1, 1, 1, 0]) (sub (B Qak) [1, 1, 1, 1, 1, 1, 1, 1]) (retK Tryz.prog (R Qak) 0 (outK (Qag Tryz.prog Qak))))))))) pf ⟨fr 100 [(0, .val (.agg [.list ja aair2, .list jb adis4])), (1, .val (.agg [.str jh, .int .i64 jg, .int .i64 jd, .int .i64 jf, .int .i64 jc, .list je bleg12])), (2, .ptr 0 2 0), (3, .ptr 0 3 0), (4, .lst true true 83 []), (5, .ptr 0 5 0), (6, .clo QaQ [.ptr 0 5 0]), (7, vV wT), (8, vI i46), (13, .clo QaQ [.ptr 0 5 0]), (51, .ptr 0 3 5), (52, .val (.list je bleg12)), (53, .val (.int .i64 (bleg12.length : Int))), (54, vI i46), (55, .val (.bool (decide (i46 < (bleg12.length : Int))))), (56, vI i46), (57, .val (.agg [.list ja aair2, .list jb adis4])), (58, .ptr 0 3 5), (59, .val (.list je bleg12)), (60, vI i46), (61, vV gh), (62, .val (.int .i64 (oP.2.length : Int))), (63, vI gO)], [bx 100 [(2, some [.val (.list ja aair2), .val (.list jb adis4)]), (3, some [vS jh, vI jg, vI jd, vI jf, vI jc, .val (.list je bleg12)]), (5, some [.lst true yZ 83 l80])]], KK⟩)
noncomputable def QjY (lb n kw : Nat) (ja : Bool) (aair2 : LL) (jb : Bool) (adis4 : LL) (jh : LB) (jg jd jf jc : Int) (je : Bool) (bleg12 : LL) (wT : CV) (i46 qt : Int) (nq : Bool) (pg : LL) : Option CV :=
 hold (E0 lb n 0 986 (sub (B Qak) [1, 1, 1, 1, 1, 1, 1, 0, 1, 0, 0, 1, 1, 1]) (Qbs 0 (Qad (sub (B Qak) [1, 1, 1, 1, 1, 1, 1, 0, 1, 0, 0]) ++ [8, 10]) [] (Qas (E0 lb n 0 989) 0 (Qad (sub (B Qak) [1, 1, 1, 1, 1, 1, 1, 0, 1, 0, 0]) ++ [8, 10]) [] (sub (B Qak) [1, 1, 1, 1, 1, 1, 1, 0, 1, 0, 0]) (Qaj 0 (seqK (E0 lb n 0 992) (sub (B Qak) [1, 1, 1, 1, 1, 1, 1, 0]) (sub (B Qak) [1, 1, 1, 1, 1, 1, 1, 1]) (retK Tryz.prog (R Qak) 0 (outK (Qag Tryz.prog Qak))))) kw) (Qaj 0 (seqK (E0 lb n 0 992) (sub (B Qak) [1, 1, 1, 1, 1, 1, 1, 0]) (sub (B Qak) [1, 1, 1, 1, 1, 1, 1, 1]) (retK Tryz.prog (R Qak) 0 (outK (Qag Tryz.prog Qak)))))) ⟨fr 100 [(0, .val (.agg [.list ja aair2, .list jb adis4])), (1, .val (.agg [.str jh, .int .i64 jg, .int .i64 jd, .int .i64 jf, .int .i64 jc, .list je bleg12])), (2, .ptr 0 2 0), (3, .ptr 0 3 0), (4, .lst true true 83 []), (5, .ptr 0 5 0), (6, .clo QaQ [.ptr 0 5 0]), (7, vV wT), (8, vI qt), (13, .clo QaQ [.ptr 0 5 0]), (51, .ptr 0 3 5), (52, .val (.list je bleg12)), (53, .val (.int .i64 (bleg12.length : Int))), (54, vI i46), (55, .val (.bool (decide (i46 < (bleg12.length : Int)))))], [bx 100 [(2, some [.val (.list ja aair2), .val (.list jb adis4)]), (3, some [vS jh, vI jg, vI jd, vI jf, vI jc, .val (.list je bleg12)]), (5, some [.lst true nq 83 pg])]], KK⟩)
theorem Qna (lb n kw : Nat) (ja : Bool) (aair2 : LL) (jb : Bool) (adis4 : LL) (jh : LB) (jg jd jf jc : Int) (je : Bool) (bleg12 : LL) (wT : CV) (i46 qt : Int) (nq : Bool) (pg : LL) :
 QjY lb n kw ja aair2 jb adis4 jh jg jd jf jc je bleg12 wT i46 qt nq pg =
 Qdq lb n kw ja aair2 jb adis4 jh jg jd jf jc je bleg12 wT (IntKind.wrap .i64 (i46 + 1)) nq pg := (Qaf _).trans (by kernel_rfl)
theorem QgS (lb n pf kw : Nat) (ja : Bool) (aair2 : LL) (jb : Bool) (adis4 : LL) (jh : LB) (jg jd jf jc : Int) (je : Bool) (bleg12 : LL) (wT : CV) (i46 : Int) (gh : CV) (oP : Bool × LL) (gO : Int) (yZ : Bool) (l80 : LL) :
 Qfp lb n (pf + 1) kw ja aair2 jb adis4 jh jg jd jf jc je bleg12 wT i46 gh oP gO yZ l80 =
 bif (decide (gO < (oP.2.length : Int))) then
 (optO (CV.asL gh) fun lw =>
 optO (atL lw.2 gO) fun c88 =>
 chkO (c88.length == 1) (
 optO (c88[0]?) fun qA =>
 optO (C lb n QhI [.int .i64 i46]) fun qm =>
 optO (CV.asS qm) fun s91 =>
 chkO (decide (([108, 101, 103, 32] : LB).length + s91.length ≤ 9223372036854775807)) (
 chkO (CV.isCell qA) (
 chkO (room (l80.length + 1) 24) (
 Qfp lb n pf kw ja aair2 jb adis4 jh jg jd jf jc je bleg12 wT i46 gh oP (IntKind.wrap .i64 (gO + 1)) (yZ && false) (l80 ++ [[qA, CV.str (([108, 101, 103, 32] : LB) ++ s91)]]))))))
 else
 (QjY lb n kw ja aair2 jb adis4 jh jg jd jf jc je bleg12 wT i46 i46 yZ l80) := (Qaf _).trans (by kernel_rfl)
noncomputable def QjH (lb n : Nat) (ja : Bool) (aair2 : LL) (jb : Bool) (adis4 : LL) (jh : LB) (jg jd jf jc : Int) (je : Bool) (bleg12 : LL) (wT : CV) (ki : Bool) (l96 : LL) : Option CV :=
 hold (E0 lb n 0 992 (sub (B Qak) [1, 1, 1, 1, 1, 1, 1, 1]) (retK Tryz.prog (R Qak) 0 (outK (Qag Tryz.prog Qak))) ⟨fr 100 [(0, .val (.agg [.list ja aair2, .list jb adis4])), (1, .val (.agg [.str jh, .int .i64 jg, .int .i64 jd, .int .i64 jf, .int .i64 jc, .list je bleg12])), (2, .ptr 0 2 0), (3, .ptr 0 3 0), (4, .lst true true 83 []), (5, .ptr 0 5 0), (6, .clo QaQ [.ptr 0 5 0]), (7, vV wT), (13, .clo QaQ [.ptr 0 5 0])], [bx 100 [(2, some [.val (.list ja aair2), .val (.list jb adis4)]), (3, some [vS jh, vI jg, vI jd, vI jf, vI jc, .val (.list je bleg12)]), (5, some [.lst true ki 83 l96])]], KK⟩)
noncomputable def Qd0 (lb n mr : Nat) (ja : Bool) (aair2 : LL) (jb : Bool) (adis4 : LL) (jh : LB) (jg jd jf jc : Int) (je : Bool) (bleg12 : LL) (wT gb : CV) (gy : Bool × LL) (ki : Bool) (l96 : LL) (ga : Int) : Option CV :=
 hold (Qas (E0 lb n 0 987) 0 (Qad (sub (B Qak) [1, 1, 1, 1, 1, 1, 1, 1, 1, 0, 1, 0, 0]) ++ [12]) [] (sub (B Qak) [1, 1, 1, 1, 1, 1, 1, 1, 1, 0, 1, 0, 0]) (Qaj 4 (seqK (E0 lb n 0 990) (sub (B Qak) [1, 1, 1, 1, 1, 1, 1, 1, 1, 0]) (sub (B Qak) [1, 1, 1, 1, 1, 1, 1, 1, 1, 1]) (retK Tryz.prog (R Qak) 0 (outK (Qag Tryz.prog Qak))))) mr ⟨fr 100 [(0, .val (.agg [.list ja aair2, .list jb adis4])), (1, .val (.agg [.str jh, .int .i64 jg, .int .i64 jd, .int .i64 jf, .int .i64 jc, .list je bleg12])), (2, .ptr 0 2 0), (3, .ptr 0 3 0), (4, .lst true true 83 []), (5, .ptr 0 5 0), (6, .clo QaQ [.ptr 0 5 0]), (7, vV wT), (13, .clo QaQ [.ptr 0 5 0]), (79, .ptr 0 3 2), (80, .val (.agg [.int .i64 jd, .int .i64 jf, .int .i64 jc])), (81, vV gb), (82, .val (.int .i64 (gy.2.length : Int))), (83, vI ga)], [bx 100 [(2, some [.val (.list ja aair2), .val (.list jb adis4)]), (3, some [vS jh, vI jg, vI jd, vI jf, vI jc, .val (.list je bleg12)]), (5, some [.lst true ki 83 l96])]], KK⟩)
noncomputable def QjC (lb n : Nat) (ja : Bool) (aair2 : LL) (jb : Bool) (adis4 : LL) (jh : LB) (jg jd jf jc : Int) (je : Bool) (bleg12 : LL) (wT n8 : CV) (mS : Bool) (gY : LL) : Option CV :=
 hold (E0 lb n 0 990 (sub (B Qak) [1, 1, 1, 1, 1, 1, 1, 1, 1, 1]) (retK Tryz.prog (R Qak) 0 (outK (Qag Tryz.prog Qak))) ⟨fr 100 [(0, .val (.agg [.list ja aair2, .list jb adis4])), (1, .val (.agg [.str jh, .int .i64 jg, .int .i64 jd, .int .i64 jf, .int .i64 jc, .list je bleg12])), (2, .ptr 0 2 0), (3, .ptr 0 3 0), (4, .lst true true 83 []), (5, .ptr 0 5 0), (6, .clo QaQ [.ptr 0 5 0]), (7, vV wT), (12, vV n8), (13, .clo QaQ [.ptr 0 5 0])], [bx 100 [(2, some [.val (.list ja aair2), .val (.list jb adis4)]), (3, some [vS jh, vI jg, vI jd, vI jf, vI jc, .val (.list je bleg12)]), (5, some [.lst true mS 83 gY])]], KK⟩)
theorem Qnx (lb n : Nat) (ja : Bool) (aair2 : LL) (jb : Bool) (adis4 : LL) (jh : LB) (jg jd jf jc : Int) (je : Bool) (bleg12 : LL) (wT n8 : CV) (mS : Bool) (gY : LL) :
 QjC lb n ja aair2 jb adis4 jh jg jd jf jc je bleg12 wT n8 mS gY =
 some (.list mS gY) := (Qaf _).trans (by kernel_rfl)
noncomputable def Qju (lb n : Nat) (ja : Bool) (aair2 : LL) (jb : Bool) (adis4 : LL) (jh : LB) (jg jd jf jc : Int) (je : Bool) (bleg12 : LL) (wT : CV) (ki : Bool) (l96 : LL) : Option CV :=
 hold (E0 lb n 0 990 (sub (B Qak) [1, 1, 1, 1, 1, 1, 1, 1, 1, 1]) (retK Tryz.prog (R Qak) 0 (outK (Qag Tryz.prog Qak))) ⟨fr 100 [(0, .val (.agg [.list ja aair2, .list jb adis4])), (1, .val (.agg [.str jh, .int .i64 jg, .int .i64 jd, .int .i64 jf, .int .i64 jc, .list je bleg12])), (2, .ptr 0 2 0), (3, .ptr 0 3 0), (4, .lst true true 83 []), (5, .ptr 0 5 0), (6, .clo QaQ [.ptr 0 5 0]), (7, vV wT), (13, .clo QaQ [.ptr 0 5 0])], [bx 100 [(2, some [.val (.list ja aair2), .val (.list jb adis4)]), (3, some [vS jh, vI jg, vI jd, vI jf, vI jc, .val (.list je bleg12)]), (5, some [.lst true ki 83 l96])]], KK⟩)
theorem Qmh (lb n : Nat) (ja : Bool) (aair2 : LL) (jb : Bool) (adis4 : LL) (jh : LB) (jg jd jf jc : Int) (je : Bool) (bleg12 : LL) (wT : CV) (ki : Bool) (l96 : LL) :
 Qju lb n ja aair2 jb adis4 jh jg jd jf jc je bleg12 wT ki l96 =
 some (.list ki l96) := (Qaf _).trans (by kernel_rfl)
theorem QgU (lb n mr : Nat) (ja : Bool) (aair2 : LL) (jb : Bool) (adis4 : LL) (jh : LB) (jg jd jf jc : Int) (je : Bool) (bleg12 : LL) (wT gb : CV) (gy : Bool × LL) (ki : Bool) (l96 : LL) (ga : Int) :
 Qd0 lb n (mr + 1) ja aair2 jb adis4 jh jg jd jf jc je bleg12 wT gb gy ki l96 ga =
 bif (decide (ga < (gy.2.length : Int))) then
 (optO (CV.asL gb) fun sT =>
 optO (atL sT.2 ga) fun c116 =>
 chkO (c116.length == 1) (
 optO (c116[0]?) fun nK =>
 optO (C lb n Qbg [.agg [.list ja aair2, .list jb adis4], .list je bleg12, nK]) fun su =>
 optO (CV.asB su) fun o0 =>
 bif (!o0) then
 (optO (C lb n QeR [nK]) fun qZ =>
 optO (CV.asS qZ) fun s121 =>
 chkO (decide (([100, 97, 121, 32] : LB).length + s121.length ≤ 9223372036854775807)) (
 chkO (room (l96.length + 1) 24) (
 QjC lb n ja aair2 jb adis4 jh jg jd jf jc je bleg12 wT nK (ki && false) (l96 ++ [[CV.int .i64 13, CV.str (([100, 97, 121, 32] : LB) ++ s121)]]))))
 else
 (Qd0 lb n mr ja aair2 jb adis4 jh jg jd jf jc je bleg12 wT gb gy ki l96 (IntKind.wrap .i64 (ga + 1)))))
 else
 (Qju lb n ja aair2 jb adis4 jh jg jd jf jc je bleg12 wT ki l96 ) := (Qaf _).trans (by kernel_rfl)
theorem Qm2 (lb n : Nat) (ja : Bool) (aair2 : LL) (jb : Bool) (adis4 : LL) (jh : LB) (jg jd jf jc : Int) (je : Bool) (bleg12 : LL) (wT : CV) (ki : Bool) (l96 : LL) :
 QjH lb n ja aair2 jb adis4 jh jg jd jf jc je bleg12 wT ki l96 =
 bif (decide ((l96.length : Int) > 0)) then
 (some (.list ki l96))
 else
 (optO (C lb n QeV [.agg [.int .i64 jd, .int .i64 jf, .int .i64 jc]]) fun gb =>
 optO (CV.asL gb) fun gy =>
 Qd0 lb n n ja aair2 jb adis4 jh jg jd jf jc je bleg12 wT gb gy ki l96 0) := (Qaf _).trans (by kernel_rfl)
theorem Qg3 (lb n kw : Nat) (ja : Bool) (aair2 : LL) (jb : Bool) (adis4 : LL) (jh : LB) (jg jd jf jc : Int) (je : Bool) (bleg12 : LL) (wT : CV) (i46 : Int) (kI : Bool) (od : LL) :
 Qdq lb n (kw + 1) ja aair2 jb adis4 jh jg jd jf jc je bleg12 wT i46 kI od =
 bif (decide (i46 < (bleg12.length : Int))) then
 (optO (C lb n QbU [.agg [.list ja aair2, .list jb adis4], .list je bleg12, .int .i64 i46]) fun gh =>
 optO (CV.asL gh) fun oP =>
 Qfp lb n n kw ja aair2 jb adis4 jh jg jd jf jc je bleg12 wT i46 gh oP 0 kI od)
 else
 (QjH lb n ja aair2 jb adis4 jh jg jd jf jc je bleg12 wT kI od) := (Qaf _).trans (by kernel_rfl)
theorem Qii (lb n : Nat) (ja : Bool) (aair2 : LL) (jb : Bool) (adis4 : LL) (jh : LB) (jg jd jf jc : Int) (je : Bool) (bleg12 : LL) (wT : CV) (kE : Bool) (l24 : LL) :
 Qfj lb n ja aair2 jb adis4 jh jg jd jf jc je bleg12 wT kE l24 =
 bif ((bleg12.length : Int) == 0) then
 (chkO (room (l24.length + 1) 24) (
 some (.list (kE && false) (l24 ++ [[CV.int .i64 4, CV.str [108, 101, 103, 115]]]))))
 else
 (bif (decide ((bleg12.length : Int) > 6)) then
 (chkO (room (l24.length + 1) 24) (
 some (.list (kE && false) (l24 ++ [[CV.int .i64 4, CV.str [108, 101, 103, 115]]]))))
 else
 (Qdq lb n n ja aair2 jb adis4 jh jg jd jf jc je bleg12 wT 0 kE l24)) := (Qaf _).trans (by kernel_rfl)
theorem Qm9 (lb n : Nat) (ja : Bool) (aair2 : LL) (jb : Bool) (adis4 : LL) (jh : LB) (jg jd jf jc : Int) (je : Bool) (bleg12 : LL) (nu : Bool) (l19 : LL) :
 Qfh lb n ja aair2 jb adis4 jh jg jd jf jc je bleg12 nu l19 =
 optO (C lb n Qbq [.agg [.int .i64 jd, .int .i64 jf, .int .i64 jc]]) fun yz =>
 optO (CV.asI .i64 yz) fun i21 =>
 bif (i21 != 0) then
 (chkO (CV.isCell yz) (
 chkO (room (l19.length + 1) 24) (
 Qfj lb n ja aair2 jb adis4 jh jg jd jf jc je bleg12 yz (nu && false) (l19 ++ [[yz, CV.str [112, 101, 114, 105, 111, 100]]]))))
 else
 (Qfj lb n ja aair2 jb adis4 jh jg jd jf jc je bleg12 yz nu l19) := (Qaf _).trans (by kernel_rfl)
theorem QmT (lb n : Nat) (ja : Bool) (aair2 : LL) (jb : Bool) (adis4 : LL) (jh : LB) (jg jd jf jc : Int) (je : Bool) (bleg12 : LL) (yN : Bool) (l17 : LL) :
 Qg8 lb n ja aair2 jb adis4 jh jg jd jf jc je bleg12 yN l17 =
 bif (decide (jg < 1)) then
 (chkO (room (l17.length + 1) 24) (
 Qfh lb n ja aair2 jb adis4 jh jg jd jf jc je bleg12 (yN && false) (l17 ++ [[CV.int .i64 2, CV.str [110, 117, 109, 98, 101, 114]]])))
 else
 (bif (decide (jg > 9999)) then
 (chkO (room (l17.length + 1) 24) (
 Qfh lb n ja aair2 jb adis4 jh jg jd jf jc je bleg12 (yN && false) (l17 ++ [[CV.int .i64 2, CV.str [110, 117, 109, 98, 101, 114]]])))
 else
 (Qfh lb n ja aair2 jb adis4 jh jg jd jf jc je bleg12 yN l17)) := (Qaf _).trans (by kernel_rfl)
theorem QpY (lb n : Nat) (ja : Bool) (aair2 : LL) (jb : Bool) (adis4 : LL) (jh : LB) (jg jd jf jc : Int) (je : Bool) (bleg12 : LL) :
 top lb n Qak [.agg [.list ja aair2, .list jb adis4], .agg [.str jh, .int .i64 jg, .int .i64 jd, .int .i64 jf, .int .i64 jc, .list je bleg12]] =
 optO (C lb n QhE [.str jh]) fun gz =>
 optO (CV.asB gz) fun m6 =>
 bif (!m6) then
 (Qg8 lb n ja aair2 jb adis4 jh jg jd jf jc je bleg12 false [[CV.int .i64 5, CV.str [99, 97, 114, 114, 105, 101, 114]]])
 else
 (Qg8 lb n ja aair2 jb adis4 jh jg jd jf jc je bleg12 true []) := by kernel_rfl
theorem Qn2 (lb n : Nat) (a1 : Int) :
 top lb n QeR [.int .i64 a1] =
 optO (C lb n QaT [.int .i64 a1]) fun r2 =>
 optO (CV.asT r2) fun t3 =>
 optO (t3[0]?) fun x4 =>
 optO (CV.asT r2) fun t5 =>
 optO (t5[1]?) fun x6 =>
 optO (CV.asT r2) fun t7 =>
 optO (t7[2]?) fun x9 =>
 optO (CV.asI .i64 x4) fun ke =>
 bif (ke == 0) then
 (some (.str []))
 else
 (optO (CV.asI .i64 x4) fun vf =>
 optO (C lb n QdK [.int .i64 (IntKind.wrap .i64 (Int.tdiv vf 100))]) fun y6 =>
 optO (CV.asI .i64 x4) fun vQ =>
 optO (C lb n QdK [.int .i64 (Int.tmod vQ 100)]) fun vX =>
 optO (CV.asS y6) fun s15 =>
 optO (CV.asS vX) fun s17 =>
 chkO (decide (s15.length + s17.length ≤ 9223372036854775807)) (
 chkO (decide ((s15 ++ s17).length + [45].length ≤ 9223372036854775807)) (
 optO (C lb n QdK [x6]) fun gS =>
 optO (CV.asS gS) fun s19 =>
 chkO (decide (((s15 ++ s17) ++ [45]).length + s19.length ≤ 9223372036854775807)) (
 chkO (decide ((((s15 ++ s17) ++ [45]) ++ s19).length + [45].length ≤ 9223372036854775807)) (
 optO (C lb n QdK [x9]) fun yz =>
 optO (CV.asS yz) fun s21 =>
 chkO (decide (((((s15 ++ s17) ++ [45]) ++ s19) ++ [45]).length + s21.length ≤ 9223372036854775807)) (
 some (.str (((((s15 ++ s17) ++ [45]) ++ s19) ++ [45]) ++ s21)))))))) := by kernel_rfl
noncomputable def QeO (lb n k7 : Nat) (a1 i4 : Int) : Option CV :=
 hold (Qas (E0 lb n 0 994) 0 (Qad (sub (B QaT) [1, 1, 1, 0, 0, 0]) ++ []) [] (sub (B QaT) [1, 1, 1, 0, 0, 0]) (Qaj 0 (seqK (E0 lb n 0 996) (sub (B QaT) [1, 1, 1, 0]) (sub (B QaT) [1, 1, 1, 1]) (retK Tryz.prog (R QaT) 0 (outK (Qag Tryz.prog QaT))))) k7 ⟨fr 48 [(0, vI a1), (2, vI 0), (3, vI 0), (4, vI 0), (5, vI i4), (15, vI a1), (16, .val (.int .i64 (IntKind.wrap .i64 (Int.tdiv a1 366)))), (17, .val (.int .i64 (IntKind.wrap .i64 (2000 + (IntKind.wrap .i64 (Int.tdiv a1 366))))))], [bx 48 []], KK⟩)
noncomputable def Qjo (lb n : Nat) (a1 vf : Int) : Option CV :=
 hold (E0 lb n 0 996 (sub (B QaT) [1, 1, 1, 1]) (retK Tryz.prog (R QaT) 0 (outK (Qag Tryz.prog QaT))) ⟨fr 48 [(0, vI a1), (2, vI 0), (3, vI 0), (4, vI 0), (5, vI vf), (15, vI a1), (16, .val (.int .i64 (IntKind.wrap .i64 (Int.tdiv a1 366)))), (17, .val (.int .i64 (IntKind.wrap .i64 (2000 + (IntKind.wrap .i64 (Int.tdiv a1 366))))))], [bx 48 []], KK⟩)
noncomputable def QeN (lb n oG : Nat) (a1 vf : Int) (y6 : CV) (vQ y4 vj : Int) : Option CV :=
 hold (Qas (E0 lb n 0 991) 0 (Qad (sub (B QaT) [1, 1, 1, 1, 1, 0, 1, 0, 0]) ++ [7, 8]) [] (sub (B QaT) [1, 1, 1, 1, 1, 0, 1, 0, 0]) (Qaj 2 (seqK (E0 lb n 0 994) (sub (B QaT) [1, 1, 1, 1, 1, 0]) (sub (B QaT) [1, 1, 1, 1, 1, 1]) (retK Tryz.prog (R QaT) 0 (outK (Qag Tryz.prog QaT))))) oG ⟨fr 48 [(0, vI a1), (2, vI 0), (3, vI 0), (4, vI 0), (5, vI vf), (6, vI y4), (15, vI a1), (16, .val (.int .i64 (IntKind.wrap .i64 (Int.tdiv a1 366)))), (17, .val (.int .i64 (IntKind.wrap .i64 (2000 + (IntKind.wrap .i64 (Int.tdiv a1 366)))))), (25, vI a1), (26, vI vf), (27, vV y6), (28, .val (.int .i64 (IntKind.wrap .i64 (a1 - vQ)))), (29, vI vj)], [bx 48 []], KK⟩)
noncomputable def Qph (lb n : Nat) (a1 vf : Int) (y6 : CV) (vQ oI : Int) : Option CV :=
 hold (E0 lb n 0 994 (sub (B QaT) [1, 1, 1, 1, 1, 1]) (retK Tryz.prog (R QaT) 0 (outK (Qag Tryz.prog QaT))) ⟨fr 48 [(0, vI a1), (2, vI 0), (3, vI 0), (4, vI 0), (5, vI vf), (6, vI oI), (15, vI a1), (16, .val (.int .i64 (IntKind.wrap .i64 (Int.tdiv a1 366)))), (17, .val (.int .i64 (IntKind.wrap .i64 (2000 + (IntKind.wrap .i64 (Int.tdiv a1 366)))))), (25, vI a1), (26, vI vf), (27, vV y6), (28, .val (.int .i64 (IntKind.wrap .i64 (a1 - vQ))))], [bx 48 []], KK⟩)
theorem QgK (lb n oG : Nat) (a1 vf : Int) (y6 : CV) (vQ y4 vj : Int) :
 QeN lb n (oG + 1) a1 vf y6 vQ y4 vj =
 bif (decide (vj < 12)) then
 (optO (C lb n Qej [.int .i64 vf, .int .i64 (IntKind.wrap .i64 (vj + 1))]) fun vO =>
 optO (CV.asI .i64 vO) fun oX =>
 bif (decide (y4 < oX)) then
 (some (.tup [.int .i64 vf, .int .i64 (IntKind.wrap .i64 (vj + 1)), .int .i64 (IntKind.wrap .i64 (y4 + 1))]))
 else
 (optO (CV.asI .i64 vO) fun kp =>
 QeN lb n oG a1 vf y6 vQ (IntKind.wrap .i64 (y4 - kp)) (IntKind.wrap .i64 (vj + 1))))
 else
 (Qph lb n a1 vf y6 vQ y4) := (Qaf _).trans (by kernel_rfl)
theorem Qma (lb n : Nat) (a1 vf : Int) :
 Qjo lb n a1 vf =
 optO (C lb n QeL [.int .i64 vf]) fun y6 =>
 optO (CV.asI .i64 y6) fun vQ =>
 QeN lb n n a1 vf y6 vQ (IntKind.wrap .i64 (a1 - vQ)) 0 := (Qaf _).trans (by kernel_rfl)
theorem QgP (lb n k7 : Nat) (a1 i4 : Int) :
 QeO lb n (k7 + 1) a1 i4 =
 optO (C lb n QeL [.int .i64 (IntKind.wrap .i64 (i4 + 1))]) fun r9 =>
 optO (CV.asI .i64 r9) fun ke =>
 bif (decide (ke ≤ a1)) then
 (QeO lb n k7 a1 (IntKind.wrap .i64 (i4 + 1)))
 else
 (Qjo lb n a1 i4) := (Qaf _).trans (by kernel_rfl)
theorem Qo2 (lb n : Nat) (a1 : Int) :
 top lb n QaT [.int .i64 a1] =
 bif (decide (a1 < 0)) then
 (some (.tup [.int .i64 0, .int .i64 0, .int .i64 0]))
 else
 (bif (decide (a1 ≥ 36525)) then
 (some (.tup [.int .i64 0, .int .i64 0, .int .i64 0]))
 else
 (QeO lb n n a1 (IntKind.wrap .i64 (2000 + (IntKind.wrap .i64 (Int.tdiv a1 366)))))) := by kernel_rfl
theorem Qp9 (lb n : Nat) (a1 : Int) :
 top lb n QdK [.int .i64 a1] =
 optO (bytesOf [[CV.int .u8 (IntKind.wrap .u8 (IntKind.wrap .i64 (48 + (IntKind.wrap .i64 (Int.tdiv a1 10)))))], [CV.int .u8 (IntKind.wrap .u8 (IntKind.wrap .i64 (48 + (Int.tmod a1 10))))]]) fun s2 =>
 some (.str s2) := by kernel_rfl
theorem Qn0 (lb n : Nat) (a1 : Int) :
 top lb n QeL [.int .i64 a1] =
 some (.int .i64 (IntKind.wrap .i64 ((IntKind.wrap .i64 (365 * (IntKind.wrap .i64 (a1 - 2000)))) + (IntKind.wrap .i64 (Int.tdiv (IntKind.wrap .i64 ((IntKind.wrap .i64 (a1 - 2000)) + 3)) 4))))) := by kernel_rfl
theorem Qs8 (lb n : Nat) (a1 : Int) :
 top lb n Qh2 [.int .i64 a1] =
 optO (C lb n Qcy [.int .i64 a1]) fun r2 =>
 optO (CV.asT r2) fun t3 =>
 optO (t3[0]?) fun x4 =>
 optO (CV.asT r2) fun t5 =>
 optO (t5[1]?) fun x6 =>
 optO (CV.asT r2) fun t7 =>
 optO (t7[2]?) fun x9 =>
 optO (CV.asI .i64 x4) fun ke =>
 bif (ke == 0) then
 (some (.str []))
 else
 (optO (CV.asI .i64 x4) fun vf =>
 optO (C lb n QgN [.int .i64 (IntKind.wrap .i64 (Int.tdiv vf 100))]) fun y6 =>
 optO (CV.asI .i64 x4) fun vQ =>
 optO (C lb n QgN [.int .i64 (Int.tmod vQ 100)]) fun vX =>
 optO (CV.asS y6) fun s15 =>
 optO (CV.asS vX) fun s17 =>
 chkO (decide (s15.length + s17.length ≤ 9223372036854775807)) (
 chkO (decide ((s15 ++ s17).length + [45].length ≤ 9223372036854775807)) (
 optO (C lb n QgN [x6]) fun gS =>
 optO (CV.asS gS) fun s19 =>
 chkO (decide (((s15 ++ s17) ++ [45]).length + s19.length ≤ 9223372036854775807)) (
 chkO (decide ((((s15 ++ s17) ++ [45]) ++ s19).length + [45].length ≤ 9223372036854775807)) (
 optO (C lb n QgN [x9]) fun yz =>
 optO (CV.asS yz) fun s21 =>
 chkO (decide (((((s15 ++ s17) ++ [45]) ++ s19) ++ [45]).length + s21.length ≤ 9223372036854775807)) (
 some (.str (((((s15 ++ s17) ++ [45]) ++ s19) ++ [45]) ++ s21)))))))) := by kernel_rfl
noncomputable def Qf8 (lb n kZ : Nat) (yx y4 vj : Int) : Option CV :=
 hold (Qas (E0 lb n 0 994) 0 (Qad (sub (B Qcy) [1, 1, 1, 0, 0, 0]) ++ []) [] (sub (B Qcy) [1, 1, 1, 0, 0, 0]) (Qaj 0 (seqK (E0 lb n 0 996) (sub (B Qcy) [1, 1, 1, 0]) (sub (B Qcy) [1, 1, 1, 1]) (retK Tryz.prog (R Qcy) 0 (outK (Qag Tryz.prog Qcy))))) kZ ⟨fr 33 [(0, vI yx), (2, vI 0), (3, vI 0), (4, vI 0), (5, vI y4), (6, vI vj)], [bx 33 []], KK⟩)
noncomputable def QoD (lb n : Nat) (kD gi y7 : Int) : Option CV :=
 hold (E0 lb n 0 996 (sub (B Qcy) [1, 1, 1, 1]) (retK Tryz.prog (R Qcy) 0 (outK (Qag Tryz.prog Qcy))) ⟨fr 33 [(0, vI kD), (2, vI 0), (3, vI 0), (4, vI 0), (5, vI gi), (6, vI y7)], [bx 33 []], KK⟩)
theorem QqN (lb n : Nat) (kD gi y7 : Int) :
 QoD lb n kD gi y7 =
 some (.tup [.int .i64 gi, .int .i64 y7, .int .i64 (IntKind.wrap .i64 (kD + 1))]) := (Qaf _).trans (by kernel_rfl)
theorem QgA (lb n kZ : Nat) (yx y4 vj : Int) :
 Qf8 lb n (kZ + 1) yx y4 vj =
 optO (C lb n QcO [.int .i64 y4, .int .i64 vj]) fun nb =>
 optO (CV.asI .i64 nb) fun kp =>
 bif (decide (yx ≥ kp)) then
 (optO (C lb n QcO [.int .i64 y4, .int .i64 vj]) fun wI =>
 optO (CV.asI .i64 wI) fun m8 =>
 bif ((IntKind.wrap .i64 (vj + 1)) == 13) then
 (Qf8 lb n kZ  (IntKind.wrap .i64 (yx - m8)) (IntKind.wrap .i64 (y4 + 1)) 1)
 else
 (Qf8 lb n kZ  (IntKind.wrap .i64 (yx - m8)) y4 (IntKind.wrap .i64 (vj + 1))))
 else
 (QoD lb n  yx y4 vj) := (Qaf _).trans (by kernel_rfl)
theorem QuF (lb n : Nat) (a1 : Int) :
 top lb n Qcy [.int .i64 a1] =
 bif (decide (a1 < 0)) then
 (some (.tup [.int .i64 0, .int .i64 0, .int .i64 0]))
 else
 (bif (decide (a1 ≥ 36525)) then
 (some (.tup [.int .i64 0, .int .i64 0, .int .i64 0]))
 else
 (Qf8 lb n n  a1 2000 1)) := by kernel_rfl
theorem Qwo (lb n : Nat) (a1 : Int) :
 top lb n QgN [.int .i64 a1] =
 optO (bytesOf [[CV.int .u8 (IntKind.wrap .u8 (IntKind.wrap .i64 (48 + (IntKind.wrap .i64 (Int.tdiv a1 10)))))], [CV.int .u8 (IntKind.wrap .u8 (IntKind.wrap .i64 (48 + (Int.tmod a1 10))))]]) fun s2 =>
 some (.str s2) := by kernel_rfl
noncomputable def Qe2 (lb n : Nat) (a1 b2 : Int) (b3 : Bool) : Option CV :=
 hold (E0 lb n 0 995 (sub (B QcO) [1, 0, 1, 0, 1]) (Qaj 0 (seqK (E0 lb n 0 998) (sub (B QcO) [1, 0]) (sub (B QcO) [1, 1]) (retK Tryz.prog (R QcO) 0 (outK (Qag Tryz.prog QcO))))) ⟨fr 16 [(0, vI a1), (1, vI b2), (4, vI 0), (5, vI b2), (6, vB b3)], [bx 16 []], KK⟩)
theorem Qo0 (lb n : Nat) (a1 b2 : Int) (b3 : Bool) :
 Qe2 lb n a1 b2 b3 =
 bif b3 then
 (some (.int .i64 30))
 else
 (bif (b2 == 2) then
 (bif ((Int.tmod a1 4) == 0) then
 (some (.int .i64 29))
 else
 (some (.int .i64 28)))
 else
 (some (.int .i64 31))) := (Qaf _).trans (by kernel_rfl)
theorem QsJ (lb n : Nat) (a1 b2 : Int) :
 top lb n QcO [.int .i64 a1, .int .i64 b2] =
 bif (b2 == 4) then
 (Qe2 lb n a1 b2 (b2 == 4))
 else
 (bif (b2 == 6) then
 (Qe2 lb n a1 b2 (b2 == 6))
 else
 (bif (b2 == 9) then
 (Qe2 lb n a1 b2 (b2 == 9))
 else
 (Qe2 lb n a1 b2 (b2 == 11)))) := by kernel_rfl
end Go.Proofs
