/- Equations of functions, printed by program. Conditions: none. -/
import Derived.Test.YtigmcfhmpcajlaaGreatDoorEv
namespace Go.Proofs
open Go.Am
set_option maxRecDepth 100000
set_option linter.unusedVariables false
noncomputable def text_Words_L1 :=
 fun lb n (yO : Nat) a1 x4 x6 r2 (p9 ye : Bool × LL) (l27 : LL) yw =>
 hold (QaR (E0 lb n 0 991) 0 (Qay (sub (B Qav) [1, 1, 1, 1, 1, 0, 1, 0, 0]) ++ [8, 9, 10, 8]) [] (sub (B Qav) [1, 1, 1, 1, 1, 0, 1, 0, 0]) (QaS 0 (seqK (E0 lb n 0 994) (sub (B Qav) [1, 1, 1, 1, 1, 0]) (sub (B Qav) [1, 1, 1, 1, 1, 1]) (retK Tryz.prog (R Qav) 0 (outK (Qan Tryz.prog Qav))))) yO ⟨fr 50 [(0, vS a1), (2, .lst true true 9 []), (3, vI 0), (4, vV x4), (5, vV x6), (6, .lst true false 9 l27), (13, vV r2), (14, vS a1), (15, vV r2), (16, vV x4), (17, vV x6), (20, vV x4), (21, .val (.int .i64 (p9.2.length : Int))), (22, .val (.list false [])), (23, vV x4), (24, .val (.int .i64 (ye.2.length : Int))), (25, vI yw)], [bx 50 []], KK⟩)
noncomputable def QgB (lb n : Nat) (a1 : LB) (x4 x6 r2 : CV) (p9 : Bool × LL) (vn : Bool) (vk : LL) : Option CV :=
 hold (E0 lb n 0 994 (sub (B Qav) [1, 1, 1, 1, 1, 1]) (retK Tryz.prog (R Qav) 0 (outK (Qan Tryz.prog Qav))) ⟨fr 50 [(0, vS a1), (2, .lst true true 9 []), (3, vI 0), (4, vV x4), (5, vV x6), (6, .lst true vn 9 vk), (13, vV r2), (14, vS a1), (15, vV r2), (16, vV x4), (17, vV x6), (20, vV x4), (21, .val (.int .i64 (p9.2.length : Int))), (22, .val (.list false []))], [bx 50 []], KK⟩)
theorem Qim (lb n : Nat) (a1 : LB) (x4 x6 r2 : CV) (p9 : Bool × LL) (vn : Bool) (vk : LL) :
 QgB lb n a1 x4 x6 r2 p9 vn vk =
 some (.tup [.list vn vk, .int .i64 0]) := (Qaj _).trans (by kernel_rfl)
theorem QbL (lb n yO : Nat) (a1 : LB) (x4 x6 r2 : CV) (p9 : Bool × LL) (ye : Bool × LL) (l27 : LL) (yw : Int) :
 text_Words_L1 lb n (yO + 1) a1 x4 x6 r2 p9 ye l27 yw =
 bif (decide (yw < (ye.2.length : Int))) then
 (optO (CV.asL x4) fun ng =>
 optO (atL ng.2 yw) fun c45 =>
 chkO (c45.length == 1) (
 optO (c45[0]?) fun yz =>
 optO (C lb n Qdw [yz]) fun nY =>
 optO (CV.asB nY) fun mO =>
 bif (!mO) then
 (optO (C lb n QaH [yz]) fun jP =>
 optO (CV.asT jP) fun nk =>
 optO (nk[0]?) fun kc =>
 optO (CV.asT jP) fun nP =>
 optO (nP[1]?) fun vU =>
 optO (CV.asI .i64 vU) fun nz =>
 bif (nz != 0) then
 (some (.tup [.list true [], .int .i64 3]))
 else
 (optO (C lb n Qdw [kc]) fun m6 =>
 optO (CV.asB m6) fun nV =>
 bif nV then
 (some (.tup [.list true [], .int .i64 3]))
 else
 (chkO (CV.isCell kc) (
 chkO (room (l27.length + 1) 16) (
 text_Words_L1 lb n yO a1 x4 x6 r2 p9 ye (l27 ++ [[kc]]) (IntKind.wrap .i64 (yw + 1)))))))
 else
 (chkO (CV.isCell yz) (
 chkO (room (l27.length + 1) 16) (
 text_Words_L1 lb n yO a1 x4 x6 r2 p9 ye (l27 ++ [[yz]]) (IntKind.wrap .i64 (yw + 1)))))))
 else
 (QgB lb n a1 x4 x6 r2 p9 false l27) := (Qaj _).trans (by kernel_rfl)
theorem Qkx (lb n : Nat) (a1 : LB) :
 top lb n Qav [.str a1] =
 bif (a1 == []) then
 (some (.tup [.list true [], .int .i64 0]))
 else
 (optO (C lb n Qba [.str a1]) fun r2 =>
 optO (CV.asT r2) fun t3 =>
 optO (t3[0]?) fun x4 =>
 optO (CV.asT r2) fun t5 =>
 optO (t5[1]?) fun x6 =>
 optO (CV.asB x6) fun b7 =>
 bif (!b7) then
 (some (.tup [.list true [], .int .i64 3]))
 else
 (optO (CV.asL x4) fun p9 =>
 chkO (decide (0 ≤ (0 : Int)) && decide ((0 : Int) ≤ ((p9.2.length : Int) : Int)) && decide (((p9.2.length : Int) : Int) * 16 ≤ 140737488355328) && decide (((p9.2.length : Int) : Int) ≤ 140737488355328)) (
 optO (CV.asL x4) fun ye =>
 text_Words_L1 lb n n a1 x4 x6 r2 p9 ye [] 0))) := by kernel_rfl
theorem Qkp (lb n : Nat) (a1 : LB) :
 top lb n Qdw [.str a1] =
 bif (!(a1 == [])) then
 (optO (C lb n QaV [.str a1, .fn Qbk]) fun r2 =>
 some (r2))
 else
 (some (.bool false)) := by kernel_rfl
noncomputable def QaF (lb n wT : Nat) (a1 : LB) (wO : Bool) (l59 : LL) (i60 : Int) (wD wU : Bool) (wb : Nat) : Option CV :=
 hold (QaR (E0 lb n 0 991) 0 (Qay (sub (B Qba) [1, 0, 1, 1, 1, 0, 1, 0, 0]) ++ [8, 9, 16, 23, 25, 31, 36]) [] (sub (B Qba) [1, 0, 1, 1, 1, 0, 1, 0, 0]) (QaS 0 (seqK (E0 lb n 0 994) (sub (B Qba) [1, 0, 1, 1, 1, 0]) (sub (B Qba) [1, 0, 1, 1, 1, 1]) (retK Tryz.prog (R Qba) 0 (outK (Qan Tryz.prog Qba))))) wT ⟨fr 58 [(0, vS a1), (2, .lst true true 9 []), (3, vB false), (4, .lst true wO 9 l59), (5, vI i60), (6, vB wD), (7, vB wU), (10, vS a1), (11, .siter a1 wb)], [bx 58 []], KK⟩)
noncomputable def Qia (lb n : Nat) (a1 : LB) (vh : Bool) (l67 : LL) (i68 : Int) (kf vT : Bool) : Option CV :=
 hold (E0 lb n 0 994 (sub (B Qba) [1, 0, 1, 1, 1, 1]) (retK Tryz.prog (R Qba) 0 (outK (Qan Tryz.prog Qba))) ⟨fr 58 [(0, vS a1), (2, .lst true true 9 []), (3, vB false), (4, .lst true vh 9 l67), (5, vI i68), (6, vB kf), (7, vB vT)], [bx 58 []], KK⟩)
theorem QjW (lb n : Nat) (a1 : LB) (vh : Bool) (l67 : LL) (i68 : Int) (kf vT : Bool) :
 Qia lb n a1 vh l67 i68 kf vT =
 chkO (decide ((0 : Int) ≤ i68 ∧ i68 ≤ (a1.length : Int))) (
 chkO (room (l67.length + 1) 16) (
 some (.tup [.list (vh && false) (l67 ++ [[CV.str ((a1.take ((a1.length : Int).toNat)).drop i68.toNat)]]), .bool true]))) := (Qaj _).trans (by kernel_rfl)
theorem Qbf (lb n wT : Nat) (a1 : LB) (wO : Bool) (l59 : LL) (i60 : Int) (wD wU : Bool) (wb : Nat) :
 QaF lb n (wT + 1) a1 wO l59 i60 wD wU wb =
 bif (decide (wb < a1.length)) then
 (bif (decide ((((Utf8.decode ⟨a1.toArray⟩ wb).1 : Nat) : Int) < 32)) then
 (some (.tup [.list true [], .bool false]))
 else
 (bif (decide ((((Utf8.decode ⟨a1.toArray⟩ wb).1 : Nat) : Int) > 126)) then
 (some (.tup [.list true [], .bool false]))
 else
 (bif wU then
 (QaF lb n wT a1 wO l59 i60 wD false (wb + (Utf8.decode ⟨a1.toArray⟩ wb).2))
 else
 (bif wD then
 (bif ((((Utf8.decode ⟨a1.toArray⟩ wb).1 : Nat) : Int) == 92) then
 (QaF lb n wT a1 wO l59 i60 wD true (wb + (Utf8.decode ⟨a1.toArray⟩ wb).2))
 else
 (bif ((((Utf8.decode ⟨a1.toArray⟩ wb).1 : Nat) : Int) == 34) then
 (QaF lb n wT a1 wO l59 i60 (!wD) wU (wb + (Utf8.decode ⟨a1.toArray⟩ wb).2))
 else
 (bif ((((Utf8.decode ⟨a1.toArray⟩ wb).1 : Nat) : Int) == 32) then
 (bif (!wD) then
 (chkO (decide ((0 : Int) ≤ ((wb : Nat) : Int) ∧ ((wb : Nat) : Int) ≤ (a1.length : Int))) (
 chkO (decide ((0 : Int) ≤ i60 ∧ i60 ≤ ((wb : Nat) : Int))) (
 chkO (room (l59.length + 1) 16) (
 QaF lb n wT a1 (wO && false) (l59 ++ [[CV.str ((a1.take (((wb : Nat) : Int).toNat)).drop i60.toNat)]]) (IntKind.wrap .i64 (((wb : Nat) : Int) + 1)) wD wU (wb + (Utf8.decode ⟨a1.toArray⟩ wb).2)))))
 else
 (QaF lb n wT a1 wO l59 i60 wD wU (wb + (Utf8.decode ⟨a1.toArray⟩ wb).2)))
 else
 (QaF lb n wT a1 wO l59 i60 wD wU (wb + (Utf8.decode ⟨a1.toArray⟩ wb).2)))))
 else
 (bif ((((Utf8.decode ⟨a1.toArray⟩ wb).1 : Nat) : Int) == 34) then
 (QaF lb n wT a1 wO l59 i60 (!wD) wU (wb + (Utf8.decode ⟨a1.toArray⟩ wb).2))
 else
 (bif ((((Utf8.decode ⟨a1.toArray⟩ wb).1 : Nat) : Int) == 32) then
 (bif (!wD) then
 (chkO (decide ((0 : Int) ≤ ((wb : Nat) : Int) ∧ ((wb : Nat) : Int) ≤ (a1.length : Int))) (
 chkO (decide ((0 : Int) ≤ i60 ∧ i60 ≤ ((wb : Nat) : Int))) (
 chkO (room (l59.length + 1) 16) (
 QaF lb n wT a1 (wO && false) (l59 ++ [[CV.str ((a1.take (((wb : Nat) : Int).toNat)).drop i60.toNat)]]) (IntKind.wrap .i64 (((wb : Nat) : Int) + 1)) wD wU (wb + (Utf8.decode ⟨a1.toArray⟩ wb).2)))))
 else
 (QaF lb n wT a1 wO l59 i60 wD wU (wb + (Utf8.decode ⟨a1.toArray⟩ wb).2)))
 else
 (QaF lb n wT a1 wO l59 i60 wD wU (wb + (Utf8.decode ⟨a1.toArray⟩ wb).2))))))))
 else
 (Qia lb n a1 wO l59 i60 wD wU) := (Qaj _).trans (by kernel_rfl)
theorem Ql5 (lb n : Nat) (a1 : LB) :
 top lb n Qba [.str a1] =
 QaF lb n n a1 true [] 0 false false 0 := by kernel_rfl
noncomputable def Qb9 (lb n yI : Nat) (a1 : LB) (l15 : LL) (wX : Int) : Option CV :=
 hold (QaR (E0 lb n 0 992) 0 (Qay (sub (B QaH) [1, 1, 1, 1, 0, 1, 0, 0]) ++ [7, 8, 9, 7]) [] (sub (B QaH) [1, 1, 1, 1, 0, 1, 0, 0]) (QaS 0 (seqK (E0 lb n 0 995) (sub (B QaH) [1, 1, 1, 1, 0]) (sub (B QaH) [1, 1, 1, 1, 1]) (retK Tryz.prog (R QaH) 0 (outK (Qan Tryz.prog QaH))))) yI ⟨fr 75 [(0, vS a1), (2, .val (.str [])), (3, vI 0), (4, .val (.str ((a1.take ((IntKind.wrap .i64 ((a1.length : Int) - 1)).toNat)).drop 1))), (5, .lst true false 5 l15), (6, vI wX), (26, vS a1), (27, vS a1), (28, .val (.int .i64 (a1.length : Int))), (29, .val (.int .i64 (IntKind.wrap .i64 ((a1.length : Int) - 1)))), (30, .val (.str ((a1.take ((IntKind.wrap .i64 ((a1.length : Int) - 1)).toNat)).drop 1))), (31, .val (.str ((a1.take ((IntKind.wrap .i64 ((a1.length : Int) - 1)).toNat)).drop 1))), (32, .val (.int .i64 (((a1.take ((IntKind.wrap .i64 ((a1.length : Int) - 1)).toNat)).drop 1).length : Int))), (33, .val (.list false []))], [bx 75 []], KK⟩)
noncomputable def Qfc (lb n : Nat) (a1 : LB) (vY : Bool) (vq : LL) (kg : Int) : Option CV :=
 hold (E0 lb n 0 995 (sub (B QaH) [1, 1, 1, 1, 1]) (retK Tryz.prog (R QaH) 0 (outK (Qan Tryz.prog QaH))) ⟨fr 75 [(0, vS a1), (2, .val (.str [])), (3, vI 0), (4, .val (.str ((a1.take ((IntKind.wrap .i64 ((a1.length : Int) - 1)).toNat)).drop 1))), (5, .lst true vY 5 vq), (6, vI kg), (26, vS a1), (27, vS a1), (28, .val (.int .i64 (a1.length : Int))), (29, .val (.int .i64 (IntKind.wrap .i64 ((a1.length : Int) - 1)))), (30, .val (.str ((a1.take ((IntKind.wrap .i64 ((a1.length : Int) - 1)).toNat)).drop 1))), (31, .val (.str ((a1.take ((IntKind.wrap .i64 ((a1.length : Int) - 1)).toNat)).drop 1))), (32, .val (.int .i64 (((a1.take ((IntKind.wrap .i64 ((a1.length : Int) - 1)).toNat)).drop 1).length : Int))), (33, .val (.list false []))], [bx 75 []], KK⟩)
theorem Qhf (lb n : Nat) (a1 : LB) (vY : Bool) (vq : LL) (kg : Int) :
 Qfc lb n a1 vY vq kg =
 optO (bytesOf vq) fun mS =>
 some (.tup [.str mS, .int .i64 0]) := (Qaj _).trans (by kernel_rfl)
theorem Qbq (lb n yI : Nat) (a1 : LB) (l15 : LL) (wX : Int) :
 Qb9 lb n (yI + 1) a1 l15 wX =
 bif (decide (wX < (((a1.take ((IntKind.wrap .i64 ((a1.length : Int) - 1)).toNat)).drop 1).length : Int))) then
 (optO (atS ((a1.take ((IntKind.wrap .i64 ((a1.length : Int) - 1)).toNat)).drop 1) wX) fun c27 =>
 bif ((c27.toNat : Int) == 34) then
 (some (.tup [.str [], .int .i64 3]))
 else
 (bif (decide ((c27.toNat : Int) < 32)) then
 (some (.tup [.str [], .int .i64 3]))
 else
 (bif (decide ((c27.toNat : Int) > 126)) then
 (some (.tup [.str [], .int .i64 3]))
 else
 (bif ((c27.toNat : Int) == 92) then
 (chkO (decide ((0 : Int) ≤ (IntKind.wrap .i64 (wX + 1)) ∧ (IntKind.wrap .i64 (wX + 1)) ≤ (((a1.take ((IntKind.wrap .i64 ((a1.length : Int) - 1)).toNat)).drop 1).length : Int))) (
 optO (C lb n Qep [.str ((((a1.take ((IntKind.wrap .i64 ((a1.length : Int) - 1)).toNat)).drop 1).take ((((a1.take ((IntKind.wrap .i64 ((a1.length : Int) - 1)).toNat)).drop 1).length : Int).toNat)).drop ((IntKind.wrap .i64 (wX + 1)).toNat))]) fun vl =>
 optO (CV.asT vl) fun mW =>
 optO (mW[0]?) fun jx =>
 optO (CV.asT vl) fun t31 =>
 optO (t31[1]?) fun jy =>
 optO (CV.asI .i64 jy) fun na =>
 bif (na == 0) then
 (some (.tup [.str [], .int .i64 3]))
 else
 (optO (CV.asI .i64 jy) fun np =>
 chkO (CV.isCell jx) (
 chkO (room (l15.length + 1) 1) (
 Qb9 lb n yI a1 (l15 ++ [[jx]]) (IntKind.wrap .i64 ((IntKind.wrap .i64 (wX + np)) + 1)))))))
 else
 (chkO (room (l15.length + 1) 1) (
 Qb9 lb n yI a1 (l15 ++ [[CV.int .u8 (c27.toNat : Int)]]) (IntKind.wrap .i64 (wX + 1))))))))
 else
 (Qfc lb n a1 false l15 wX) := (Qaj _).trans (by kernel_rfl)
theorem Qi3 (lb n : Nat) (a1 : LB) :
 top lb n QaH [.str a1] =
 bif (decide ((a1.length : Int) < 2)) then
 (some (.tup [.str [], .int .i64 3]))
 else
 (optO (atS a1 0) fun c2 =>
 bif ((c2.toNat : Int) != 34) then
 (some (.tup [.str [], .int .i64 3]))
 else
 (optO (atS a1 (IntKind.wrap .i64 ((a1.length : Int) - 1))) fun c3 =>
 bif ((c3.toNat : Int) != 34) then
 (some (.tup [.str [], .int .i64 3]))
 else
 (chkO (decide ((0 : Int) ≤ (IntKind.wrap .i64 ((a1.length : Int) - 1)) ∧ (IntKind.wrap .i64 ((a1.length : Int) - 1)) ≤ (a1.length : Int))) (
 chkO (decide ((0 : Int) ≤ 1 ∧ 1 ≤ (IntKind.wrap .i64 ((a1.length : Int) - 1)))) (
 chkO (decide (0 ≤ (0 : Int)) && decide ((0 : Int) ≤ ((((a1.take ((IntKind.wrap .i64 ((a1.length : Int) - 1)).toNat)).drop 1).length : Int) : Int)) && decide (((((a1.take ((IntKind.wrap .i64 ((a1.length : Int) - 1)).toNat)).drop 1).length : Int) : Int) * 1 ≤ 140737488355328) && decide (((((a1.take ((IntKind.wrap .i64 ((a1.length : Int) - 1)).toNat)).drop 1).length : Int) : Int) ≤ 140737488355328)) (
 Qb9 lb n n a1 [] 0)))))) := by kernel_rfl
theorem QiV (lb n : Nat) (a1 : Int) :
 top lb n Qbk [.int .u8 a1] =
 bif (decide (a1 > 32)) then
 (bif (decide (a1 ≤ 126)) then
 (some (.bool (a1 != 34)))
 else
 (some (.bool false)))
 else
 (some (.bool false)) := by kernel_rfl
theorem QjK (lb n : Nat) (a1 : LB) :
 top lb n Qep [.str a1] =
 bif (a1 == []) then
 (some (.tup [.int .u8 0, .int .i64 0]))
 else
 (optO (atS a1 0) fun c2 =>
 bif ((c2.toNat : Int) == 34) then
 (optO (atS a1 0) fun c3 =>
 some (.tup [.int .u8 (c3.toNat : Int), .int .i64 1]))
 else
 (optO (atS a1 0) fun c4 =>
 bif ((c4.toNat : Int) == 92) then
 (optO (atS a1 0) fun c5 =>
 some (.tup [.int .u8 (c5.toNat : Int), .int .i64 1]))
 else
 (optO (atS a1 0) fun c6 =>
 bif ((c6.toNat : Int) != 120) then
 (some (.tup [.int .u8 0, .int .i64 0]))
 else
 (bif (decide ((a1.length : Int) < 3)) then
 (some (.tup [.int .u8 0, .int .i64 0]))
 else
 (optO (atS a1 1) fun c7 =>
 optO (C lb n QbA [.str [48, 49, 50, 51, 52, 53, 54, 55, 56, 57, 97, 98, 99, 100, 101, 102], .int .u8 (c7.toNat : Int)]) fun r9 =>
 optO (atS a1 2) fun c10 =>
 optO (C lb n QbA [.str [48, 49, 50, 51, 52, 53, 54, 55, 56, 57, 97, 98, 99, 100, 101, 102], .int .u8 (c10.toNat : Int)]) fun yB =>
 optO (CV.asI .i64 r9) fun nv =>
 bif (decide (nv < 0)) then
 (some (.tup [.int .u8 0, .int .i64 0]))
 else
 (optO (CV.asI .i64 yB) fun yc =>
 bif (decide (yc < 0)) then
 (some (.tup [.int .u8 0, .int .i64 0]))
 else
 (optO (CV.asI .i64 r9) fun wW =>
 optO (CV.asI .i64 yB) fun vg =>
 bif (decide ((IntKind.wrap .u8 (IntKind.wrap .i64 ((BitVec.ofInt 64 (IntKind.wrap .i64 (wW * 2 ^ 4)) ||| BitVec.ofInt 64 vg).toNat))) ≥ 32)) then
 (bif (decide ((IntKind.wrap .u8 (IntKind.wrap .i64 ((BitVec.ofInt 64 (IntKind.wrap .i64 (wW * 2 ^ 4)) ||| BitVec.ofInt 64 vg).toNat))) ≤ 126)) then
 (some (.tup [.int .u8 0, .int .i64 0]))
 else
 (some (.tup [.int .u8 (IntKind.wrap .u8 (IntKind.wrap .i64 ((BitVec.ofInt 64 (IntKind.wrap .i64 (wW * 2 ^ 4)) ||| BitVec.ofInt 64 vg).toNat))), .int .i64 3])))
 else
 (some (.tup [.int .u8 (IntKind.wrap .u8 (IntKind.wrap .i64 ((BitVec.ofInt 64 (IntKind.wrap .i64 (wW * 2 ^ 4)) ||| BitVec.ofInt 64 vg).toNat))), .int .i64 3]))))))))) := by kernel_rfl
noncomputable def Qbe (lb n vu : Nat) (a1 : LB) (i5 : Int) : Option CV :=
 hold (QaR (E0 lb n 0 995) 0 (Qay (sub (B QaV) [1, 0, 1, 0, 0]) ++ [5]) [] (sub (B QaV) [1, 0, 1, 0, 0]) (QaS 0 (seqK (E0 lb n 0 998) (sub (B QaV) [1, 0]) (sub (B QaV) [1, 1]) (retK Tryz.prog (R QaV) 0 (outK (Qan Tryz.prog QaV))))) vu ⟨fr 18 [(0, vS a1), (1, .val (.fn Qbk)), (4, vB false), (6, vS a1), (7, .val (.int .i64 (a1.length : Int))), (8, vI i5)], [bx 18 []], KK⟩)
noncomputable def Qcx (lb n : Nat) (a1 : LB) : Option CV :=
 hold (E0 lb n 0 998 (sub (B QaV) [1, 1]) (retK Tryz.prog (R QaV) 0 (outK (Qan Tryz.prog QaV))) ⟨fr 18 [(0, vS a1), (1, .val (.fn Qbk)), (4, vB false)], [bx 18 []], KK⟩)
theorem QdG (lb n : Nat) (a1 : LB) :
 Qcx lb n a1 =
 some (.bool true) := (Qaj _).trans (by kernel_rfl)
theorem Qb3 (lb n vu : Nat) (a1 : LB) (i5 : Int) :
 Qbe lb n (vu + 1) a1 i5 =
 bif (decide (i5 < (a1.length : Int))) then
 (optO (atS a1 i5) fun c11 =>
 optO (C lb n Qbk [.int .u8 (c11.toNat : Int)]) fun nJ =>
 optO (CV.asB nJ) fun nN =>
 bif (!nN) then
 (some (.bool false))
 else
 (Qbe lb n vu a1 (IntKind.wrap .i64 (i5 + 1))))
 else
 (Qcx lb n a1 ) := (Qaj _).trans (by kernel_rfl)
theorem Qen (lb n : Nat) (a1 : LB) :
 top lb n QaV [.str a1, .fn Qbk] =
 Qbe lb n n a1 0 := by kernel_rfl
end Go.Proofs
