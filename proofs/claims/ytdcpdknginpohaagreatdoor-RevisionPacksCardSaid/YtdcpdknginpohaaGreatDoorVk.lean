/- Equations of functions, printed by program. Conditions: none. -/
import Derived.Test.YtdcpdknginpohaaGreatDoorEv
namespace Go.Proofs
open Go.Am
set_option maxRecDepth 100000
set_option linter.unusedVariables false
noncomputable def revision_step_L1 :=
 fun lb n (w3 : Nat) (jh : Bool) (a2 : LL) i98 =>
 hold (Qas (E0 lb n 0 995) 0 (Qag (sub (B Qai) [1, 0, 1, 0, 0]) ++ [4, 6, 8, 9, 6]) [5, 7] (sub (B Qai) [1, 0, 1, 0, 0]) (Qaj 0 (seqK (E0 lb n 0 998) (sub (B Qai) [1, 0]) (sub (B Qai) [1, 1]) (retK Tryz.prog (R Qai) 0 (outK (Qaf Tryz.prog Qai))))) w3 ⟨fr 48 [(0, .val (.list jh a2)), (2, .lst true true 42 []), (3, vB false), (10, .val (.list jh a2)), (11, .val (.int .i64 (a2.length : Int))), (12, vI i98)], [bx 48 []], KK⟩)
noncomputable def Qdm (lb n ke w3 : Nat) (jh : Bool) (a2 : LL) (i98 : Int) (c192 : List CV) (yv yu yw yx yt yy : CV) (i227 : Int) : Option CV :=
 hold (Qas (E0 lb n 0 987) 0 (Qag (sub (B Qai) [1, 0, 1, 0, 0, 1, 1, 0, 0, 1, 1, 0, 0]) ++ [8, 9]) [7] (sub (B Qai) [1, 0, 1, 0, 0, 1, 1, 0, 0, 1, 1, 0, 0]) (Qaj 2 (Qaj 1 (seqK (E0 lb n 0 992) (sub (B Qai) [1, 0, 1, 0, 0, 1, 1, 0]) (sub (B Qai) [1, 0, 1, 0, 0, 1, 1, 1]) (QbO 0 (Qag (sub (B Qai) [1, 0, 1, 0, 0]) ++ [4, 6, 8, 9, 6]) [5, 7] (Qas (E0 lb n 0 995) 0 (Qag (sub (B Qai) [1, 0, 1, 0, 0]) ++ [4, 6, 8, 9, 6]) [5, 7] (sub (B Qai) [1, 0, 1, 0, 0]) (Qaj 0 (seqK (E0 lb n 0 998) (sub (B Qai) [1, 0]) (sub (B Qai) [1, 1]) (retK Tryz.prog (R Qai) 0 (outK (Qaf Tryz.prog Qai))))) w3) (Qaj 0 (seqK (E0 lb n 0 998) (sub (B Qai) [1, 0]) (sub (B Qai) [1, 1]) (retK Tryz.prog (R Qai) 0 (outK (Qaf Tryz.prog Qai))))))))) ke ⟨fr 48 [(0, .val (.list jh a2)), (2, .lst true true 42 []), (3, vB false), (4, vI i98), (5, .ptr 0 5 0), (6, vI i227), (10, .val (.list jh a2)), (11, .val (.int .i64 (a2.length : Int))), (12, vI i98), (13, .val (.bool (decide (i98 < (a2.length : Int))))), (14, vI i98), (15, .cptr c192 0), (16, .val (.agg [yv, yu, yw, yx, yt, yy])), (17, vI i98), (18, .val (.int .i64 (IntKind.wrap .i64 (i98 + 1))))], [bx 48 [(5, some [.val yv, .val yu, .val yw, .val yx, .val yt, .val yy])]], KK⟩)
noncomputable def Qhf (lb n w3 : Nat) (jh : Bool) (a2 : LL) (i98 oe kZ : Int) (kY oo kX ol ot oc : CV) : Option CV :=
 hold (E0 lb n 0 992 (sub (B Qai) [1, 0, 1, 0, 0, 1, 1, 1]) (QbO 0 (Qag (sub (B Qai) [1, 0, 1, 0, 0]) ++ [4, 6, 8, 9, 6]) [5, 7] (Qas (E0 lb n 0 995) 0 (Qag (sub (B Qai) [1, 0, 1, 0, 0]) ++ [4, 6, 8, 9, 6]) [5, 7] (sub (B Qai) [1, 0, 1, 0, 0]) (Qaj 0 (seqK (E0 lb n 0 998) (sub (B Qai) [1, 0]) (sub (B Qai) [1, 1]) (retK Tryz.prog (R Qai) 0 (outK (Qaf Tryz.prog Qai))))) w3) (Qaj 0 (seqK (E0 lb n 0 998) (sub (B Qai) [1, 0]) (sub (B Qai) [1, 1]) (retK Tryz.prog (R Qai) 0 (outK (Qaf Tryz.prog Qai)))))) ⟨fr 48 [(0, .val (.list jh a2)), (2, .lst true true 42 []), (3, vB false), (4, vI oe), (6, vI kZ), (10, .val (.list jh a2)), (11, .val (.int .i64 (a2.length : Int))), (12, vI i98), (13, .val (.bool (decide (i98 < (a2.length : Int)))))], [bx 48 [(5, some [.val kY, .val oo, .val kX, .val ol, .val ot, .val oc])]], KK⟩)
theorem Qj3 (lb n w3 : Nat) (jh : Bool) (a2 : LL) (i98 oe kZ : Int) (kY oo kX ol ot oc : CV) :
 Qhf lb n w3 jh a2 i98 oe kZ kY oo kX ol ot oc =
 revision_step_L1 lb n w3 jh a2 (IntKind.wrap .i64 (i98 + 1)) := (Qad _).trans (by kernel_rfl)
theorem Qe3 (lb n ke w3 : Nat) (jh : Bool) (a2 : LL) (i98 : Int) (c192 : List CV) (yv yu yw yx yt yy : CV) (i227 : Int) :
 Qdm lb n (ke + 1) w3 jh a2 i98 c192 yv yu yw yx yt yy i227 =
 bif (decide (i227 < (a2.length : Int))) then
 (optO (atL a2 i227) fun c257 =>
 chkO (c257.length == 6) (
 optO (c257[0]?) fun gV =>
 optO (c257[1]?) fun nk =>
 optO (c257[2]?) fun mA =>
 optO (c257[3]?) fun m6 =>
 optO (c257[4]?) fun mC =>
 optO (c257[5]?) fun nm =>
 optO (C lb n Qem [.agg [yv, yu, yw, yx, yt, yy], .agg [gV, nk, mA, m6, mC, nm]]) fun gc =>
 optO (CV.asT gc) fun m8 =>
 optO (m8[0]?) fun nq =>
 optO (CV.asT gc) fun me =>
 optO (me[1]?) fun nx =>
 optO (CV.asA nq) fun c269 =>
 chkO (c269.length == 6) (
 optO (c269[0]?) fun vX =>
 optO (c269[1]?) fun v6 =>
 optO (c269[2]?) fun kc =>
 optO (c269[3]?) fun kg =>
 optO (c269[4]?) fun vU =>
 optO (c269[5]?) fun kj =>
 optO (CV.asB nx) fun nd =>
 bif nd then
 (bif jh then
 (optO (C lb n Qdw [.list true [], .int .i64 i227, .int .i64 (IntKind.wrap .i64 (i227 + 1))]) fun md =>
 optO (CV.asL md) fun mo =>
 optO (atL mo.2 i98) fun c279 =>
 chkO (c279.length == 6) (
 none))
 else
 (chkO (a2.all (·.length == 6)) (
 chkO (room a2.length 72) (
 bif a2.isEmpty then
 (optO (C lb n Qdw [.list false [], .int .i64 i227, .int .i64 (IntKind.wrap .i64 (i227 + 1))]) fun mP =>
 optO (CV.asL mP) fun mY =>
 optO (atL mY.2 i98) fun c282 =>
 chkO (c282.length == 6) (
 none))
 else
 (chkO (decide ((0 : Int) ≤ ((a2.length : Nat) : Int) ∧ ((a2.length : Nat) : Int) ≤ ((a2.length : Nat) : Int))) (
 chkO (decide ((0 : Int) ≤ (IntKind.wrap .i64 (i227 + 1)) ∧ (IntKind.wrap .i64 (i227 + 1)) ≤ ((a2.length : Nat) : Int))) (
 chkO (decide ((0 : Int) ≤ i227 ∧ i227 ≤ (IntKind.wrap .i64 (i227 + 1)))) (
 bif (i227 == (IntKind.wrap .i64 (i227 + 1))) then
 (chkO ((decide (0 ≤ (i98 : Int))) && (decide ((i98 : Int) < ((a2.length : Nat) : Int)))) (
 optO (a2[0 + i98.toNat]?) fun c283 =>
 chkO (decide ((6 : Nat) ≤ c283.length)) (
 chkO (decide ((0 + a2.length) ≤ ((setN a2 (0 + i98.toNat) (QbA c283 0 [vX, v6, kc, kg, vU, kj])).length))) (
 some (.tup [.list false (((setN a2 (0 + i98.toNat) (QbA c283 0 [vX, v6, kc, kg, vU, kj])).drop 0).take a2.length), .bool true])))))
 else
 (chkO (decide ((0 : Int) ≤ i227 ∧ i227 ≤ ((a2.length : Nat) : Int))) (
 chkO (decide ((0 : Int) ≤ (IntKind.wrap .i64 (i227 + 1)) ∧ (IntKind.wrap .i64 (i227 + 1)) ≤ ((a2.length : Nat) : Int))) (
 chkO (decide (((0 + ((IntKind.wrap .i64 (i227 + 1)).toNat)) + ((((a2.length : Nat) : Int).toNat) - ((IntKind.wrap .i64 (i227 + 1)).toNat))) ≤ a2.length)) (
 chkO ((decide (((0 + (i227.toNat - 0)) + (((a2.drop (0 + ((IntKind.wrap .i64 (i227 + 1)).toNat))).take ((((a2.length : Nat) : Int).toNat) - ((IntKind.wrap .i64 (i227 + 1)).toNat))).length)) ≤ a2.length)) && (decide (((i227.toNat - 0) + (((a2.drop (0 + ((IntKind.wrap .i64 (i227 + 1)).toNat))).take ((((a2.length : Nat) : Int).toNat) - ((IntKind.wrap .i64 (i227 + 1)).toNat))).length)) ≤ (a2.length - 0)))) (
 chkO (((a2.drop (0 + ((IntKind.wrap .i64 (i227 + 1)).toNat))).take ((((a2.length : Nat) : Int).toNat) - ((IntKind.wrap .i64 (i227 + 1)).toNat))).all (·.length == 6)) (
 chkO (decide ((0 : Int) ≤ ((a2.length : Nat) : Int) ∧ ((a2.length : Nat) : Int) ≤ ((a2.length - 0 : Nat) : Int))) (
 chkO (decide ((0 : Int) ≤ (((i227.toNat - 0) + (((a2.drop (0 + ((IntKind.wrap .i64 (i227 + 1)).toNat))).take ((((a2.length : Nat) : Int).toNat) - ((IntKind.wrap .i64 (i227 + 1)).toNat))).length) : Nat) : Int) ∧ (((i227.toNat - 0) + (((a2.drop (0 + ((IntKind.wrap .i64 (i227 + 1)).toNat))).take ((((a2.length : Nat) : Int).toNat) - ((IntKind.wrap .i64 (i227 + 1)).toNat))).length) : Nat) : Int) ≤ ((a2.length : Nat) : Int))) (
 chkO (decide (((0 + ((((i227.toNat - 0) + (((a2.drop (0 + ((IntKind.wrap .i64 (i227 + 1)).toNat))).take ((((a2.length : Nat) : Int).toNat) - ((IntKind.wrap .i64 (i227 + 1)).toNat))).length) : Nat) : Int).toNat)) + ((((a2.length : Nat) : Int).toNat) - ((((i227.toNat - 0) + (((a2.drop (0 + ((IntKind.wrap .i64 (i227 + 1)).toNat))).take ((((a2.length : Nat) : Int).toNat) - ((IntKind.wrap .i64 (i227 + 1)).toNat))).length) : Nat) : Int).toNat))) ≤ ((QbY a2 (0 + (i227.toNat - 0)) ((a2.drop (0 + ((IntKind.wrap .i64 (i227 + 1)).toNat))).take ((((a2.length : Nat) : Int).toNat) - ((IntKind.wrap .i64 (i227 + 1)).toNat)))).length))) (
 chkO ((decide (0 ≤ (i98 : Int))) && (decide ((i98 : Int) < ((((i227.toNat - 0) + (((a2.drop (0 + ((IntKind.wrap .i64 (i227 + 1)).toNat))).take ((((a2.length : Nat) : Int).toNat) - ((IntKind.wrap .i64 (i227 + 1)).toNat))).length)) : Nat) : Int)))) (
 optO ((QbY (QbY a2 (0 + (i227.toNat - 0)) ((a2.drop (0 + ((IntKind.wrap .i64 (i227 + 1)).toNat))).take ((((a2.length : Nat) : Int).toNat) - ((IntKind.wrap .i64 (i227 + 1)).toNat)))) (0 + ((((i227.toNat - 0) + (((a2.drop (0 + ((IntKind.wrap .i64 (i227 + 1)).toNat))).take ((((a2.length : Nat) : Int).toNat) - ((IntKind.wrap .i64 (i227 + 1)).toNat))).length) : Nat) : Int).toNat)) (List.replicate ((((a2.length : Nat) : Int).toNat) - ((((i227.toNat - 0) + (((a2.drop (0 + ((IntKind.wrap .i64 (i227 + 1)).toNat))).take ((((a2.length : Nat) : Int).toNat) - ((IntKind.wrap .i64 (i227 + 1)).toNat))).length) : Nat) : Int).toNat)) [.str [], .int .i64 0, .int .i64 0, .int .i64 0, .int .i64 0, .list true []]))[0 + i98.toNat]?) fun c284 =>
 chkO (decide ((6 : Nat) ≤ c284.length)) (
 chkO (decide ((0 + ((i227.toNat - 0) + (((a2.drop (0 + ((IntKind.wrap .i64 (i227 + 1)).toNat))).take ((((a2.length : Nat) : Int).toNat) - ((IntKind.wrap .i64 (i227 + 1)).toNat))).length))) ≤ ((setN (QbY (QbY a2 (0 + (i227.toNat - 0)) ((a2.drop (0 + ((IntKind.wrap .i64 (i227 + 1)).toNat))).take ((((a2.length : Nat) : Int).toNat) - ((IntKind.wrap .i64 (i227 + 1)).toNat)))) (0 + ((((i227.toNat - 0) + (((a2.drop (0 + ((IntKind.wrap .i64 (i227 + 1)).toNat))).take ((((a2.length : Nat) : Int).toNat) - ((IntKind.wrap .i64 (i227 + 1)).toNat))).length) : Nat) : Int).toNat)) (List.replicate ((((a2.length : Nat) : Int).toNat) - ((((i227.toNat - 0) + (((a2.drop (0 + ((IntKind.wrap .i64 (i227 + 1)).toNat))).take ((((a2.length : Nat) : Int).toNat) - ((IntKind.wrap .i64 (i227 + 1)).toNat))).length) : Nat) : Int).toNat)) [.str [], .int .i64 0, .int .i64 0, .int .i64 0, .int .i64 0, .list true []])) (0 + i98.toNat) (QbA c284 0 [vX, v6, kc, kg, vU, kj])).length))) (
 some (.tup [.list false (((setN (QbY (QbY a2 (0 + (i227.toNat - 0)) ((a2.drop (0 + ((IntKind.wrap .i64 (i227 + 1)).toNat))).take ((((a2.length : Nat) : Int).toNat) - ((IntKind.wrap .i64 (i227 + 1)).toNat)))) (0 + ((((i227.toNat - 0) + (((a2.drop (0 + ((IntKind.wrap .i64 (i227 + 1)).toNat))).take ((((a2.length : Nat) : Int).toNat) - ((IntKind.wrap .i64 (i227 + 1)).toNat))).length) : Nat) : Int).toNat)) (List.replicate ((((a2.length : Nat) : Int).toNat) - ((((i227.toNat - 0) + (((a2.drop (0 + ((IntKind.wrap .i64 (i227 + 1)).toNat))).take ((((a2.length : Nat) : Int).toNat) - ((IntKind.wrap .i64 (i227 + 1)).toNat))).length) : Nat) : Int).toNat)) [.str [], .int .i64 0, .int .i64 0, .int .i64 0, .int .i64 0, .list true []])) (0 + i98.toNat) (QbA c284 0 [vX, v6, kc, kg, vU, kj])).drop 0).take ((i227.toNat - 0) + (((a2.drop (0 + ((IntKind.wrap .i64 (i227 + 1)).toNat))).take ((((a2.length : Nat) : Int).toNat) - ((IntKind.wrap .i64 (i227 + 1)).toNat))).length))), .bool true])))))))))))))))))))))
 else
 (Qdm lb n ke w3 jh a2 i98 c192 yv yu yw yx yt yy (IntKind.wrap .i64 (i227 + 1))))))
 else
 (Qhf lb n w3 jh a2 i98 i98 i227 yv yu yw yx yt yy) := (Qad _).trans (by kernel_rfl)
noncomputable def Qha (lb n : Nat) (jh : Bool) (a2 : LL) : Option CV :=
 hold (E0 lb n 0 998 (sub (B Qai) [1, 1]) (retK Tryz.prog (R Qai) 0 (outK (Qaf Tryz.prog Qai))) ⟨fr 48 [(0, .val (.list jh a2)), (2, .lst true true 42 []), (3, vB false)], [bx 48 []], KK⟩)
theorem QjZ (lb n : Nat) (jh : Bool) (a2 : LL) :
 Qha lb n jh a2 =
 some (.tup [.list jh a2, .bool false]) := (Qad _).trans (by kernel_rfl)
theorem QeX (lb n w3 : Nat) (jh : Bool) (a2 : LL) (i98 : Int) :
 revision_step_L1 lb n (w3 + 1) jh a2 i98 =
 bif (decide (i98 < (a2.length : Int))) then
 (optO (atL a2 i98) fun c192 =>
 chkO (c192.length == 6) (
 optO (c192[0]?) fun yv =>
 optO (c192[1]?) fun yu =>
 optO (c192[2]?) fun yw =>
 optO (c192[3]?) fun yx =>
 optO (c192[4]?) fun yt =>
 optO (c192[5]?) fun yy =>
 Qdm lb n n w3 jh a2 i98 c192 yv yu yw yx yt yy (IntKind.wrap .i64 (i98 + 1))))
 else
 (Qha lb n jh a2 ) := (Qad _).trans (by kernel_rfl)
theorem Qmu (lb n : Nat) (jh : Bool) (a2 : LL) :
 top lb n Qai [.list jh a2] =
 revision_step_L1 lb n n jh a2 0 := by kernel_rfl
theorem QpU (lb n : Nat) (je ji jj : Int) :
 top lb n QdB [.agg [.int .i64 je, .int .i64 ji, .int .i64 jj]] =
 optO (C lb n Qbk [.agg [.int .i64 je, .int .i64 ji, .int .i64 jj]]) fun r4 =>
 optO (CV.asL r4) fun p5 =>
 some (.int .i64 (p5.2.length : Int)) := by kernel_rfl
end Go.Proofs
