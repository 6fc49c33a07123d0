/- Equations of functions, printed by program. Conditions: none. -/
import Derived.Test.YtdcpdknginpohaaGreatDoorEv
namespace Go.Proofs
open Go.Am
set_option maxRecDepth 100000
set_option linter.unusedVariables false
theorem QrD (lb n) (jy : LB) (jv jo jr jp : Int) (ju) (aleg7 : LL) (ya : LB) (wO j9 wj j7 : Int) (wy) (wZ : LL) :
 top lb n QjB [.agg [.str jy, .int .i64 jv, .int .i64 jo, .int .i64 jr, .int .i64 jp, .list ju aleg7], .agg [.str ya, .int .i64 wO, .int .i64 j9, .int .i64 wj, .int .i64 j7, .list wy wZ]] =
 bif (jy == ya) then
 (bif (jv == wO) then
 (bif ((jo == j9) && ((jr == wj) && ((jp == j7) && true))) then
 (optO (C lb n QaS [.list ju aleg7, .list wy wZ]) fun yK =>
 some (yK))
 else
 (some (.bool false)))
 else
 (some (.bool false)))
 else
 (some (.bool false)) := by kernel_rfl
noncomputable def r07_SameLegs_L1 :=
 fun lb n (yX : Nat) (jh : Bool) (a2 : LL) (j1 : Bool) (b4 : LL) j5 =>
 hold (Qas (E0 lb n 0 994) 0 (Qag (sub (B QaS) [1, 1, 0, 1, 0, 0]) ++ []) [] (sub (B QaS) [1, 1, 0, 1, 0, 0]) (Qaj 0 (seqK (E0 lb n 0 997) (sub (B QaS) [1, 1, 0]) (sub (B QaS) [1, 1, 1]) (retK Tryz.prog (R QaS) 0 (outK (Qaf Tryz.prog QaS))))) yX ⟨fr 26 [(0, .val (.list jh a2)), (1, .val (.list j1 b4)), (4, vB false), (5, vI j5)], [bx 26 []], KK⟩)
noncomputable def QhH (lb n : Nat) (jh : Bool) (a2 : LL) (j1 : Bool) (b4 : LL) (gz : Int) : Option CV :=
 hold (E0 lb n 0 997 (sub (B QaS) [1, 1, 1]) (retK Tryz.prog (R QaS) 0 (outK (Qaf Tryz.prog QaS))) ⟨fr 26 [(0, .val (.list jh a2)), (1, .val (.list j1 b4)), (4, vB false), (5, vI gz)], [bx 26 []], KK⟩)
theorem QkI (lb n : Nat) (jh : Bool) (a2 : LL) (j1 : Bool) (b4 : LL) (gz : Int) :
 QhH lb n jh a2 j1 b4 gz =
 some (.bool true) := (Qad _).trans (by kernel_rfl)
theorem Qfk (lb n yX : Nat) (jh : Bool) (a2 : LL) (j1 : Bool) (b4 : LL) (j5 : Int) :
 r07_SameLegs_L1 lb n (yX + 1) jh a2 j1 b4 j5 =
 bif (decide (j5 < (a2.length : Int))) then
 (optO (atL a2 j5) fun c54 =>
 chkO (c54.length == 5) (
 optO (c54[0]?) fun yZ =>
 optO (c54[1]?) fun yU =>
 optO (c54[2]?) fun gF =>
 optO (c54[3]?) fun yR =>
 optO (c54[4]?) fun vA =>
 optO (atL b4 j5) fun c60 =>
 chkO (c60.length == 5) (
 optO (c60[0]?) fun vl =>
 optO (c60[1]?) fun vk =>
 optO (c60[2]?) fun ku =>
 optO (c60[3]?) fun kS =>
 optO (c60[4]?) fun kT =>
 optO (CV.asS yZ) fun gi =>
 optO (CV.asS vl) fun gh =>
 optO (CV.asS yU) fun vu =>
 optO (CV.asS vk) fun vn =>
 optO (CV.asI .i64 gF) fun vw =>
 optO (CV.asI .i64 ku) fun gH =>
 optO (CV.asI .i64 yR) fun gn =>
 optO (CV.asI .i64 kS) fun oX =>
 optO (CV.asS vA) fun gv =>
 optO (CV.asS kT) fun gy =>
 bif (!((gi == gh) && ((vu == vn) && ((vw == gH) && ((gn == oX) && ((gv == gy) && true)))))) then
 (some (.bool false))
 else
 (r07_SameLegs_L1 lb n yX jh a2 j1 b4 (IntKind.wrap .i64 (j5 + 1))))))
 else
 (QhH lb n jh a2 j1 b4 j5) := (Qad _).trans (by kernel_rfl)
theorem QhN (lb n : Nat) (jh : Bool) (a2 : LL) (j1 : Bool) (b4 : LL) :
 top lb n QaS [.list jh a2, .list j1 b4] =
 bif ((a2.length : Int) != (b4.length : Int)) then
 (some (.bool false))
 else
 (r07_SameLegs_L1 lb n n jh a2 j1 b4 0) := by kernel_rfl
noncomputable def Qbg (lb n yX : Nat) (jh : Bool) (a2 : LL) (j1 : Bool) (b4 : LL) (j5 : Int) : Option CV :=
 hold (Qas (E0 lb n 0 994) 0 (Qag (sub (B QaD) [1, 1, 0, 1, 0, 0]) ++ [5]) [] (sub (B QaD) [1, 1, 0, 1, 0, 0]) (Qaj 0 (seqK (E0 lb n 0 997) (sub (B QaD) [1, 1, 0]) (sub (B QaD) [1, 1, 1]) (retK Tryz.prog (R QaD) 0 (outK (Qaf Tryz.prog QaD))))) yX ⟨fr 26 [(0, .val (.list jh a2)), (1, .val (.list j1 b4)), (4, vB false), (11, .val (.list jh a2)), (12, .val (.int .i64 (a2.length : Int))), (13, vI j5)], [bx 26 []], KK⟩)
noncomputable def Qel (lb n : Nat) (jh : Bool) (a2 : LL) (j1 : Bool) (b4 : LL) : Option CV :=
 hold (E0 lb n 0 997 (sub (B QaD) [1, 1, 1]) (retK Tryz.prog (R QaD) 0 (outK (Qaf Tryz.prog QaD))) ⟨fr 26 [(0, .val (.list jh a2)), (1, .val (.list j1 b4)), (4, vB false)], [bx 26 []], KK⟩)
theorem Qgn (lb n : Nat) (jh : Bool) (a2 : LL) (j1 : Bool) (b4 : LL) :
 Qel lb n jh a2 j1 b4 =
 some (.bool true) := (Qad _).trans (by kernel_rfl)
theorem Qdg (lb n yX : Nat) (jh : Bool) (a2 : LL) (j1 : Bool) (b4 : LL) (j5 : Int) :
 Qbg lb n (yX + 1) jh a2 j1 b4 j5 =
 bif (decide (j5 < (a2.length : Int))) then
 (optO (atL a2 j5) fun c54 =>
 chkO (c54.length == 5) (
 optO (c54[0]?) fun yZ =>
 optO (c54[1]?) fun yU =>
 optO (c54[2]?) fun gF =>
 optO (c54[3]?) fun yR =>
 optO (c54[4]?) fun vA =>
 optO (atL b4 j5) fun c60 =>
 chkO (c60.length == 5) (
 optO (c60[0]?) fun vl =>
 optO (c60[1]?) fun vk =>
 optO (c60[2]?) fun ku =>
 optO (c60[3]?) fun kS =>
 optO (c60[4]?) fun kT =>
 optO (CV.asS yZ) fun gi =>
 optO (CV.asS vl) fun gh =>
 optO (CV.asS yU) fun vu =>
 optO (CV.asS vk) fun vn =>
 optO (CV.asI .i64 gF) fun vw =>
 optO (CV.asI .i64 ku) fun gH =>
 optO (CV.asI .i64 yR) fun gn =>
 optO (CV.asI .i64 kS) fun oX =>
 optO (CV.asS vA) fun gv =>
 optO (CV.asS kT) fun gy =>
 bif (!((gi == gh) && ((vu == vn) && ((vw == gH) && ((gn == oX) && ((gv == gy) && true)))))) then
 (some (.bool false))
 else
 (Qbg lb n yX jh a2 j1 b4 (IntKind.wrap .i64 (j5 + 1))))))
 else
 (Qel lb n jh a2 j1 b4 ) := (Qad _).trans (by kernel_rfl)
theorem Qek (lb n : Nat) (jh : Bool) (a2 : LL) (j1 : Bool) (b4 : LL) :
 top lb n QaD [.list jh a2, .list j1 b4] =
 bif ((a2.length : Int) != (b4.length : Int)) then
 (some (.bool false))
 else
 (Qbg lb n n jh a2 j1 b4 0) := by kernel_rfl
theorem Qn3 (lb n : Nat) (jy : LB) (jv jo jr jp : Int) (ju : Bool) (aleg7 : LL) (ya : LB) (wO j9 wj j7 : Int) (wy : Bool) (wZ : LL) :
 top lb n Qgq [.agg [.str jy, .int .i64 jv, .int .i64 jo, .int .i64 jr, .int .i64 jp, .list ju aleg7], .agg [.str ya, .int .i64 wO, .int .i64 j9, .int .i64 wj, .int .i64 j7, .list wy wZ]] =
 bif (jy == ya) then
 (bif (jv == wO) then
 (bif ((jo == j9) && ((jr == wj) && ((jp == j7) && true))) then
 (optO (C lb n QaD [.list ju aleg7, .list wy wZ]) fun yK =>
 some (yK))
 else
 (some (.bool false)))
 else
 (some (.bool false)))
 else
 (some (.bool false)) := by kernel_rfl
end Go.Proofs
