/- Equations of functions, printed by program. Conditions: none. -/
import Derived.Test.YtdcpdknginpohaaGreatDoorEv
namespace Go.Proofs
open Go.Am
set_option maxRecDepth 100000
set_option linter.unusedVariables false
noncomputable def slices_Equal_api_Leg_L1 :=
 fun lb n (pt : Nat) (jK : Bool) (a2 : LL) (vd : Bool) (b4 : LL) kD =>
 hold (Qas (E0 lb n 0 994) 0 (Qad (sub (B QaY) [1, 1, 0, 1, 0, 0]) ++ [5]) [] (sub (B QaY) [1, 1, 0, 1, 0, 0]) (Qaj 0 (seqK (E0 lb n 0 997) (sub (B QaY) [1, 1, 0]) (sub (B QaY) [1, 1, 1]) (retK Tryz.prog (R QaY) 0 (outK (Qag Tryz.prog QaY))))) pt ⟨fr 26 [(0, .val (.list jK a2)), (1, .val (.list vd b4)), (4, vB false), (11, .val (.list jK a2)), (12, .val (.int .i64 (a2.length : Int))), (13, vI kD)], [bx 26 []], KK⟩)
noncomputable def QfY (lb n : Nat) (jK : Bool) (a2 : LL) (vd : Bool) (b4 : LL) : Option CV :=
 hold (E0 lb n 0 997 (sub (B QaY) [1, 1, 1]) (retK Tryz.prog (R QaY) 0 (outK (Qag Tryz.prog QaY))) ⟨fr 26 [(0, .val (.list jK a2)), (1, .val (.list vd b4)), (4, vB false)], [bx 26 []], KK⟩)
theorem Qio (lb n : Nat) (jK : Bool) (a2 : LL) (vd : Bool) (b4 : LL) :
 QfY lb n jK a2 vd b4 =
 some (.bool true) := (Qaf _).trans (by kernel_rfl)
theorem Qev (lb n pt : Nat) (jK : Bool) (a2 : LL) (vd : Bool) (b4 : LL) (kD : Int) :
 slices_Equal_api_Leg_L1 lb n (pt + 1) jK a2 vd b4 kD =
 bif (decide (kD < (a2.length : Int))) then
 (optO (atL a2 kD) fun c54 =>
 chkO (c54.length == 5) (
 optO (c54[0]?) fun gH =>
 optO (c54[1]?) fun oL =>
 optO (c54[2]?) fun qf =>
 optO (c54[3]?) fun lD =>
 optO (c54[4]?) fun pW =>
 optO (atL b4 kD) fun c60 =>
 chkO (c60.length == 5) (
 optO (c60[0]?) fun l5 =>
 optO (c60[1]?) fun lN =>
 optO (c60[2]?) fun kr =>
 optO (c60[3]?) fun kC =>
 optO (c60[4]?) fun ka =>
 optO (CV.asS gH) fun lH =>
 optO (CV.asS l5) fun lj =>
 optO (CV.asS oL) fun nm =>
 optO (CV.asS lN) fun ni =>
 optO (CV.asI .i64 qf) fun lB =>
 optO (CV.asI .i64 kr) fun lG =>
 optO (CV.asI .i64 lD) fun zK =>
 optO (CV.asI .i64 kC) fun zZ =>
 optO (CV.asS pW) fun z6 =>
 optO (CV.asS ka) fun ri =>
 bif (!((lH == lj) && ((nm == ni) && ((lB == lG) && ((zK == zZ) && ((z6 == ri) && true)))))) then
 (some (.bool false))
 else
 (slices_Equal_api_Leg_L1 lb n pt jK a2 vd b4 (IntKind.wrap .i64 (kD + 1))))))
 else
 (QfY lb n jK a2 vd b4 ) := (Qaf _).trans (by kernel_rfl)
theorem QfZ (lb n : Nat) (jK : Bool) (a2 : LL) (vd : Bool) (b4 : LL) :
 top lb n QaY [.list jK a2, .list vd b4] =
 bif ((a2.length : Int) != (b4.length : Int)) then
 (some (.bool false))
 else
 (slices_Equal_api_Leg_L1 lb n n jK a2 vd b4 0) := by kernel_rfl
end Go.Proofs
