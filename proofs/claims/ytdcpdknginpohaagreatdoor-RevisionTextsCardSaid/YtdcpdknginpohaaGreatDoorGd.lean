/- Equations of functions, printed by program. Conditions: none. -/
import Derived.Test.YtdcpdknginpohaaGreatDoorEv
namespace Go.Proofs
open Go.Am
set_option maxRecDepth 100000
set_option linter.unusedVariables false
noncomputable def r07_SameLegs_L1 :=
 fun lb n (oH : Nat) (jr : Bool) (a2 : LL) (yl : Bool) (b4 : LL) wy =>
 hold (QaB (E0 lb n 0 994) 0 (Qaj (sub (B Qbo) [1, 1, 0, 1, 0, 0]) ++ []) [] (sub (B Qbo) [1, 1, 0, 1, 0, 0]) (Qat 0 (seqK (E0 lb n 0 997) (sub (B Qbo) [1, 1, 0]) (sub (B Qbo) [1, 1, 1]) (retK Tryz.prog (R Qbo) 0 (outK (Qad Tryz.prog Qbo))))) oH ⟨fr 26 [(0, .val (.list jr a2)), (1, .val (.list yl b4)), (4, vB false), (5, vI wy)], [bx 26 []], KK⟩)
noncomputable def Qjo (lb n : Nat) (jr : Bool) (a2 : LL) (yl : Bool) (b4 : LL) (yN : Int) : Option CV :=
 hold (E0 lb n 0 997 (sub (B Qbo) [1, 1, 1]) (retK Tryz.prog (R Qbo) 0 (outK (Qad Tryz.prog Qbo))) ⟨fr 26 [(0, .val (.list jr a2)), (1, .val (.list yl b4)), (4, vB false), (5, vI yN)], [bx 26 []], KK⟩)
theorem Ql9 (lb n : Nat) (jr : Bool) (a2 : LL) (yl : Bool) (b4 : LL) (yN : Int) :
 Qjo lb n jr a2 yl b4 yN =
 some (.bool true) := (Qab _).trans (by kernel_rfl)
theorem Qgv (lb n oH : Nat) (jr : Bool) (a2 : LL) (yl : Bool) (b4 : LL) (wy : Int) :
 r07_SameLegs_L1 lb n (oH + 1) jr a2 yl b4 wy =
 bif (decide (wy < (a2.length : Int))) then
 (optO (atL a2 wy) fun c54 =>
 chkO (c54.length == 5) (
 optO (c54[0]?) fun yf =>
 optO (c54[1]?) fun wW =>
 optO (c54[2]?) fun jV =>
 optO (c54[3]?) fun wR =>
 optO (c54[4]?) fun oT =>
 optO (atL b4 wy) fun c60 =>
 chkO (c60.length == 5) (
 optO (c60[0]?) fun vj =>
 optO (c60[1]?) fun mR =>
 optO (c60[2]?) fun gB =>
 optO (c60[3]?) fun nd =>
 optO (c60[4]?) fun o6 =>
 optO (CV.asS yf) fun o7 =>
 optO (CV.asS vj) fun nz =>
 optO (CV.asS wW) fun s69 =>
 optO (CV.asS mR) fun gK =>
 optO (CV.asI .i64 jV) fun vH =>
 optO (CV.asI .i64 gB) fun kk =>
 optO (CV.asI .i64 wR) fun kB =>
 optO (CV.asI .i64 nd) fun kI =>
 optO (CV.asS oT) fun m7 =>
 optO (CV.asS o6) fun nD =>
 bif (!((o7 == nz) && ((s69 == gK) && ((vH == kk) && ((kB == kI) && ((m7 == nD) && true)))))) then
 (some (.bool false))
 else
 (r07_SameLegs_L1 lb n oH jr a2 yl b4 (IntKind.wrap .i64 (wy + 1))))))
 else
 (Qjo lb n jr a2 yl b4 wy) := (Qab _).trans (by kernel_rfl)
theorem QjU (lb n : Nat) (jr : Bool) (a2 : LL) (yl : Bool) (b4 : LL) :
 top lb n Qbo [.list jr a2, .list yl b4] =
 bif ((a2.length : Int) != (b4.length : Int)) then
 (some (.bool false))
 else
 (r07_SameLegs_L1 lb n n jr a2 yl b4 0) := by kernel_rfl
end Go.Proofs
