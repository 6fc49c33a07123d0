/- Equations of functions, printed by program. Conditions: none. -/
import Derived.Test.YtdcpdknginpohaaGreatDoorEv
namespace Go.Proofs
open Go.Am
set_option maxRecDepth 100000
set_option linter.unusedVariables false
noncomputable def r07_SameLegs_L1 :=
 fun lb n (nJ : Nat) (jO : Bool) (a2 : LL) (ko : Bool) (b4 : LL) y6 =>
 hold (Qau (E0 lb n 0 994) 0 (Qae (sub (B Qbu) [1, 1, 0, 1, 0, 0]) ++ []) [] (sub (B Qbu) [1, 1, 0, 1, 0, 0]) (Qal 0 (seqK (E0 lb n 0 997) (sub (B Qbu) [1, 1, 0]) (sub (B Qbu) [1, 1, 1]) (retK Tryz.prog (R Qbu) 0 (outK (Qaj Tryz.prog Qbu))))) nJ ⟨fr 26 [(0, .val (.list jO a2)), (1, .val (.list ko b4)), (4, vB false), (5, vI y6)], [bx 26 []], KK⟩)
noncomputable def QjE (lb n : Nat) (jO : Bool) (a2 : LL) (ko : Bool) (b4 : LL) (pm : Int) : Option CV :=
 hold (E0 lb n 0 997 (sub (B Qbu) [1, 1, 1]) (retK Tryz.prog (R Qbu) 0 (outK (Qaj Tryz.prog Qbu))) ⟨fr 26 [(0, .val (.list jO a2)), (1, .val (.list ko b4)), (4, vB false), (5, vI pm)], [bx 26 []], KK⟩)
theorem Qm1 (lb n : Nat) (jO : Bool) (a2 : LL) (ko : Bool) (b4 : LL) (pm : Int) :
 QjE lb n jO a2 ko b4 pm =
 some (.bool true) := (Qad _).trans (by kernel_rfl)
theorem Qg2 (lb n nJ : Nat) (jO : Bool) (a2 : LL) (ko : Bool) (b4 : LL) (y6 : Int) :
 r07_SameLegs_L1 lb n (nJ + 1) jO a2 ko b4 y6 =
 bif (decide (y6 < (a2.length : Int))) then
 (optO (atL a2 y6) fun c54 =>
 chkO (c54.length == 5) (
 optO (c54[0]?) fun oo =>
 optO (c54[1]?) fun ou =>
 optO (c54[2]?) fun pr =>
 optO (c54[3]?) fun n8 =>
 optO (c54[4]?) fun mU =>
 optO (atL b4 y6) fun c60 =>
 chkO (c60.length == 5) (
 optO (c60[0]?) fun sX =>
 optO (c60[1]?) fun zR =>
 optO (c60[2]?) fun kf =>
 optO (c60[3]?) fun kh =>
 optO (c60[4]?) fun vJ =>
 optO (CV.asS oo) fun zW =>
 optO (CV.asS sX) fun lc =>
 optO (CV.asS ou) fun mD =>
 optO (CV.asS zR) fun mV =>
 optO (CV.asI .i64 pr) fun mH =>
 optO (CV.asI .i64 kf) fun zq =>
 optO (CV.asI .i64 n8) fun lg =>
 optO (CV.asI .i64 kh) fun zy =>
 optO (CV.asS mU) fun zT =>
 optO (CV.asS vJ) fun zo =>
 bif (!((zW == lc) && ((mD == mV) && ((mH == zq) && ((lg == zy) && ((zT == zo) && true)))))) then
 (some (.bool false))
 else
 (r07_SameLegs_L1 lb n nJ jO a2 ko b4 (IntKind.wrap .i64 (y6 + 1))))))
 else
 (QjE lb n jO a2 ko b4 y6) := (Qad _).trans (by kernel_rfl)
theorem QjM (lb n : Nat) (jO : Bool) (a2 : LL) (ko : Bool) (b4 : LL) :
 top lb n Qbu [.list jO a2, .list ko b4] =
 bif ((a2.length : Int) != (b4.length : Int)) then
 (some (.bool false))
 else
 (r07_SameLegs_L1 lb n n jO a2 ko b4 0) := by kernel_rfl
end Go.Proofs
