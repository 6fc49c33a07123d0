/- Equations of functions, printed by program. Conditions: none. -/
import Derived.Test.YtdcpdknginpohaaGreatDoorEv
namespace Go.Proofs
open Go.Am
set_option maxRecDepth 100000
set_option linter.unusedVariables false
noncomputable def r07_Big_L1 :=
 fun lb n (oN : Nat) (j6 : Bool) (aair2 : LL) (j4 : Bool) (adis4 : LL) bcar5 wb jJ jT jF (jU : Bool) (bleg12 : LL) wm i24 =>
 hold (QaB (E0 lb n 0 994) 0 (Qaj (sub (B QcK) [1, 1, 0, 1, 0, 0]) ++ []) [] (sub (B QcK) [1, 1, 0, 1, 0, 0]) (Qat 0 (seqK (E0 lb n 0 997) (sub (B QcK) [1, 1, 0]) (sub (B QcK) [1, 1, 1]) (retK Tryz.prog (R QcK) 0 (outK (Qad Tryz.prog QcK))))) oN ⟨fr 66 [(0, .val (.agg [.list j6 aair2, .list j4 adis4])), (1, .val (.agg [.str bcar5, .int .i64 wb, .int .i64 jJ, .int .i64 jT, .int .i64 jF, .list jU bleg12])), (2, .ptr 0 2 0), (3, .ptr 0 3 0), (4, vB false), (5, vI wm), (6, vI i24), (7, .ptr 0 3 0), (8, vS bcar5), (9, .val (.int .i64 (bcar5.length : Int)))], [bx 66 [(2, some [.val (.list j6 aair2), .val (.list j4 adis4)]), (3, some [vS bcar5, vI wb, vI jJ, vI jT, vI jF, .val (.list jU bleg12)])]], KK⟩)
noncomputable def Qim (lb n : Nat) (j6 : Bool) (aair2 : LL) (j4 : Bool) (adis4 : LL) (bcar5 : LB) (wb jJ jT jF : Int) (jU : Bool) (bleg12 : LL) (y6 i46 : Int) : Option CV :=
 hold (E0 lb n 0 997 (sub (B QcK) [1, 1, 1]) (retK Tryz.prog (R QcK) 0 (outK (Qad Tryz.prog QcK))) ⟨fr 66 [(0, .val (.agg [.list j6 aair2, .list j4 adis4])), (1, .val (.agg [.str bcar5, .int .i64 wb, .int .i64 jJ, .int .i64 jT, .int .i64 jF, .list jU bleg12])), (2, .ptr 0 2 0), (3, .ptr 0 3 0), (4, vB false), (5, vI y6), (6, vI i46), (7, .ptr 0 3 0), (8, vS bcar5), (9, .val (.int .i64 (bcar5.length : Int)))], [bx 66 [(2, some [.val (.list j6 aair2), .val (.list j4 adis4)]), (3, some [vS bcar5, vI wb, vI jJ, vI jT, vI jF, .val (.list jU bleg12)])]], KK⟩)
theorem QrE (lb n : Nat) (j6 : Bool) (aair2 : LL) (j4 : Bool) (adis4 : LL) (bcar5 : LB) (wb jJ jT jF : Int) (jU : Bool) (bleg12 : LL) (y6 i46 : Int) :
 Qim lb n j6 aair2 j4 adis4 bcar5 wb jJ jT jF jU bleg12 y6 i46 =
 bif (decide (y6 > 400)) then
 (some (.bool true))
 else
 (bif (decide ((bleg12.length : Int) > 12)) then
 (some (.bool true))
 else
 (bif (decide ((aair2.length : Int) > 20)) then
 (some (.bool true))
 else
 (some (.bool (decide ((adis4.length : Int) > 40)))))) := (Qab _).trans (by kernel_rfl)
theorem Qjs (lb n oN : Nat) (j6 : Bool) (aair2 : LL) (j4 : Bool) (adis4 : LL) (bcar5 : LB) (wb jJ jT jF : Int) (jU : Bool) (bleg12 : LL) (wm i24 : Int) :
 r07_Big_L1 lb n (oN + 1) j6 aair2 j4 adis4 bcar5 wb jJ jT jF jU bleg12 wm i24 =
 bif (decide (i24 < (bleg12.length : Int))) then
 (bif (decide (i24 < 20)) then
 (optO (atL bleg12 i24) fun c36 =>
 chkO (c36.length == 5) (
 optO (c36[0]?) fun jM =>
 optO (CV.asS jM) fun s38 =>
 optO (atL bleg12 i24) fun c39 =>
 chkO (c39.length == 5) (
 optO (c39[1]?) fun wX =>
 optO (CV.asS wX) fun s41 =>
 optO (atL bleg12 i24) fun c42 =>
 chkO (c42.length == 5) (
 optO (c42[4]?) fun w6 =>
 optO (CV.asS w6) fun s44 =>
 r07_Big_L1 lb n oN j6 aair2 j4 adis4 bcar5 wb jJ jT jF jU bleg12 (IntKind.wrap .i64 ((IntKind.wrap .i64 ((IntKind.wrap .i64 (wm + (s38.length : Int))) + (s41.length : Int))) + (s44.length : Int))) (IntKind.wrap .i64 (i24 + 1))))))
 else
 (Qim lb n j6 aair2 j4 adis4 bcar5 wb jJ jT jF jU bleg12 wm i24))
 else
 (Qim lb n j6 aair2 j4 adis4 bcar5 wb jJ jT jF jU bleg12 wm i24) := (Qab _).trans (by kernel_rfl)
theorem Qu3 (lb n : Nat) (j6 : Bool) (aair2 : LL) (j4 : Bool) (adis4 : LL) (bcar5 : LB) (wb jJ jT jF : Int) (jU : Bool) (bleg12 : LL) :
 top lb n QcK [.agg [.list j6 aair2, .list j4 adis4], .agg [.str bcar5, .int .i64 wb, .int .i64 jJ, .int .i64 jT, .int .i64 jF, .list jU bleg12]] =
 r07_Big_L1 lb n n j6 aair2 j4 adis4 bcar5 wb jJ jT jF jU bleg12 (bcar5.length : Int) 0 := by kernel_rfl
end Go.Proofs
