/- Equations of functions, printed by program. Conditions: none. -/
import Derived.Test.YtdcpdknginpohaaGreatDoorEv
namespace Go.Proofs
open Go.Am
set_option maxRecDepth 100000
set_option linter.unusedVariables false
/-! airline/airlineref07.Big -/
noncomputable def r07_Big_L1 (lb : Nat) (n : Nat) (k35 : Nat) (aairn1 : Bool) (aair2 : List (List CV)) (adisn3 : Bool) (adis4 : List (List CV)) (bcar5 : List UInt8) (bnum6 : Int) (bperfro7 : Int) (bperto9 : Int) (bperday10 : Int) (blegn11 : Bool) (bleg12 : List (List CV)) (i23 : Int) (i24 : Int) : Option CV :=
  hold (loopC (E0 lb n 0 994) 0 (loopTemps (sub (B F_r07_Big) [1, 1, 0, 1, 0, 0]) ++ []) [] (sub (B F_r07_Big) [1, 1, 0, 1, 0, 0]) (blockK 0 (seqK (E0 lb n 0 997) (sub (B F_r07_Big) [1, 1, 0]) (sub (B F_r07_Big) [1, 1, 1]) (retK Tryz.prog (R F_r07_Big) 0 (outK (tightF Tryz.prog F_r07_Big))))) k35 ⟨fr 66 [(0, .val (.agg [.list aairn1 aair2, .list adisn3 adis4])), (1, .val (.agg [.str bcar5, .int .i64 bnum6, .int .i64 bperfro7, .int .i64 bperto9, .int .i64 bperday10, .list blegn11 bleg12])), (2, .ptr 0 2 0), (3, .ptr 0 3 0), (4, .val (.bool false)), (5, .val (.int .i64 i23)), (6, .val (.int .i64 i24)), (7, .ptr 0 3 0), (8, .val (.str bcar5)), (9, .val (.int .i64 (bcar5.length : Int)))], [bx 66 [(2, some [.val (.list aairn1 aair2), .val (.list adisn3 adis4)]), (3, some [.val (.str bcar5), .val (.int .i64 bnum6), .val (.int .i64 bperfro7), .val (.int .i64 bperto9), .val (.int .i64 bperday10), .val (.list blegn11 bleg12)])]], KK⟩)

noncomputable def r07_Big_J2 (lb : Nat) (n : Nat) (aairn1 : Bool) (aair2 : List (List CV)) (adisn3 : Bool) (adis4 : List (List CV)) (bcar5 : List UInt8) (bnum6 : Int) (bperfro7 : Int) (bperto9 : Int) (bperday10 : Int) (blegn11 : Bool) (bleg12 : List (List CV)) (i45 : Int) (i46 : Int) : Option CV :=
  hold (E0 lb n 0 997 (sub (B F_r07_Big) [1, 1, 1]) (retK Tryz.prog (R F_r07_Big) 0 (outK (tightF Tryz.prog F_r07_Big))) ⟨fr 66 [(0, .val (.agg [.list aairn1 aair2, .list adisn3 adis4])), (1, .val (.agg [.str bcar5, .int .i64 bnum6, .int .i64 bperfro7, .int .i64 bperto9, .int .i64 bperday10, .list blegn11 bleg12])), (2, .ptr 0 2 0), (3, .ptr 0 3 0), (4, .val (.bool false)), (5, .val (.int .i64 i45)), (6, .val (.int .i64 i46)), (7, .ptr 0 3 0), (8, .val (.str bcar5)), (9, .val (.int .i64 (bcar5.length : Int)))], [bx 66 [(2, some [.val (.list aairn1 aair2), .val (.list adisn3 adis4)]), (3, some [.val (.str bcar5), .val (.int .i64 bnum6), .val (.int .i64 bperfro7), .val (.int .i64 bperto9), .val (.int .i64 bperday10), .val (.list blegn11 bleg12)])]], KK⟩)

theorem r07_Big_J2_eq (lb : Nat) (n : Nat) (aairn1 : Bool) (aair2 : List (List CV)) (adisn3 : Bool) (adis4 : List (List CV)) (bcar5 : List UInt8) (bnum6 : Int) (bperfro7 : Int) (bperto9 : Int) (bperday10 : Int) (blegn11 : Bool) (bleg12 : List (List CV)) (i45 : Int) (i46 : Int) :
  r07_Big_J2 lb n aairn1 aair2 adisn3 adis4 bcar5 bnum6 bperfro7 bperto9 bperday10 blegn11 bleg12 i45 i46 =
 bif (decide (i45 > 400)) then
 (some (.bool true))
 else
 (bif (decide ((bleg12.length : Int) > 12)) then
 (some (.bool true))
 else
 (bif (decide ((aair2.length : Int) > 20)) then
 (some (.bool true))
 else
 (some (.bool (decide ((adis4.length : Int) > 40)))))) := (hold_eq _).trans (by kernel_rfl)

theorem r07_Big_L1_succ (lb : Nat) (n k35 : Nat) (aairn1 : Bool) (aair2 : List (List CV)) (adisn3 : Bool) (adis4 : List (List CV)) (bcar5 : List UInt8) (bnum6 : Int) (bperfro7 : Int) (bperto9 : Int) (bperday10 : Int) (blegn11 : Bool) (bleg12 : List (List CV)) (i23 : Int) (i24 : Int) :
  r07_Big_L1 lb n (k35 + 1) aairn1 aair2 adisn3 adis4 bcar5 bnum6 bperfro7 bperto9 bperday10 blegn11 bleg12 i23 i24 =
 bif (decide (i24 < (bleg12.length : Int))) then
 (bif (decide (i24 < 20)) then
 (optO (atL bleg12 i24) fun c36 =>
 chkO (c36.length == 5) (
 optO (c36[0]?) fun x37 =>
 optO (CV.asS x37) fun s38 =>
 optO (atL bleg12 i24) fun c39 =>
 chkO (c39.length == 5) (
 optO (c39[1]?) fun x40 =>
 optO (CV.asS x40) fun s41 =>
 optO (atL bleg12 i24) fun c42 =>
 chkO (c42.length == 5) (
 optO (c42[4]?) fun x43 =>
 optO (CV.asS x43) fun s44 =>
 r07_Big_L1 lb n k35 aairn1 aair2 adisn3 adis4 bcar5 bnum6 bperfro7 bperto9 bperday10 blegn11 bleg12 (IntKind.wrap .i64 ((IntKind.wrap .i64 ((IntKind.wrap .i64 (i23 + (s38.length : Int))) + (s41.length : Int))) + (s44.length : Int))) (IntKind.wrap .i64 (i24 + 1))))))
 else
 (r07_Big_J2 lb n aairn1 aair2 adisn3 adis4 bcar5 bnum6 bperfro7 bperto9 bperday10 blegn11 bleg12 i23 i24))
 else
 (r07_Big_J2 lb n aairn1 aair2 adisn3 adis4 bcar5 bnum6 bperfro7 bperto9 bperday10 blegn11 bleg12 i23 i24) := (hold_eq _).trans (by kernel_rfl)

theorem r07_Big_eq (lb : Nat) (n : Nat) (aairn1 : Bool) (aair2 : List (List CV)) (adisn3 : Bool) (adis4 : List (List CV)) (bcar5 : List UInt8) (bnum6 : Int) (bperfro7 : Int) (bperto9 : Int) (bperday10 : Int) (blegn11 : Bool) (bleg12 : List (List CV)) :
  top lb n F_r07_Big [.agg [.list aairn1 aair2, .list adisn3 adis4], .agg [.str bcar5, .int .i64 bnum6, .int .i64 bperfro7, .int .i64 bperto9, .int .i64 bperday10, .list blegn11 bleg12]] =
 r07_Big_L1 lb n n aairn1 aair2 adisn3 adis4 bcar5 bnum6 bperfro7 bperto9 bperday10 blegn11 bleg12 (bcar5.length : Int) 0 := by kernel_rfl

/-! airline/airlineref06.Check -/
/-! airline/airlineref06.airport -/
/-! airline/airlineref06.distance -/
/-! airline/airlineref06.town -/
/-! airline/airlineref06.Usable -/
/-! airline/airlineref05.Check -/
/-! airline/airlineref05.offset -/
end Go.Proofs
