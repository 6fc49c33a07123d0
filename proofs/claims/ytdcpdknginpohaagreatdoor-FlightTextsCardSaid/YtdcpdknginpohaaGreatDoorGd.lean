/- Equations of functions, printed by program. Conditions: none. -/
import Derived.Test.YtdcpdknginpohaaGreatDoorEv
namespace Go.Proofs
open Go.Am
set_option maxRecDepth 100000
set_option linter.unusedVariables false
/-! airline/airlineref07.Same -/
theorem r07_Same_eq (lb : Nat) (n : Nat) (acar1 : List UInt8) (anum2 : Int) (aperfro3 : Int) (aperto4 : Int) (aperday5 : Int) (alegn6 : Bool) (aleg7 : List (List CV)) (bcar9 : List UInt8) (bnum10 : Int) (bperfro11 : Int) (bperto12 : Int) (bperday13 : Int) (blegn14 : Bool) (bleg15 : List (List CV)) :
  top lb n F_r07_Same [.agg [.str acar1, .int .i64 anum2, .int .i64 aperfro3, .int .i64 aperto4, .int .i64 aperday5, .list alegn6 aleg7], .agg [.str bcar9, .int .i64 bnum10, .int .i64 bperfro11, .int .i64 bperto12, .int .i64 bperday13, .list blegn14 bleg15]] =
 bif (acar1 == bcar9) then
 (bif (anum2 == bnum10) then
 (bif ((aperfro3 == bperfro11) && ((aperto4 == bperto12) && ((aperday5 == bperday13) && true))) then
 (optO (C lb n F_r07_SameLegs [.list alegn6 aleg7, .list blegn14 bleg15]) fun r17 =>
 some (r17))
 else
 (some (.bool false)))
 else
 (some (.bool false)))
 else
 (some (.bool false)) := by kernel_rfl

/-! airline/airlineref07.SameLegs -/
noncomputable def r07_SameLegs_L1 (lb : Nat) (n : Nat) (k53 : Nat) (an1 : Bool) (a2 : List (List CV)) (bn3 : Bool) (b4 : List (List CV)) (i29 : Int) : Option CV :=
  hold (loopC (E0 lb n 0 994) 0 (loopTemps (sub (B F_r07_SameLegs) [1, 1, 0, 1, 0, 0]) ++ []) [] (sub (B F_r07_SameLegs) [1, 1, 0, 1, 0, 0]) (blockK 0 (seqK (E0 lb n 0 997) (sub (B F_r07_SameLegs) [1, 1, 0]) (sub (B F_r07_SameLegs) [1, 1, 1]) (retK Tryz.prog (R F_r07_SameLegs) 0 (outK (tightF Tryz.prog F_r07_SameLegs))))) k53 ⟨fr 26 [(0, .val (.list an1 a2)), (1, .val (.list bn3 b4)), (4, .val (.bool false)), (5, .val (.int .i64 i29))], [bx 26 []], KK⟩)

noncomputable def r07_SameLegs_J2 (lb : Nat) (n : Nat) (an1 : Bool) (a2 : List (List CV)) (bn3 : Bool) (b4 : List (List CV)) (i77 : Int) : Option CV :=
  hold (E0 lb n 0 997 (sub (B F_r07_SameLegs) [1, 1, 1]) (retK Tryz.prog (R F_r07_SameLegs) 0 (outK (tightF Tryz.prog F_r07_SameLegs))) ⟨fr 26 [(0, .val (.list an1 a2)), (1, .val (.list bn3 b4)), (4, .val (.bool false)), (5, .val (.int .i64 i77))], [bx 26 []], KK⟩)

theorem r07_SameLegs_J2_eq (lb : Nat) (n : Nat) (an1 : Bool) (a2 : List (List CV)) (bn3 : Bool) (b4 : List (List CV)) (i77 : Int) :
  r07_SameLegs_J2 lb n an1 a2 bn3 b4 i77 =
 some (.bool true) := (hold_eq _).trans (by kernel_rfl)

theorem r07_SameLegs_L1_succ (lb : Nat) (n k53 : Nat) (an1 : Bool) (a2 : List (List CV)) (bn3 : Bool) (b4 : List (List CV)) (i29 : Int) :
  r07_SameLegs_L1 lb n (k53 + 1) an1 a2 bn3 b4 i29 =
 bif (decide (i29 < (a2.length : Int))) then
 (optO (atL a2 i29) fun c54 =>
 chkO (c54.length == 5) (
 optO (c54[0]?) fun x55 =>
 optO (c54[1]?) fun x56 =>
 optO (c54[2]?) fun x57 =>
 optO (c54[3]?) fun x58 =>
 optO (c54[4]?) fun x59 =>
 optO (atL b4 i29) fun c60 =>
 chkO (c60.length == 5) (
 optO (c60[0]?) fun x61 =>
 optO (c60[1]?) fun x62 =>
 optO (c60[2]?) fun x63 =>
 optO (c60[3]?) fun x65 =>
 optO (c60[4]?) fun x66 =>
 optO (CV.asS x55) fun s67 =>
 optO (CV.asS x61) fun s68 =>
 optO (CV.asS x56) fun s69 =>
 optO (CV.asS x62) fun s70 =>
 optO (CV.asI .i64 x57) fun i71 =>
 optO (CV.asI .i64 x63) fun i72 =>
 optO (CV.asI .i64 x58) fun i73 =>
 optO (CV.asI .i64 x65) fun i74 =>
 optO (CV.asS x59) fun s75 =>
 optO (CV.asS x66) fun s76 =>
 bif (!((s67 == s68) && ((s69 == s70) && ((i71 == i72) && ((i73 == i74) && ((s75 == s76) && true)))))) then
 (some (.bool false))
 else
 (r07_SameLegs_L1 lb n k53 an1 a2 bn3 b4 (IntKind.wrap .i64 (i29 + 1))))))
 else
 (r07_SameLegs_J2 lb n an1 a2 bn3 b4 i29) := (hold_eq _).trans (by kernel_rfl)

theorem r07_SameLegs_eq (lb : Nat) (n : Nat) (an1 : Bool) (a2 : List (List CV)) (bn3 : Bool) (b4 : List (List CV)) :
  top lb n F_r07_SameLegs [.list an1 a2, .list bn3 b4] =
 bif ((a2.length : Int) != (b4.length : Int)) then
 (some (.bool false))
 else
 (r07_SameLegs_L1 lb n n an1 a2 bn3 b4 0) := by kernel_rfl

/-! slices.Equal[[]airline/api.Leg,airline/api.Leg] -/
/-! airline/flight.Same -/
end Go.Proofs
