/- Equations of functions, printed by program. Conditions: none. -/
import Derived.Test.YtgkcpfhahphaiaaDoorEv
namespace Go.Proofs
open Go.Am
set_option maxRecDepth 100000
set_option linter.unusedVariables false
/-! airline/airlinelaw22.big -/
noncomputable def l22_big_L1 (lb : Bool) (n : Nat) (k21 : Nat) (anum1 : Int) (alinn2 : Bool) (alin3 : List (List CV)) (amil4 : Int) (i12 : Int) (i13 : Int) : Option CV :=
  hold (loopC (E0 lb n 0 994) 0 (loopTemps (sub (B F_l22_big) [1, 1, 0, 1, 0, 0]) ++ []) [] (sub (B F_l22_big) [1, 1, 0, 1, 0, 0]) (blockK 0 (seqK (E0 lb n 0 997) (sub (B F_l22_big) [1, 1, 0]) (sub (B F_l22_big) [1, 1, 1]) (retK Tryd.prog (R F_l22_big) 0 (outK (tightF Tryd.prog F_l22_big))))) k21 ⟨fr 41 [(0, .val (.agg [.int .i64 anum1, .list alinn2 alin3, .int .i64 amil4])), (1, .ptr 0 1 0), (2, .val (.bool false)), (3, .val (.int .i64 i12)), (4, .val (.int .i64 i13))], [bx 41 [(1, some [.val (.int .i64 anum1), .val (.list alinn2 alin3), .val (.int .i64 amil4)])]], KK⟩)

noncomputable def l22_big_J2 (lb : Bool) (n : Nat) (anum1 : Int) (alinn2 : Bool) (alin3 : List (List CV)) (amil4 : Int) (i28 : Int) (i29 : Int) : Option CV :=
  hold (E0 lb n 0 997 (sub (B F_l22_big) [1, 1, 1]) (retK Tryd.prog (R F_l22_big) 0 (outK (tightF Tryd.prog F_l22_big))) ⟨fr 41 [(0, .val (.agg [.int .i64 anum1, .list alinn2 alin3, .int .i64 amil4])), (1, .ptr 0 1 0), (2, .val (.bool false)), (3, .val (.int .i64 i28)), (4, .val (.int .i64 i29))], [bx 41 [(1, some [.val (.int .i64 anum1), .val (.list alinn2 alin3), .val (.int .i64 amil4)])]], KK⟩)

theorem l22_big_J2_eq (lb : Bool) (n : Nat) (anum1 : Int) (alinn2 : Bool) (alin3 : List (List CV)) (amil4 : Int) (i28 : Int) (i29 : Int) :
  l22_big_J2 lb n anum1 alinn2 alin3 amil4 i28 i29 =
 bif (decide (i28 > 2000)) then
 (some (.bool true))
 else
 (some (.bool (decide ((alin3.length : Int) > 140)))) := (hold_eq _).trans (by kernel_rfl)

theorem l22_big_L1_succ (lb : Bool) (n k21 : Nat) (anum1 : Int) (alinn2 : Bool) (alin3 : List (List CV)) (amil4 : Int) (i12 : Int) (i13 : Int) :
  l22_big_L1 lb n (k21 + 1) anum1 alinn2 alin3 amil4 i12 i13 =
 bif (decide (i13 < (alin3.length : Int))) then
 (bif (decide (i13 < 200)) then
 (optO (atL alin3 i13) fun c22 =>
 chkO (c22.length == 2) (
 optO (c22[0]?) fun x23 =>
 optO (CV.asS x23) fun s24 =>
 optO (atL alin3 i13) fun c25 =>
 chkO (c25.length == 2) (
 optO (c25[1]?) fun x26 =>
 optO (CV.asS x26) fun s27 =>
 l22_big_L1 lb n k21 anum1 alinn2 alin3 amil4 (IntKind.wrap .i64 ((IntKind.wrap .i64 (i12 + (s24.length : Int))) + (s27.length : Int))) (IntKind.wrap .i64 (i13 + 1)))))
 else
 (l22_big_J2 lb n anum1 alinn2 alin3 amil4 i12 i13))
 else
 (l22_big_J2 lb n anum1 alinn2 alin3 amil4 i12 i13) := (hold_eq _).trans (by kernel_rfl)

theorem l22_big_L1_zero (lb : Bool) (n : Nat) (anum1 : Int) (alinn2 : Bool) (alin3 : List (List CV)) (amil4 : Int) (i12 : Int) (i13 : Int) :
  l22_big_L1 lb n 0 anum1 alinn2 alin3 amil4 i12 i13 =
 none := (hold_eq _).trans (by kernel_rfl)

theorem l22_big_eq (lb : Bool) (n : Nat) (anum1 : Int) (alinn2 : Bool) (alin3 : List (List CV)) (amil4 : Int) :
  top lb n F_l22_big [.agg [.int .i64 anum1, .list alinn2 alin3, .int .i64 amil4]] =
 l22_big_L1 lb n n anum1 alinn2 alin3 amil4 0 0 := by kernel_rfl

/-! airline/airlineref22.Check -/
noncomputable def r22_Check_J1 (lb : Bool) (n : Nat) (anum1 : Int) (alinn2 : Bool) (alin3 : List (List CV)) (amil4 : Int) (b5 : Bool) (l6 : List (List CV)) : Option CV :=
  hold (E0 lb n 0 997 (sub (B F_r22_Check) [1, 1, 1]) (retK Tryd.prog (R F_r22_Check) 0 (outK (tightF Tryd.prog F_r22_Check))) ⟨fr 101 [(0, .val (.agg [.int .i64 anum1, .list alinn2 alin3, .int .i64 amil4])), (1, .ptr 0 1 0), (2, .lst true true 42 []), (3, .lst true b5 42 l6)], [bx 101 [(1, some [.val (.int .i64 anum1), .val (.list alinn2 alin3), .val (.int .i64 amil4)])]], KK⟩)

noncomputable def r22_Check_J2 (lb : Bool) (n : Nat) (anum1 : Int) (alinn2 : Bool) (alin3 : List (List CV)) (amil4 : Int) (b7 : Bool) (l9 : List (List CV)) : Option CV :=
  hold (E0 lb n 0 996 (sub (B F_r22_Check) [1, 1, 1, 1]) (retK Tryd.prog (R F_r22_Check) 0 (outK (tightF Tryd.prog F_r22_Check))) ⟨fr 101 [(0, .val (.agg [.int .i64 anum1, .list alinn2 alin3, .int .i64 amil4])), (1, .ptr 0 1 0), (2, .lst true true 42 []), (3, .lst true b7 42 l9)], [bx 101 [(1, some [.val (.int .i64 anum1), .val (.list alinn2 alin3), .val (.int .i64 amil4)])]], KK⟩)

noncomputable def r22_Check_L3 (lb : Bool) (n : Nat) (k103 : Nat) (anum1 : Int) (alinn2 : Bool) (alin3 : List (List CV)) (amil4 : Int) (b73 : Bool) (l74 : List (List CV)) (i75 : Int) : Option CV :=
  hold (loopC (E0 lb n 0 992) 0 (loopTemps (sub (B F_r22_Check) [1, 1, 1, 1, 0, 1, 0, 0]) ++ [6]) [5] (sub (B F_r22_Check) [1, 1, 1, 1, 0, 1, 0, 0]) (blockK 0 (seqK (E0 lb n 0 995) (sub (B F_r22_Check) [1, 1, 1, 1, 0]) (sub (B F_r22_Check) [1, 1, 1, 1, 1]) (retK Tryd.prog (R F_r22_Check) 0 (outK (tightF Tryd.prog F_r22_Check))))) k103 ⟨fr 101 [(0, .val (.agg [.int .i64 anum1, .list alinn2 alin3, .int .i64 amil4])), (1, .ptr 0 1 0), (2, .lst true true 42 []), (3, .lst true b73 42 l74), (4, .val (.int .i64 i75))], [bx 101 [(1, some [.val (.int .i64 anum1), .val (.list alinn2 alin3), .val (.int .i64 amil4)])]], KK⟩)

noncomputable def r22_Check_J4 (lb : Bool) (n : Nat) (k103 : Nat) (anum1 : Int) (alinn2 : Bool) (alin3 : List (List CV)) (amil4 : Int) (i75 : Int) (s108 : List UInt8) (c104 : List CV) (x105 : CV) (x106 : CV) (r107 : CV) (b111 : Bool) (l112 : List (List CV)) : Option CV :=
  hold (E0 lb n 0 986 (sub (B F_r22_Check) [1, 1, 1, 1, 0, 1, 0, 0, 1, 0, 0, 1, 1, 1]) (blockK 1 (seqK (E0 lb n 0 990) (sub (B F_r22_Check) [1, 1, 1, 1, 0, 1, 0, 0, 1, 0]) (sub (B F_r22_Check) [1, 1, 1, 1, 0, 1, 0, 0, 1, 1]) (loopK 0 (loopTemps (sub (B F_r22_Check) [1, 1, 1, 1, 0, 1, 0, 0]) ++ [6]) [5] (loopC (E0 lb n 0 992) 0 (loopTemps (sub (B F_r22_Check) [1, 1, 1, 1, 0, 1, 0, 0]) ++ [6]) [5] (sub (B F_r22_Check) [1, 1, 1, 1, 0, 1, 0, 0]) (blockK 0 (seqK (E0 lb n 0 995) (sub (B F_r22_Check) [1, 1, 1, 1, 0]) (sub (B F_r22_Check) [1, 1, 1, 1, 1]) (retK Tryd.prog (R F_r22_Check) 0 (outK (tightF Tryd.prog F_r22_Check))))) k103) (blockK 0 (seqK (E0 lb n 0 995) (sub (B F_r22_Check) [1, 1, 1, 1, 0]) (sub (B F_r22_Check) [1, 1, 1, 1, 1]) (retK Tryd.prog (R F_r22_Check) 0 (outK (tightF Tryd.prog F_r22_Check)))))))) ⟨fr 101 [(0, .val (.agg [.int .i64 anum1, .list alinn2 alin3, .int .i64 amil4])), (1, .ptr 0 1 0), (2, .lst true true 42 []), (3, .lst true b111 42 l112), (4, .val (.int .i64 i75)), (5, .ptr 0 5 0), (6, .val (.str (([108, 105, 110, 107, 32] : List UInt8) ++ s108))), (40, .ptr 0 1 1), (41, .val (.list alinn2 alin3)), (42, .val (.int .i64 i75)), (43, .cptr c104 0), (44, .val (.agg [x105, x106])), (45, .val (.int .i64 i75)), (46, .val r107), (47, .val (.str (([108, 105, 110, 107, 32] : List UInt8) ++ s108)))], [bx 101 [(1, some [.val (.int .i64 anum1), .val (.list alinn2 alin3), .val (.int .i64 amil4)]), (5, some [.val x105, .val x106])]], KK⟩)

noncomputable def r22_Check_J5 (lb : Bool) (n : Nat) (k103 : Nat) (anum1 : Int) (alinn2 : Bool) (alin3 : List (List CV)) (amil4 : Int) (i75 : Int) (s108 : List UInt8) (c104 : List CV) (x105 : CV) (x106 : CV) (r107 : CV) (b115 : Bool) (l116 : List (List CV)) : Option CV :=
  hold (E0 lb n 0 985 (sub (B F_r22_Check) [1, 1, 1, 1, 0, 1, 0, 0, 1, 0, 0, 1, 1, 1, 1]) (blockK 1 (seqK (E0 lb n 0 990) (sub (B F_r22_Check) [1, 1, 1, 1, 0, 1, 0, 0, 1, 0]) (sub (B F_r22_Check) [1, 1, 1, 1, 0, 1, 0, 0, 1, 1]) (loopK 0 (loopTemps (sub (B F_r22_Check) [1, 1, 1, 1, 0, 1, 0, 0]) ++ [6]) [5] (loopC (E0 lb n 0 992) 0 (loopTemps (sub (B F_r22_Check) [1, 1, 1, 1, 0, 1, 0, 0]) ++ [6]) [5] (sub (B F_r22_Check) [1, 1, 1, 1, 0, 1, 0, 0]) (blockK 0 (seqK (E0 lb n 0 995) (sub (B F_r22_Check) [1, 1, 1, 1, 0]) (sub (B F_r22_Check) [1, 1, 1, 1, 1]) (retK Tryd.prog (R F_r22_Check) 0 (outK (tightF Tryd.prog F_r22_Check))))) k103) (blockK 0 (seqK (E0 lb n 0 995) (sub (B F_r22_Check) [1, 1, 1, 1, 0]) (sub (B F_r22_Check) [1, 1, 1, 1, 1]) (retK Tryd.prog (R F_r22_Check) 0 (outK (tightF Tryd.prog F_r22_Check)))))))) ⟨fr 101 [(0, .val (.agg [.int .i64 anum1, .list alinn2 alin3, .int .i64 amil4])), (1, .ptr 0 1 0), (2, .lst true true 42 []), (3, .lst true b115 42 l116), (4, .val (.int .i64 i75)), (5, .ptr 0 5 0), (6, .val (.str (([108, 105, 110, 107, 32] : List UInt8) ++ s108))), (40, .ptr 0 1 1), (41, .val (.list alinn2 alin3)), (42, .val (.int .i64 i75)), (43, .cptr c104 0), (44, .val (.agg [x105, x106])), (45, .val (.int .i64 i75)), (46, .val r107), (47, .val (.str (([108, 105, 110, 107, 32] : List UInt8) ++ s108)))], [bx 101 [(1, some [.val (.int .i64 anum1), .val (.list alinn2 alin3), .val (.int .i64 amil4)]), (5, some [.val x105, .val x106])]], KK⟩)

theorem r22_Check_J5_eq (lb : Bool) (n : Nat) (k103 : Nat) (anum1 : Int) (alinn2 : Bool) (alin3 : List (List CV)) (amil4 : Int) (i75 : Int) (s108 : List UInt8) (c104 : List CV) (x105 : CV) (x106 : CV) (r107 : CV) (b115 : Bool) (l116 : List (List CV)) :
  r22_Check_J5 lb n k103 anum1 alinn2 alin3 amil4 i75 s108 c104 x105 x106 r107 b115 l116 =
 chkO (alin3.all (·.length == 2)) (
 chkO (decide ((0 : Int) ≤ i75 ∧ i75 ≤ (alin3.length : Int))) (
 optO (C lb n F_r22_Link [.list alinn2 ((alin3.take i75.toNat).drop 0), x105, x106]) fun r117 =>
 optO (CV.asI .i64 r117) fun i118 =>
 bif (decide (i118 ≥ 0)) then
 (chkO (room (l116.length + 1) 24) (
 r22_Check_L3 lb n k103 anum1 alinn2 alin3 amil4 (b115 && false) (l116 ++ [[CV.int .i64 6, CV.str (([108, 105, 110, 107, 32] : List UInt8) ++ s108)]]) (IntKind.wrap .i64 (i75 + 1))))
 else
 (r22_Check_L3 lb n k103 anum1 alinn2 alin3 amil4 b115 l116 (IntKind.wrap .i64 (i75 + 1))))) := (hold_eq _).trans (by kernel_rfl)

theorem r22_Check_J4_eq (lb : Bool) (n : Nat) (k103 : Nat) (anum1 : Int) (alinn2 : Bool) (alin3 : List (List CV)) (amil4 : Int) (i75 : Int) (s108 : List UInt8) (c104 : List CV) (x105 : CV) (x106 : CV) (r107 : CV) (b111 : Bool) (l112 : List (List CV)) :
  r22_Check_J4 lb n k103 anum1 alinn2 alin3 amil4 i75 s108 c104 x105 x106 r107 b111 l112 =
 optO (CV.asS x105) fun s113 =>
 optO (CV.asS x106) fun s114 =>
 bif (s113 == s114) then
 (chkO (room (l112.length + 1) 24) (
 r22_Check_J5 lb n k103 anum1 alinn2 alin3 amil4 i75 s108 c104 x105 x106 r107 (b111 && false) (l112 ++ [[CV.int .i64 2, CV.str (([108, 105, 110, 107, 32] : List UInt8) ++ s108)]])))
 else
 (r22_Check_J5 lb n k103 anum1 alinn2 alin3 amil4 i75 s108 c104 x105 x106 r107 b111 l112) := (hold_eq _).trans (by kernel_rfl)

noncomputable def r22_Check_J6 (lb : Bool) (n : Nat) (anum1 : Int) (alinn2 : Bool) (alin3 : List (List CV)) (amil4 : Int) (b121 : Bool) (l122 : List (List CV)) (i123 : Int) : Option CV :=
  hold (E0 lb n 0 995 (sub (B F_r22_Check) [1, 1, 1, 1, 1]) (retK Tryd.prog (R F_r22_Check) 0 (outK (tightF Tryd.prog F_r22_Check))) ⟨fr 101 [(0, .val (.agg [.int .i64 anum1, .list alinn2 alin3, .int .i64 amil4])), (1, .ptr 0 1 0), (2, .lst true true 42 []), (3, .lst true b121 42 l122), (4, .val (.int .i64 i123))], [bx 101 [(1, some [.val (.int .i64 anum1), .val (.list alinn2 alin3), .val (.int .i64 amil4)])]], KK⟩)

theorem r22_Check_J6_eq (lb : Bool) (n : Nat) (anum1 : Int) (alinn2 : Bool) (alin3 : List (List CV)) (amil4 : Int) (b121 : Bool) (l122 : List (List CV)) (i123 : Int) :
  r22_Check_J6 lb n anum1 alinn2 alin3 amil4 b121 l122 i123 =
 bif (decide (amil4 < 0)) then
 (chkO (room (l122.length + 1) 24) (
 some (.list (b121 && false) (l122 ++ [[CV.int .i64 2, CV.str [109, 105, 108, 101, 115]]]))))
 else
 (bif (decide (amil4 > 99999)) then
 (chkO (room (l122.length + 1) 24) (
 some (.list (b121 && false) (l122 ++ [[CV.int .i64 2, CV.str [109, 105, 108, 101, 115]]]))))
 else
 (some (.list b121 l122))) := (hold_eq _).trans (by kernel_rfl)

theorem r22_Check_L3_succ (lb : Bool) (n k103 : Nat) (anum1 : Int) (alinn2 : Bool) (alin3 : List (List CV)) (amil4 : Int) (b73 : Bool) (l74 : List (List CV)) (i75 : Int) :
  r22_Check_L3 lb n (k103 + 1) anum1 alinn2 alin3 amil4 b73 l74 i75 =
 bif (decide (i75 < (alin3.length : Int))) then
 (bif (decide ((alin3.length : Int) ≤ 128)) then
 (optO (atL alin3 i75) fun c104 =>
 chkO (c104.length == 2) (
 optO (c104[0]?) fun x105 =>
 optO (c104[1]?) fun x106 =>
 optO (C lb n F_r01_Decimal [.int .i64 i75]) fun r107 =>
 optO (CV.asS r107) fun s108 =>
 chkO (decide (([108, 105, 110, 107, 32] : List UInt8).length + s108.length ≤ 9223372036854775807)) (
 optO (C lb n F_r01_Airport [x105]) fun r109 =>
 optO (CV.asB r109) fun b110 =>
 bif (!b110) then
 (chkO (room (l74.length + 1) 24) (
 r22_Check_J4 lb n k103 anum1 alinn2 alin3 amil4 i75 s108 c104 x105 x106 r107 (b73 && false) (l74 ++ [[CV.int .i64 5, CV.str (([108, 105, 110, 107, 32] : List UInt8) ++ s108)]])))
 else
 (optO (C lb n F_r01_Airport [x106]) fun r119 =>
 optO (CV.asB r119) fun b120 =>
 bif (!b120) then
 (chkO (room (l74.length + 1) 24) (
 r22_Check_J4 lb n k103 anum1 alinn2 alin3 amil4 i75 s108 c104 x105 x106 r107 (b73 && false) (l74 ++ [[CV.int .i64 5, CV.str (([108, 105, 110, 107, 32] : List UInt8) ++ s108)]])))
 else
 (r22_Check_J4 lb n k103 anum1 alinn2 alin3 amil4 i75 s108 c104 x105 x106 r107 b73 l74)))))
 else
 (r22_Check_J6 lb n anum1 alinn2 alin3 amil4 b73 l74 i75))
 else
 (r22_Check_J6 lb n anum1 alinn2 alin3 amil4 b73 l74 i75) := (hold_eq _).trans (by kernel_rfl)

theorem r22_Check_L3_zero (lb : Bool) (n : Nat) (anum1 : Int) (alinn2 : Bool) (alin3 : List (List CV)) (amil4 : Int) (b73 : Bool) (l74 : List (List CV)) (i75 : Int) :
  r22_Check_L3 lb n 0 anum1 alinn2 alin3 amil4 b73 l74 i75 =
 none := (hold_eq _).trans (by kernel_rfl)

theorem r22_Check_J2_eq (lb : Bool) (n : Nat) (anum1 : Int) (alinn2 : Bool) (alin3 : List (List CV)) (amil4 : Int) (b7 : Bool) (l9 : List (List CV)) :
  r22_Check_J2 lb n anum1 alinn2 alin3 amil4 b7 l9 =
 r22_Check_L3 lb n n anum1 alinn2 alin3 amil4 b7 l9 0 := (hold_eq _).trans (by kernel_rfl)

theorem r22_Check_J1_eq (lb : Bool) (n : Nat) (anum1 : Int) (alinn2 : Bool) (alin3 : List (List CV)) (amil4 : Int) (b5 : Bool) (l6 : List (List CV)) :
  r22_Check_J1 lb n anum1 alinn2 alin3 amil4 b5 l6 =
 bif (decide ((alin3.length : Int) > 128)) then
 (chkO (room (l6.length + 1) 24) (
 r22_Check_J2 lb n anum1 alinn2 alin3 amil4 (b5 && false) (l6 ++ [[CV.int .i64 4, CV.str [108, 105, 110, 107, 115]]])))
 else
 (r22_Check_J2 lb n anum1 alinn2 alin3 amil4 b5 l6) := (hold_eq _).trans (by kernel_rfl)

theorem r22_Check_eq (lb : Bool) (n : Nat) (anum1 : Int) (alinn2 : Bool) (alin3 : List (List CV)) (amil4 : Int) :
  top lb n F_r22_Check [.agg [.int .i64 anum1, .list alinn2 alin3, .int .i64 amil4]] =
 bif (decide (anum1 < 1)) then
 (r22_Check_J1 lb n anum1 alinn2 alin3 amil4 false [[CV.int .i64 2, CV.str [110, 117, 109, 98, 101, 114]]])
 else
 (bif (decide (anum1 > 9999)) then
 (r22_Check_J1 lb n anum1 alinn2 alin3 amil4 false [[CV.int .i64 2, CV.str [110, 117, 109, 98, 101, 114]]])
 else
 (r22_Check_J1 lb n anum1 alinn2 alin3 amil4 true [])) := by kernel_rfl

/-! airline/routing.Allows -/
noncomputable def routing_Allows_L1 (lb : Bool) (n : Nat) (k22 : Nat) (anum1 : Int) (alinn2 : Bool) (alin3 : List (List CV)) (amil4 : Int) (bn5 : Bool) (b6 : List (List CV)) (i14 : Int) : Option CV :=
  hold (loopC (E0 lb n 0 994) 0 (loopTemps (sub (B F_routing_Allows) [1, 1, 0, 1, 0, 0]) ++ []) [] (sub (B F_routing_Allows) [1, 1, 0, 1, 0, 0]) (blockK 0 (seqK (E0 lb n 0 997) (sub (B F_routing_Allows) [1, 1, 0]) (sub (B F_routing_Allows) [1, 1, 1]) (retK Tryd.prog (R F_routing_Allows) 0 (outK (tightF Tryd.prog F_routing_Allows))))) k22 ⟨fr 30 [(0, .val (.agg [.int .i64 anum1, .list alinn2 alin3, .int .i64 amil4])), (1, .val (.list bn5 b6)), (2, .ptr 0 2 0), (4, .val (.bool false)), (5, .val (.int .i64 i14))], [bx 30 [(2, some [.val (.int .i64 anum1), .val (.list alinn2 alin3), .val (.int .i64 amil4)])]], KK⟩)

noncomputable def routing_Allows_J2 (lb : Bool) (n : Nat) (anum1 : Int) (alinn2 : Bool) (alin3 : List (List CV)) (amil4 : Int) (bn5 : Bool) (b6 : List (List CV)) (i29 : Int) : Option CV :=
  hold (E0 lb n 0 997 (sub (B F_routing_Allows) [1, 1, 1]) (retK Tryd.prog (R F_routing_Allows) 0 (outK (tightF Tryd.prog F_routing_Allows))) ⟨fr 30 [(0, .val (.agg [.int .i64 anum1, .list alinn2 alin3, .int .i64 amil4])), (1, .val (.list bn5 b6)), (2, .ptr 0 2 0), (4, .val (.bool false)), (5, .val (.int .i64 i29))], [bx 30 [(2, some [.val (.int .i64 anum1), .val (.list alinn2 alin3), .val (.int .i64 amil4)])]], KK⟩)

theorem routing_Allows_J2_eq (lb : Bool) (n : Nat) (anum1 : Int) (alinn2 : Bool) (alin3 : List (List CV)) (amil4 : Int) (bn5 : Bool) (b6 : List (List CV)) (i29 : Int) :
  routing_Allows_J2 lb n anum1 alinn2 alin3 amil4 bn5 b6 i29 =
 some (.bool true) := (hold_eq _).trans (by kernel_rfl)

theorem routing_Allows_L1_succ (lb : Bool) (n k22 : Nat) (anum1 : Int) (alinn2 : Bool) (alin3 : List (List CV)) (amil4 : Int) (bn5 : Bool) (b6 : List (List CV)) (i14 : Int) :
  routing_Allows_L1 lb n (k22 + 1) anum1 alinn2 alin3 amil4 bn5 b6 i14 =
 bif (decide (i14 < (b6.length : Int))) then
 (optO (atL b6 (IntKind.wrap .i64 (i14 - 1))) fun c23 =>
 chkO (c23.length == 1) (
 optO (c23[0]?) fun x24 =>
 optO (atL b6 i14) fun c25 =>
 chkO (c25.length == 1) (
 optO (c25[0]?) fun x26 =>
 chkO (CV.isCell x24) (
 chkO (CV.isCell x26) (
 optO (C lb n F_slices_Contains_api_Link [.list alinn2 alin3, .agg [x24, x26]]) fun r27 =>
 optO (CV.asB r27) fun b28 =>
 bif (!b28) then
 (some (.bool false))
 else
 (routing_Allows_L1 lb n k22 anum1 alinn2 alin3 amil4 bn5 b6 (IntKind.wrap .i64 (i14 + 1))))))))
 else
 (routing_Allows_J2 lb n anum1 alinn2 alin3 amil4 bn5 b6 i14) := (hold_eq _).trans (by kernel_rfl)

theorem routing_Allows_L1_zero (lb : Bool) (n : Nat) (anum1 : Int) (alinn2 : Bool) (alin3 : List (List CV)) (amil4 : Int) (bn5 : Bool) (b6 : List (List CV)) (i14 : Int) :
  routing_Allows_L1 lb n 0 anum1 alinn2 alin3 amil4 bn5 b6 i14 =
 none := (hold_eq _).trans (by kernel_rfl)

theorem routing_Allows_eq (lb : Bool) (n : Nat) (anum1 : Int) (alinn2 : Bool) (alin3 : List (List CV)) (amil4 : Int) (bn5 : Bool) (b6 : List (List CV)) :
  top lb n F_routing_Allows [.agg [.int .i64 anum1, .list alinn2 alin3, .int .i64 amil4], .list bn5 b6] =
 bif ((alin3.length : Int) == 0) then
 (some (.bool true))
 else
 (routing_Allows_L1 lb n n anum1 alinn2 alin3 amil4 bn5 b6 1) := by kernel_rfl

/-! airline/airlinelaw22.twice -/
noncomputable def l22_twice_L1 (lb : Bool) (n : Nat) (k25 : Nat) (an1 : Bool) (a2 : List (List CV)) (i3 : Int) : Option CV :=
  hold (loopC (E0 lb n 0 995) 0 (loopTemps (sub (B F_l22_twice) [1, 0, 1, 0, 0]) ++ [4, 4]) [] (sub (B F_l22_twice) [1, 0, 1, 0, 0]) (blockK 0 (seqK (E0 lb n 0 998) (sub (B F_l22_twice) [1, 0]) (sub (B F_l22_twice) [1, 1]) (retK Tryd.prog (R F_l22_twice) 0 (outK (tightF Tryd.prog F_l22_twice))))) k25 ⟨fr 25 [(0, .val (.list an1 a2)), (2, .val (.bool false)), (3, .val (.int .i64 i3))], [bx 25 []], KK⟩)

noncomputable def l22_twice_L2 (lb : Bool) (n : Nat) (k40 : Nat) (k25 : Nat) (an1 : Bool) (a2 : List (List CV)) (i3 : Int) (i33 : Int) : Option CV :=
  hold (loopC (E0 lb n 0 989) 0 (loopTemps (sub (B F_l22_twice) [1, 0, 1, 0, 0, 1, 0, 0, 1, 0, 0]) ++ []) [] (sub (B F_l22_twice) [1, 0, 1, 0, 0, 1, 0, 0, 1, 0, 0]) (blockK 2 (blockK 1 (seqK (E0 lb n 0 993) (sub (B F_l22_twice) [1, 0, 1, 0, 0, 1, 0]) (sub (B F_l22_twice) [1, 0, 1, 0, 0, 1, 1]) (loopK 0 (loopTemps (sub (B F_l22_twice) [1, 0, 1, 0, 0]) ++ [4, 4]) [] (loopC (E0 lb n 0 995) 0 (loopTemps (sub (B F_l22_twice) [1, 0, 1, 0, 0]) ++ [4, 4]) [] (sub (B F_l22_twice) [1, 0, 1, 0, 0]) (blockK 0 (seqK (E0 lb n 0 998) (sub (B F_l22_twice) [1, 0]) (sub (B F_l22_twice) [1, 1]) (retK Tryd.prog (R F_l22_twice) 0 (outK (tightF Tryd.prog F_l22_twice))))) k25) (blockK 0 (seqK (E0 lb n 0 998) (sub (B F_l22_twice) [1, 0]) (sub (B F_l22_twice) [1, 1]) (retK Tryd.prog (R F_l22_twice) 0 (outK (tightF Tryd.prog F_l22_twice))))))))) k40 ⟨fr 25 [(0, .val (.list an1 a2)), (2, .val (.bool false)), (3, .val (.int .i64 i3)), (4, .val (.int .i64 i33))], [bx 25 []], KK⟩)

noncomputable def l22_twice_J3 (lb : Bool) (n : Nat) (k25 : Nat) (an1 : Bool) (a2 : List (List CV)) (i3 : Int) (i47 : Int) : Option CV :=
  hold (E0 lb n 0 993 (sub (B F_l22_twice) [1, 0, 1, 0, 0, 1, 1]) (loopK 0 (loopTemps (sub (B F_l22_twice) [1, 0, 1, 0, 0]) ++ [4, 4]) [] (loopC (E0 lb n 0 995) 0 (loopTemps (sub (B F_l22_twice) [1, 0, 1, 0, 0]) ++ [4, 4]) [] (sub (B F_l22_twice) [1, 0, 1, 0, 0]) (blockK 0 (seqK (E0 lb n 0 998) (sub (B F_l22_twice) [1, 0]) (sub (B F_l22_twice) [1, 1]) (retK Tryd.prog (R F_l22_twice) 0 (outK (tightF Tryd.prog F_l22_twice))))) k25) (blockK 0 (seqK (E0 lb n 0 998) (sub (B F_l22_twice) [1, 0]) (sub (B F_l22_twice) [1, 1]) (retK Tryd.prog (R F_l22_twice) 0 (outK (tightF Tryd.prog F_l22_twice)))))) ⟨fr 25 [(0, .val (.list an1 a2)), (2, .val (.bool false)), (3, .val (.int .i64 i3)), (4, .val (.int .i64 i47))], [bx 25 []], KK⟩)

theorem l22_twice_J3_eq (lb : Bool) (n : Nat) (k25 : Nat) (an1 : Bool) (a2 : List (List CV)) (i3 : Int) (i47 : Int) :
  l22_twice_J3 lb n k25 an1 a2 i3 i47 =
 l22_twice_L1 lb n k25 an1 a2 (IntKind.wrap .i64 (i3 + 1)) := (hold_eq _).trans (by kernel_rfl)

theorem l22_twice_L2_succ (lb : Bool) (n k40 : Nat) (k25 : Nat) (an1 : Bool) (a2 : List (List CV)) (i3 : Int) (i33 : Int) :
  l22_twice_L2 lb n (k40 + 1) k25 an1 a2 i3 i33 =
 bif (decide (i33 < i3)) then
 (optO (atL a2 i3) fun c41 =>
 chkO (c41.length == 1) (
 optO (c41[0]?) fun x42 =>
 optO (atL a2 i33) fun c43 =>
 chkO (c43.length == 1) (
 optO (c43[0]?) fun x44 =>
 optO (CV.asS x42) fun s45 =>
 optO (CV.asS x44) fun s46 =>
 bif (s45 == s46) then
 (some (.bool true))
 else
 (l22_twice_L2 lb n k40 k25 an1 a2 i3 (IntKind.wrap .i64 (i33 + 1))))))
 else
 (l22_twice_J3 lb n k25 an1 a2 i3 i33) := (hold_eq _).trans (by kernel_rfl)

theorem l22_twice_L2_zero (lb : Bool) (n : Nat) (k25 : Nat) (an1 : Bool) (a2 : List (List CV)) (i3 : Int) (i33 : Int) :
  l22_twice_L2 lb n 0 k25 an1 a2 i3 i33 =
 none := (hold_eq _).trans (by kernel_rfl)

noncomputable def l22_twice_J4 (lb : Bool) (n : Nat) (an1 : Bool) (a2 : List (List CV)) (i48 : Int) : Option CV :=
  hold (E0 lb n 0 998 (sub (B F_l22_twice) [1, 1]) (retK Tryd.prog (R F_l22_twice) 0 (outK (tightF Tryd.prog F_l22_twice))) ⟨fr 25 [(0, .val (.list an1 a2)), (2, .val (.bool false)), (3, .val (.int .i64 i48))], [bx 25 []], KK⟩)

theorem l22_twice_J4_eq (lb : Bool) (n : Nat) (an1 : Bool) (a2 : List (List CV)) (i48 : Int) :
  l22_twice_J4 lb n an1 a2 i48 =
 some (.bool false) := (hold_eq _).trans (by kernel_rfl)

theorem l22_twice_L1_succ (lb : Bool) (n k25 : Nat) (an1 : Bool) (a2 : List (List CV)) (i3 : Int) :
  l22_twice_L1 lb n (k25 + 1) an1 a2 i3 =
 bif (decide (i3 < (a2.length : Int))) then
 (l22_twice_L2 lb n n k25 an1 a2 i3 0)
 else
 (l22_twice_J4 lb n an1 a2 i3) := (hold_eq _).trans (by kernel_rfl)

theorem l22_twice_L1_zero (lb : Bool) (n : Nat) (an1 : Bool) (a2 : List (List CV)) (i3 : Int) :
  l22_twice_L1 lb n 0 an1 a2 i3 =
 none := (hold_eq _).trans (by kernel_rfl)

theorem l22_twice_eq (lb : Bool) (n : Nat) (an1 : Bool) (a2 : List (List CV)) :
  top lb n F_l22_twice [.list an1 a2] =
 l22_twice_L1 lb n n an1 a2 0 := by kernel_rfl

/-! airline/airlineref22.Link -/
noncomputable def r22_Link_L1 (lb : Bool) (n : Nat) (k21 : Nat) (an1 : Bool) (a2 : List (List CV)) (b3 : List UInt8) (c4 : List UInt8) (i13 : Int) : Option CV :=
  hold (loopC (E0 lb n 0 995) 0 (loopTemps (sub (B F_r22_Link) [1, 0, 1, 0, 0]) ++ []) [] (sub (B F_r22_Link) [1, 0, 1, 0, 0]) (blockK 0 (seqK (E0 lb n 0 998) (sub (B F_r22_Link) [1, 0]) (sub (B F_r22_Link) [1, 1]) (retK Tryd.prog (R F_r22_Link) 0 (outK (tightF Tryd.prog F_r22_Link))))) k21 ⟨fr 31 [(0, .val (.list an1 a2)), (1, .val (.str b3)), (2, .val (.str c4)), (6, .val (.int .i64 0)), (7, .val (.int .i64 i13))], [bx 31 []], KK⟩)

noncomputable def r22_Link_J2 (lb : Bool) (n : Nat) (an1 : Bool) (a2 : List (List CV)) (b3 : List UInt8) (c4 : List UInt8) (i28 : Int) : Option CV :=
  hold (E0 lb n 0 998 (sub (B F_r22_Link) [1, 1]) (retK Tryd.prog (R F_r22_Link) 0 (outK (tightF Tryd.prog F_r22_Link))) ⟨fr 31 [(0, .val (.list an1 a2)), (1, .val (.str b3)), (2, .val (.str c4)), (6, .val (.int .i64 0)), (7, .val (.int .i64 i28))], [bx 31 []], KK⟩)

theorem r22_Link_J2_eq (lb : Bool) (n : Nat) (an1 : Bool) (a2 : List (List CV)) (b3 : List UInt8) (c4 : List UInt8) (i28 : Int) :
  r22_Link_J2 lb n an1 a2 b3 c4 i28 =
 some (.int .i64 (-1)) := (hold_eq _).trans (by kernel_rfl)

theorem r22_Link_L1_succ (lb : Bool) (n k21 : Nat) (an1 : Bool) (a2 : List (List CV)) (b3 : List UInt8) (c4 : List UInt8) (i13 : Int) :
  r22_Link_L1 lb n (k21 + 1) an1 a2 b3 c4 i13 =
 bif (decide (i13 < (a2.length : Int))) then
 (optO (atL a2 i13) fun c22 =>
 chkO (c22.length == 2) (
 optO (c22[0]?) fun x23 =>
 optO (CV.asS x23) fun s24 =>
 bif (s24 == b3) then
 (optO (atL a2 i13) fun c25 =>
 chkO (c25.length == 2) (
 optO (c25[1]?) fun x26 =>
 optO (CV.asS x26) fun s27 =>
 bif (s27 == c4) then
 (some (.int .i64 i13))
 else
 (r22_Link_L1 lb n k21 an1 a2 b3 c4 (IntKind.wrap .i64 (i13 + 1)))))
 else
 (r22_Link_L1 lb n k21 an1 a2 b3 c4 (IntKind.wrap .i64 (i13 + 1)))))
 else
 (r22_Link_J2 lb n an1 a2 b3 c4 i13) := (hold_eq _).trans (by kernel_rfl)

theorem r22_Link_L1_zero (lb : Bool) (n : Nat) (an1 : Bool) (a2 : List (List CV)) (b3 : List UInt8) (c4 : List UInt8) (i13 : Int) :
  r22_Link_L1 lb n 0 an1 a2 b3 c4 i13 =
 none := (hold_eq _).trans (by kernel_rfl)

theorem r22_Link_eq (lb : Bool) (n : Nat) (an1 : Bool) (a2 : List (List CV)) (b3 : List UInt8) (c4 : List UInt8) :
  top lb n F_r22_Link [.list an1 a2, .str b3, .str c4] =
 r22_Link_L1 lb n n an1 a2 b3 c4 0 := by kernel_rfl

/-! airline/airlineref22.longer -/
noncomputable def r22_longer_L1 (lb : Bool) (n : Nat) (k126 : Nat) (anum1 : Int) (alinn2 : Bool) (alin3 : List (List CV)) (amil4 : Int) (bn5 : Bool) (b6 : List (List CV)) (b67 : Bool) (l68 : List (List CV)) (i69 : Int) : Option CV :=
  hold (loopC (E0 lb n 0 994) 0 (loopTemps (sub (B F_r22_longer) [1, 1, 0, 1, 0, 0]) ++ [7, 8, 9, 9, 8]) [] (sub (B F_r22_longer) [1, 1, 0, 1, 0, 0]) (blockK 0 (seqK (E0 lb n 0 997) (sub (B F_r22_longer) [1, 1, 0]) (sub (B F_r22_longer) [1, 1, 1]) (retK Tryd.prog (R F_r22_longer) 0 (outK (tightF Tryd.prog F_r22_longer))))) k126 ⟨fr 67 [(0, .val (.agg [.int .i64 anum1, .list alinn2 alin3, .int .i64 amil4])), (1, .val (.list bn5 b6)), (2, .ptr 0 2 0), (4, .lst true true 34 []), (5, .lst true b67 34 l68), (6, .val (.int .i64 i69))], [bx 67 [(2, some [.val (.int .i64 anum1), .val (.list alinn2 alin3), .val (.int .i64 amil4)])]], KK⟩)

noncomputable def r22_longer_L2 (lb : Bool) (n : Nat) (k168 : Nat) (k126 : Nat) (anum1 : Int) (alinn2 : Bool) (alin3 : List (List CV)) (amil4 : Int) (bn5 : Bool) (b6 : List (List CV)) (i69 : Int) (x128 : CV) (c127 : List CV) (b150 : Bool) (l151 : List (List CV)) (i152 : Int) : Option CV :=
  hold (loopC (E0 lb n 0 987) 0 (loopTemps (sub (B F_r22_longer) [1, 1, 0, 1, 0, 0, 1, 0, 0, 1, 1, 0, 0]) ++ [9, 9]) [] (sub (B F_r22_longer) [1, 1, 0, 1, 0, 0, 1, 0, 0, 1, 1, 0, 0]) (blockK 2 (blockK 1 (seqK (E0 lb n 0 992) (sub (B F_r22_longer) [1, 1, 0, 1, 0, 0, 1, 0]) (sub (B F_r22_longer) [1, 1, 0, 1, 0, 0, 1, 1]) (loopK 0 (loopTemps (sub (B F_r22_longer) [1, 1, 0, 1, 0, 0]) ++ [7, 8, 9, 9, 8]) [] (loopC (E0 lb n 0 994) 0 (loopTemps (sub (B F_r22_longer) [1, 1, 0, 1, 0, 0]) ++ [7, 8, 9, 9, 8]) [] (sub (B F_r22_longer) [1, 1, 0, 1, 0, 0]) (blockK 0 (seqK (E0 lb n 0 997) (sub (B F_r22_longer) [1, 1, 0]) (sub (B F_r22_longer) [1, 1, 1]) (retK Tryd.prog (R F_r22_longer) 0 (outK (tightF Tryd.prog F_r22_longer))))) k126) (blockK 0 (seqK (E0 lb n 0 997) (sub (B F_r22_longer) [1, 1, 0]) (sub (B F_r22_longer) [1, 1, 1]) (retK Tryd.prog (R F_r22_longer) 0 (outK (tightF Tryd.prog F_r22_longer))))))))) k168 ⟨fr 67 [(0, .val (.agg [.int .i64 anum1, .list alinn2 alin3, .int .i64 amil4])), (1, .val (.list bn5 b6)), (2, .ptr 0 2 0), (4, .lst true true 34 []), (5, .lst true b150 34 l151), (6, .val (.int .i64 i69)), (7, .val x128), (8, .val (.int .i64 i152)), (16, .val (.list bn5 b6)), (17, .val (.int .i64 i69)), (18, .cptr c127 0), (19, .val x128)], [bx 67 [(2, some [.val (.int .i64 anum1), .val (.list alinn2 alin3), .val (.int .i64 amil4)])]], KK⟩)

noncomputable def r22_longer_J3 (lb : Bool) (n : Nat) (k126 : Nat) (anum1 : Int) (alinn2 : Bool) (alin3 : List (List CV)) (amil4 : Int) (bn5 : Bool) (b6 : List (List CV)) (i69 : Int) (b184 : Bool) (l185 : List (List CV)) (v186 : CV) (i187 : Int) : Option CV :=
  hold (E0 lb n 0 992 (sub (B F_r22_longer) [1, 1, 0, 1, 0, 0, 1, 1]) (loopK 0 (loopTemps (sub (B F_r22_longer) [1, 1, 0, 1, 0, 0]) ++ [7, 8, 9, 9, 8]) [] (loopC (E0 lb n 0 994) 0 (loopTemps (sub (B F_r22_longer) [1, 1, 0, 1, 0, 0]) ++ [7, 8, 9, 9, 8]) [] (sub (B F_r22_longer) [1, 1, 0, 1, 0, 0]) (blockK 0 (seqK (E0 lb n 0 997) (sub (B F_r22_longer) [1, 1, 0]) (sub (B F_r22_longer) [1, 1, 1]) (retK Tryd.prog (R F_r22_longer) 0 (outK (tightF Tryd.prog F_r22_longer))))) k126) (blockK 0 (seqK (E0 lb n 0 997) (sub (B F_r22_longer) [1, 1, 0]) (sub (B F_r22_longer) [1, 1, 1]) (retK Tryd.prog (R F_r22_longer) 0 (outK (tightF Tryd.prog F_r22_longer)))))) ⟨fr 67 [(0, .val (.agg [.int .i64 anum1, .list alinn2 alin3, .int .i64 amil4])), (1, .val (.list bn5 b6)), (2, .ptr 0 2 0), (4, .lst true true 34 []), (5, .lst true b184 34 l185), (6, .val (.int .i64 i69)), (7, .val v186), (8, .val (.int .i64 i187))], [bx 67 [(2, some [.val (.int .i64 anum1), .val (.list alinn2 alin3), .val (.int .i64 amil4)])]], KK⟩)

theorem r22_longer_J3_eq (lb : Bool) (n : Nat) (k126 : Nat) (anum1 : Int) (alinn2 : Bool) (alin3 : List (List CV)) (amil4 : Int) (bn5 : Bool) (b6 : List (List CV)) (i69 : Int) (b184 : Bool) (l185 : List (List CV)) (v186 : CV) (i187 : Int) :
  r22_longer_J3 lb n k126 anum1 alinn2 alin3 amil4 bn5 b6 i69 b184 l185 v186 i187 =
 r22_longer_L1 lb n k126 anum1 alinn2 alin3 amil4 bn5 b6 b184 l185 (IntKind.wrap .i64 (i69 + 1)) := (hold_eq _).trans (by kernel_rfl)

theorem r22_longer_L2_succ (lb : Bool) (n k168 : Nat) (k126 : Nat) (anum1 : Int) (alinn2 : Bool) (alin3 : List (List CV)) (amil4 : Int) (bn5 : Bool) (b6 : List (List CV)) (i69 : Int) (x128 : CV) (c127 : List CV) (b150 : Bool) (l151 : List (List CV)) (i152 : Int) :
  r22_longer_L2 lb n (k168 + 1) k126 anum1 alinn2 alin3 amil4 bn5 b6 i69 x128 c127 b150 l151 i152 =
 bif (decide (i152 < (alin3.length : Int))) then
 (optO (atL alin3 i152) fun c169 =>
 chkO (c169.length == 2) (
 optO (c169[0]?) fun x170 =>
 optO (CV.asL x128) fun p171 =>
 optO (CV.asL x128) fun p172 =>
 optO (atL p172.2 (IntKind.wrap .i64 ((p171.2.length : Int) - 1))) fun c173 =>
 chkO (c173.length == 1) (
 optO (c173[0]?) fun x174 =>
 optO (CV.asS x170) fun s175 =>
 optO (CV.asS x174) fun s176 =>
 bif (s175 == s176) then
 (optO (atL alin3 i152) fun c177 =>
 chkO (c177.length == 2) (
 optO (c177[1]?) fun x178 =>
 optO (C lb n F_r22_in [x128, x178]) fun r179 =>
 optO (CV.asB r179) fun b180 =>
 bif (!b180) then
 (optO (CV.asL x128) fun p181 =>
 chkO (p181.2.all (·.length == 1)) (
 chkO (room (0 + p181.2.length) 16) (
 optO (atL alin3 i152) fun c182 =>
 chkO (c182.length == 2) (
 optO (c182[1]?) fun x183 =>
 chkO (CV.isCell x183) (
 chkO (room (p181.2.length + 1) 16) (
 chkO (room (l151.length + 1) 24) (
 r22_longer_L2 lb n k168 k126 anum1 alinn2 alin3 amil4 bn5 b6 i69 x128 c127 (b150 && false) (l151 ++ [[CV.list (p181.2.isEmpty && false) (p181.2 ++ [[x183]])]]) (IntKind.wrap .i64 (i152 + 1)))))))))
 else
 (r22_longer_L2 lb n k168 k126 anum1 alinn2 alin3 amil4 bn5 b6 i69 x128 c127 b150 l151 (IntKind.wrap .i64 (i152 + 1)))))
 else
 (r22_longer_L2 lb n k168 k126 anum1 alinn2 alin3 amil4 bn5 b6 i69 x128 c127 b150 l151 (IntKind.wrap .i64 (i152 + 1))))))
 else
 (r22_longer_J3 lb n k126 anum1 alinn2 alin3 amil4 bn5 b6 i69 b150 l151 x128 i152) := (hold_eq _).trans (by kernel_rfl)

theorem r22_longer_L2_zero (lb : Bool) (n : Nat) (k126 : Nat) (anum1 : Int) (alinn2 : Bool) (alin3 : List (List CV)) (amil4 : Int) (bn5 : Bool) (b6 : List (List CV)) (i69 : Int) (x128 : CV) (c127 : List CV) (b150 : Bool) (l151 : List (List CV)) (i152 : Int) :
  r22_longer_L2 lb n 0 k126 anum1 alinn2 alin3 amil4 bn5 b6 i69 x128 c127 b150 l151 i152 =
 none := (hold_eq _).trans (by kernel_rfl)

noncomputable def r22_longer_J4 (lb : Bool) (n : Nat) (anum1 : Int) (alinn2 : Bool) (alin3 : List (List CV)) (amil4 : Int) (bn5 : Bool) (b6 : List (List CV)) (b188 : Bool) (l189 : List (List CV)) (i190 : Int) : Option CV :=
  hold (E0 lb n 0 997 (sub (B F_r22_longer) [1, 1, 1]) (retK Tryd.prog (R F_r22_longer) 0 (outK (tightF Tryd.prog F_r22_longer))) ⟨fr 67 [(0, .val (.agg [.int .i64 anum1, .list alinn2 alin3, .int .i64 amil4])), (1, .val (.list bn5 b6)), (2, .ptr 0 2 0), (4, .lst true true 34 []), (5, .lst true b188 34 l189), (6, .val (.int .i64 i190))], [bx 67 [(2, some [.val (.int .i64 anum1), .val (.list alinn2 alin3), .val (.int .i64 amil4)])]], KK⟩)

theorem r22_longer_J4_eq (lb : Bool) (n : Nat) (anum1 : Int) (alinn2 : Bool) (alin3 : List (List CV)) (amil4 : Int) (bn5 : Bool) (b6 : List (List CV)) (b188 : Bool) (l189 : List (List CV)) (i190 : Int) :
  r22_longer_J4 lb n anum1 alinn2 alin3 amil4 bn5 b6 b188 l189 i190 =
 some (.list b188 l189) := (hold_eq _).trans (by kernel_rfl)

theorem r22_longer_L1_succ (lb : Bool) (n k126 : Nat) (anum1 : Int) (alinn2 : Bool) (alin3 : List (List CV)) (amil4 : Int) (bn5 : Bool) (b6 : List (List CV)) (b67 : Bool) (l68 : List (List CV)) (i69 : Int) :
  r22_longer_L1 lb n (k126 + 1) anum1 alinn2 alin3 amil4 bn5 b6 b67 l68 i69 =
 bif (decide (i69 < (b6.length : Int))) then
 (optO (atL b6 i69) fun c127 =>
 chkO (c127.length == 1) (
 optO (c127[0]?) fun x128 =>
 r22_longer_L2 lb n n k126 anum1 alinn2 alin3 amil4 bn5 b6 i69 x128 c127 b67 l68 0))
 else
 (r22_longer_J4 lb n anum1 alinn2 alin3 amil4 bn5 b6 b67 l68 i69) := (hold_eq _).trans (by kernel_rfl)

theorem r22_longer_L1_zero (lb : Bool) (n : Nat) (anum1 : Int) (alinn2 : Bool) (alin3 : List (List CV)) (amil4 : Int) (bn5 : Bool) (b6 : List (List CV)) (b67 : Bool) (l68 : List (List CV)) (i69 : Int) :
  r22_longer_L1 lb n 0 anum1 alinn2 alin3 amil4 bn5 b6 b67 l68 i69 =
 none := (hold_eq _).trans (by kernel_rfl)

theorem r22_longer_eq (lb : Bool) (n : Nat) (anum1 : Int) (alinn2 : Bool) (alin3 : List (List CV)) (amil4 : Int) (bn5 : Bool) (b6 : List (List CV)) :
  top lb n F_r22_longer [.agg [.int .i64 anum1, .list alinn2 alin3, .int .i64 amil4], .list bn5 b6] =
 r22_longer_L1 lb n n anum1 alinn2 alin3 amil4 bn5 b6 true [] 0 := by kernel_rfl

/-! airline/airlineref22.in -/
noncomputable def r22_in_L1 (lb : Bool) (n : Nat) (k12 : Nat) (an1 : Bool) (a2 : List (List CV)) (b3 : List UInt8) (i7 : Int) : Option CV :=
  hold (loopC (E0 lb n 0 995) 0 (loopTemps (sub (B F_r22_in) [1, 0, 1, 0, 0]) ++ []) [] (sub (B F_r22_in) [1, 0, 1, 0, 0]) (blockK 0 (seqK (E0 lb n 0 998) (sub (B F_r22_in) [1, 0]) (sub (B F_r22_in) [1, 1]) (retK Tryd.prog (R F_r22_in) 0 (outK (tightF Tryd.prog F_r22_in))))) k12 ⟨fr 18 [(0, .val (.list an1 a2)), (1, .val (.str b3)), (4, .val (.bool false)), (5, .val (.int .i64 i7))], [bx 18 []], KK⟩)

noncomputable def r22_in_J2 (lb : Bool) (n : Nat) (an1 : Bool) (a2 : List (List CV)) (b3 : List UInt8) (i17 : Int) : Option CV :=
  hold (E0 lb n 0 998 (sub (B F_r22_in) [1, 1]) (retK Tryd.prog (R F_r22_in) 0 (outK (tightF Tryd.prog F_r22_in))) ⟨fr 18 [(0, .val (.list an1 a2)), (1, .val (.str b3)), (4, .val (.bool false)), (5, .val (.int .i64 i17))], [bx 18 []], KK⟩)

theorem r22_in_J2_eq (lb : Bool) (n : Nat) (an1 : Bool) (a2 : List (List CV)) (b3 : List UInt8) (i17 : Int) :
  r22_in_J2 lb n an1 a2 b3 i17 =
 some (.bool false) := (hold_eq _).trans (by kernel_rfl)

theorem r22_in_L1_succ (lb : Bool) (n k12 : Nat) (an1 : Bool) (a2 : List (List CV)) (b3 : List UInt8) (i7 : Int) :
  r22_in_L1 lb n (k12 + 1) an1 a2 b3 i7 =
 bif (decide (i7 < (a2.length : Int))) then
 (optO (atL a2 i7) fun c13 =>
 chkO (c13.length == 1) (
 optO (c13[0]?) fun x14 =>
 optO (CV.asS x14) fun s15 =>
 bif (s15 == b3) then
 (some (.bool true))
 else
 (r22_in_L1 lb n k12 an1 a2 b3 (IntKind.wrap .i64 (i7 + 1)))))
 else
 (r22_in_J2 lb n an1 a2 b3 i7) := (hold_eq _).trans (by kernel_rfl)

theorem r22_in_L1_zero (lb : Bool) (n : Nat) (an1 : Bool) (a2 : List (List CV)) (b3 : List UInt8) (i7 : Int) :
  r22_in_L1 lb n 0 an1 a2 b3 i7 =
 none := (hold_eq _).trans (by kernel_rfl)

theorem r22_in_eq (lb : Bool) (n : Nat) (an1 : Bool) (a2 : List (List CV)) (b3 : List UInt8) :
  top lb n F_r22_in [.list an1 a2, .str b3] =
 r22_in_L1 lb n n an1 a2 b3 0 := by kernel_rfl

/-! slices.Contains[[]airline/api.Link,airline/api.Link] -/
theorem slices_Contains_api_Link_eq (lb : Bool) (n : Nat) (an1 : Bool) (a2 : List (List CV)) (bfro3 : List UInt8) (bto4 : List UInt8) :
  top lb n F_slices_Contains_api_Link [.list an1 a2, .agg [.str bfro3, .str bto4]] =
 optO (C lb n F_slices_Index_api_Link [.list an1 a2, .agg [.str bfro3, .str bto4]]) fun r5 =>
 optO (CV.asI .i64 r5) fun i6 =>
 some (.bool (decide (i6 ≥ 0))) := by kernel_rfl

/-! slices.Contains[[]string,string] -/
theorem slices_Contains_string_eq (lb : Bool) (n : Nat) (an1 : Bool) (a2 : List (List CV)) (b3 : List UInt8) :
  top lb n F_slices_Contains_string [.list an1 a2, .str b3] =
 optO (C lb n F_slices_Index_string [.list an1 a2, .str b3]) fun r4 =>
 optO (CV.asI .i64 r4) fun i5 =>
 some (.bool (decide (i5 ≥ 0))) := by kernel_rfl

/-! slices.Clip[[]string,string] -/
theorem slices_Clip_string_eq (lb : Bool) (n : Nat) (an1 : Bool) (a2 : List (List CV)) :
  top lb n F_slices_Clip_string [.list an1 a2] =
 chkO (a2.all (·.length == 1)) (
 chkO (decide ((0 : Int) ≤ (a2.length : Int) ∧ (a2.length : Int) ≤ (a2.length : Int))) (
 chkO (decide ((0 : Int) ≤ (a2.length : Int) ∧ (a2.length : Int) ≤ (a2.length : Int))) (
 chkO ((a2.length : Int) == (a2.length : Int)) (
 some (.list an1 ((a2.take ((a2.length : Int).toNat)).drop 0)))))) := by kernel_rfl

/-! slices.Index[[]airline/api.Link,airline/api.Link] -/
noncomputable def slices_Index_api_Link_L1 (lb : Bool) (n : Nat) (k18 : Nat) (an1 : Bool) (a2 : List (List CV)) (bfro3 : List UInt8) (bto4 : List UInt8) (i11 : Int) : Option CV :=
  hold (loopC (E0 lb n 0 995) 0 (loopTemps (sub (B F_slices_Index_api_Link) [1, 0, 1, 0, 0]) ++ [5]) [] (sub (B F_slices_Index_api_Link) [1, 0, 1, 0, 0]) (blockK 0 (seqK (E0 lb n 0 998) (sub (B F_slices_Index_api_Link) [1, 0]) (sub (B F_slices_Index_api_Link) [1, 1]) (retK Tryd.prog (R F_slices_Index_api_Link) 0 (outK (tightF Tryd.prog F_slices_Index_api_Link))))) k18 ⟨fr 19 [(0, .val (.list an1 a2)), (1, .val (.agg [.str bfro3, .str bto4])), (3, .ptr 0 3 0), (4, .val (.int .i64 0)), (6, .val (.list an1 a2)), (7, .val (.int .i64 (a2.length : Int))), (8, .val (.int .i64 i11))], [bx 19 [(3, some [.val (.str bfro3), .val (.str bto4)])]], KK⟩)

noncomputable def slices_Index_api_Link_J2 (lb : Bool) (n : Nat) (an1 : Bool) (a2 : List (List CV)) (bfro3 : List UInt8) (bto4 : List UInt8) : Option CV :=
  hold (E0 lb n 0 998 (sub (B F_slices_Index_api_Link) [1, 1]) (retK Tryd.prog (R F_slices_Index_api_Link) 0 (outK (tightF Tryd.prog F_slices_Index_api_Link))) ⟨fr 19 [(0, .val (.list an1 a2)), (1, .val (.agg [.str bfro3, .str bto4])), (3, .ptr 0 3 0), (4, .val (.int .i64 0))], [bx 19 [(3, some [.val (.str bfro3), .val (.str bto4)])]], KK⟩)

theorem slices_Index_api_Link_J2_eq (lb : Bool) (n : Nat) (an1 : Bool) (a2 : List (List CV)) (bfro3 : List UInt8) (bto4 : List UInt8) :
  slices_Index_api_Link_J2 lb n an1 a2 bfro3 bto4 =
 some (.int .i64 (-1)) := (hold_eq _).trans (by kernel_rfl)

theorem slices_Index_api_Link_L1_succ (lb : Bool) (n k18 : Nat) (an1 : Bool) (a2 : List (List CV)) (bfro3 : List UInt8) (bto4 : List UInt8) (i11 : Int) :
  slices_Index_api_Link_L1 lb n (k18 + 1) an1 a2 bfro3 bto4 i11 =
 bif (decide (i11 < (a2.length : Int))) then
 (optO (atL a2 i11) fun c19 =>
 chkO (c19.length == 2) (
 optO (c19[0]?) fun x20 =>
 optO (c19[1]?) fun x21 =>
 optO (CV.asS x20) fun s22 =>
 optO (CV.asS x21) fun s23 =>
 bif ((bfro3 == s22) && ((bto4 == s23) && true)) then
 (some (.int .i64 i11))
 else
 (slices_Index_api_Link_L1 lb n k18 an1 a2 bfro3 bto4 (IntKind.wrap .i64 (i11 + 1)))))
 else
 (slices_Index_api_Link_J2 lb n an1 a2 bfro3 bto4 ) := (hold_eq _).trans (by kernel_rfl)

theorem slices_Index_api_Link_L1_zero (lb : Bool) (n : Nat) (an1 : Bool) (a2 : List (List CV)) (bfro3 : List UInt8) (bto4 : List UInt8) (i11 : Int) :
  slices_Index_api_Link_L1 lb n 0 an1 a2 bfro3 bto4 i11 =
 none := (hold_eq _).trans (by kernel_rfl)

theorem slices_Index_api_Link_eq (lb : Bool) (n : Nat) (an1 : Bool) (a2 : List (List CV)) (bfro3 : List UInt8) (bto4 : List UInt8) :
  top lb n F_slices_Index_api_Link [.list an1 a2, .agg [.str bfro3, .str bto4]] =
 slices_Index_api_Link_L1 lb n n an1 a2 bfro3 bto4 0 := by kernel_rfl

/-! slices.Index[[]string,string] -/
noncomputable def slices_Index_string_L1 (lb : Bool) (n : Nat) (k12 : Nat) (an1 : Bool) (a2 : List (List CV)) (b3 : List UInt8) (i7 : Int) : Option CV :=
  hold (loopC (E0 lb n 0 995) 0 (loopTemps (sub (B F_slices_Index_string) [1, 0, 1, 0, 0]) ++ [5]) [] (sub (B F_slices_Index_string) [1, 0, 1, 0, 0]) (blockK 0 (seqK (E0 lb n 0 998) (sub (B F_slices_Index_string) [1, 0]) (sub (B F_slices_Index_string) [1, 1]) (retK Tryd.prog (R F_slices_Index_string) 0 (outK (tightF Tryd.prog F_slices_Index_string))))) k12 ⟨fr 19 [(0, .val (.list an1 a2)), (1, .val (.str b3)), (4, .val (.int .i64 0)), (6, .val (.list an1 a2)), (7, .val (.int .i64 (a2.length : Int))), (8, .val (.int .i64 i7))], [bx 19 []], KK⟩)

noncomputable def slices_Index_string_J2 (lb : Bool) (n : Nat) (an1 : Bool) (a2 : List (List CV)) (b3 : List UInt8) : Option CV :=
  hold (E0 lb n 0 998 (sub (B F_slices_Index_string) [1, 1]) (retK Tryd.prog (R F_slices_Index_string) 0 (outK (tightF Tryd.prog F_slices_Index_string))) ⟨fr 19 [(0, .val (.list an1 a2)), (1, .val (.str b3)), (4, .val (.int .i64 0))], [bx 19 []], KK⟩)

theorem slices_Index_string_J2_eq (lb : Bool) (n : Nat) (an1 : Bool) (a2 : List (List CV)) (b3 : List UInt8) :
  slices_Index_string_J2 lb n an1 a2 b3 =
 some (.int .i64 (-1)) := (hold_eq _).trans (by kernel_rfl)

theorem slices_Index_string_L1_succ (lb : Bool) (n k12 : Nat) (an1 : Bool) (a2 : List (List CV)) (b3 : List UInt8) (i7 : Int) :
  slices_Index_string_L1 lb n (k12 + 1) an1 a2 b3 i7 =
 bif (decide (i7 < (a2.length : Int))) then
 (optO (atL a2 i7) fun c13 =>
 chkO (c13.length == 1) (
 optO (c13[0]?) fun x14 =>
 optO (CV.asS x14) fun s15 =>
 bif (b3 == s15) then
 (some (.int .i64 i7))
 else
 (slices_Index_string_L1 lb n k12 an1 a2 b3 (IntKind.wrap .i64 (i7 + 1)))))
 else
 (slices_Index_string_J2 lb n an1 a2 b3 ) := (hold_eq _).trans (by kernel_rfl)

theorem slices_Index_string_L1_zero (lb : Bool) (n : Nat) (an1 : Bool) (a2 : List (List CV)) (b3 : List UInt8) (i7 : Int) :
  slices_Index_string_L1 lb n 0 an1 a2 b3 i7 =
 none := (hold_eq _).trans (by kernel_rfl)

theorem slices_Index_string_eq (lb : Bool) (n : Nat) (an1 : Bool) (a2 : List (List CV)) (b3 : List UInt8) :
  top lb n F_slices_Index_string [.list an1 a2, .str b3] =
 slices_Index_string_L1 lb n n an1 a2 b3 0 := by kernel_rfl

/-! airline/airlineref22.Ways -/
noncomputable def r22_Ways_L1 (lb : Bool) (n : Nat) (k143 : Nat) (anum1 : Int) (alinn2 : Bool) (alin3 : List (List CV)) (amil4 : Int) (b5 : List UInt8) (c6 : List UInt8) (d7 : Int) (b75 : Bool) (l76 : List (List CV)) (b77 : Bool) (l78 : List (List CV)) (i79 : Int) : Option CV :=
  hold (loopC (E0 lb n 0 991) 0 (loopTemps (sub (B F_r22_Ways) [1, 1, 1, 1, 1, 0, 1, 0, 0]) ++ [13, 14, 13, 14]) [] (sub (B F_r22_Ways) [1, 1, 1, 1, 1, 0, 1, 0, 0]) (blockK 0 (seqK (E0 lb n 0 994) (sub (B F_r22_Ways) [1, 1, 1, 1, 1, 0]) (sub (B F_r22_Ways) [1, 1, 1, 1, 1, 1]) (retK Tryd.prog (R F_r22_Ways) 0 (outK (tightF Tryd.prog F_r22_Ways))))) k143 ⟨fr 84 [(0, .val (.agg [.int .i64 anum1, .list alinn2 alin3, .int .i64 amil4])), (1, .val (.str b5)), (2, .val (.str c6)), (3, .val (.int .i64 d7)), (4, .ptr 0 4 0), (8, .lst true true 34 []), (9, .val (.int .i64 0)), (10, .lst true b75 34 l76), (11, .lst true b77 34 l78), (12, .val (.int .i64 i79)), (34, .val (.str b5)), (35, .lst true false 9 [[CV.str b5]]), (36, .val (.list false [[CV.list false [[CV.str b5]]]]))], [bx 84 [(4, some [.val (.int .i64 anum1), .val (.list alinn2 alin3), .val (.int .i64 amil4)])]], KK⟩)

noncomputable def r22_Ways_L2 (lb : Bool) (n : Nat) (k189 : Nat) (k143 : Nat) (anum1 : Int) (alinn2 : Bool) (alin3 : List (List CV)) (amil4 : Int) (b5 : List UInt8) (c6 : List UInt8) (d7 : Int) (r144 : CV) (i79 : Int) (b77 : Bool) (l78 : List (List CV)) (b166 : Bool) (l167 : List (List CV)) (b168 : Bool) (l169 : List (List CV)) (i170 : Int) : Option CV :=
  hold (loopC (E0 lb n 0 982) 0 (loopTemps (sub (B F_r22_Ways) [1, 1, 1, 1, 1, 0, 1, 0, 0, 1, 0, 0, 1, 1, 0, 1, 0, 0]) ++ []) [] (sub (B F_r22_Ways) [1, 1, 1, 1, 1, 0, 1, 0, 0, 1, 0, 0, 1, 1, 0, 1, 0, 0]) (blockK 2 (seqK (E0 lb n 0 985) (sub (B F_r22_Ways) [1, 1, 1, 1, 1, 0, 1, 0, 0, 1, 0, 0, 1, 1, 0]) (sub (B F_r22_Ways) [1, 1, 1, 1, 1, 0, 1, 0, 0, 1, 0, 0, 1, 1, 1]) (blockK 1 (seqK (E0 lb n 0 989) (sub (B F_r22_Ways) [1, 1, 1, 1, 1, 0, 1, 0, 0, 1, 0]) (sub (B F_r22_Ways) [1, 1, 1, 1, 1, 0, 1, 0, 0, 1, 1]) (loopK 0 (loopTemps (sub (B F_r22_Ways) [1, 1, 1, 1, 1, 0, 1, 0, 0]) ++ [13, 14, 13, 14]) [] (loopC (E0 lb n 0 991) 0 (loopTemps (sub (B F_r22_Ways) [1, 1, 1, 1, 1, 0, 1, 0, 0]) ++ [13, 14, 13, 14]) [] (sub (B F_r22_Ways) [1, 1, 1, 1, 1, 0, 1, 0, 0]) (blockK 0 (seqK (E0 lb n 0 994) (sub (B F_r22_Ways) [1, 1, 1, 1, 1, 0]) (sub (B F_r22_Ways) [1, 1, 1, 1, 1, 1]) (retK Tryd.prog (R F_r22_Ways) 0 (outK (tightF Tryd.prog F_r22_Ways))))) k143) (blockK 0 (seqK (E0 lb n 0 994) (sub (B F_r22_Ways) [1, 1, 1, 1, 1, 0]) (sub (B F_r22_Ways) [1, 1, 1, 1, 1, 1]) (retK Tryd.prog (R F_r22_Ways) 0 (outK (tightF Tryd.prog F_r22_Ways)))))))))) k189 ⟨fr 84 [(0, .val (.agg [.int .i64 anum1, .list alinn2 alin3, .int .i64 amil4])), (1, .val (.str b5)), (2, .val (.str c6)), (3, .val (.int .i64 d7)), (4, .ptr 0 4 0), (8, .lst true true 34 []), (9, .val (.int .i64 0)), (10, .lst true b166 34 l167), (11, .val r144), (12, .val (.int .i64 i79)), (13, .lst true b168 34 l169), (14, .val (.int .i64 i170)), (34, .val (.str b5)), (35, .lst true false 9 [[CV.str b5]]), (36, .val (.list false [[CV.list false [[CV.str b5]]]])), (42, .val (.agg [.int .i64 anum1, .list alinn2 alin3, .int .i64 amil4])), (43, .val (.list b77 l78)), (44, .val r144)], [bx 84 [(4, some [.val (.int .i64 anum1), .val (.list alinn2 alin3), .val (.int .i64 amil4)])]], KK⟩)

noncomputable def r22_Ways_J3 (lb : Bool) (n : Nat) (k143 : Nat) (anum1 : Int) (alinn2 : Bool) (alin3 : List (List CV)) (amil4 : Int) (b5 : List UInt8) (c6 : List UInt8) (d7 : Int) (r144 : CV) (i79 : Int) (b77 : Bool) (l78 : List (List CV)) (b208 : Bool) (l209 : List (List CV)) (b210 : Bool) (l211 : List (List CV)) (i212 : Int) : Option CV :=
  hold (E0 lb n 0 985 (sub (B F_r22_Ways) [1, 1, 1, 1, 1, 0, 1, 0, 0, 1, 0, 0, 1, 1, 1]) (blockK 1 (seqK (E0 lb n 0 989) (sub (B F_r22_Ways) [1, 1, 1, 1, 1, 0, 1, 0, 0, 1, 0]) (sub (B F_r22_Ways) [1, 1, 1, 1, 1, 0, 1, 0, 0, 1, 1]) (loopK 0 (loopTemps (sub (B F_r22_Ways) [1, 1, 1, 1, 1, 0, 1, 0, 0]) ++ [13, 14, 13, 14]) [] (loopC (E0 lb n 0 991) 0 (loopTemps (sub (B F_r22_Ways) [1, 1, 1, 1, 1, 0, 1, 0, 0]) ++ [13, 14, 13, 14]) [] (sub (B F_r22_Ways) [1, 1, 1, 1, 1, 0, 1, 0, 0]) (blockK 0 (seqK (E0 lb n 0 994) (sub (B F_r22_Ways) [1, 1, 1, 1, 1, 0]) (sub (B F_r22_Ways) [1, 1, 1, 1, 1, 1]) (retK Tryd.prog (R F_r22_Ways) 0 (outK (tightF Tryd.prog F_r22_Ways))))) k143) (blockK 0 (seqK (E0 lb n 0 994) (sub (B F_r22_Ways) [1, 1, 1, 1, 1, 0]) (sub (B F_r22_Ways) [1, 1, 1, 1, 1, 1]) (retK Tryd.prog (R F_r22_Ways) 0 (outK (tightF Tryd.prog F_r22_Ways)))))))) ⟨fr 84 [(0, .val (.agg [.int .i64 anum1, .list alinn2 alin3, .int .i64 amil4])), (1, .val (.str b5)), (2, .val (.str c6)), (3, .val (.int .i64 d7)), (4, .ptr 0 4 0), (8, .lst true true 34 []), (9, .val (.int .i64 0)), (10, .lst true b208 34 l209), (11, .val r144), (12, .val (.int .i64 i79)), (13, .lst true b210 34 l211), (14, .val (.int .i64 i212)), (34, .val (.str b5)), (35, .lst true false 9 [[CV.str b5]]), (36, .val (.list false [[CV.list false [[CV.str b5]]]])), (42, .val (.agg [.int .i64 anum1, .list alinn2 alin3, .int .i64 amil4])), (43, .val (.list b77 l78)), (44, .val r144)], [bx 84 [(4, some [.val (.int .i64 anum1), .val (.list alinn2 alin3), .val (.int .i64 amil4)])]], KK⟩)

noncomputable def r22_Ways_J4 (lb : Bool) (n : Nat) (k143 : Nat) (anum1 : Int) (alinn2 : Bool) (alin3 : List (List CV)) (amil4 : Int) (b5 : List UInt8) (c6 : List UInt8) (d7 : Int) (i79 : Int) (b213 : Bool) (l214 : List (List CV)) (b215 : Bool) (l216 : List (List CV)) (b217 : Bool) (l218 : List (List CV)) (i219 : Int) : Option CV :=
  hold (E0 lb n 0 989 (sub (B F_r22_Ways) [1, 1, 1, 1, 1, 0, 1, 0, 0, 1, 1]) (loopK 0 (loopTemps (sub (B F_r22_Ways) [1, 1, 1, 1, 1, 0, 1, 0, 0]) ++ [13, 14, 13, 14]) [] (loopC (E0 lb n 0 991) 0 (loopTemps (sub (B F_r22_Ways) [1, 1, 1, 1, 1, 0, 1, 0, 0]) ++ [13, 14, 13, 14]) [] (sub (B F_r22_Ways) [1, 1, 1, 1, 1, 0, 1, 0, 0]) (blockK 0 (seqK (E0 lb n 0 994) (sub (B F_r22_Ways) [1, 1, 1, 1, 1, 0]) (sub (B F_r22_Ways) [1, 1, 1, 1, 1, 1]) (retK Tryd.prog (R F_r22_Ways) 0 (outK (tightF Tryd.prog F_r22_Ways))))) k143) (blockK 0 (seqK (E0 lb n 0 994) (sub (B F_r22_Ways) [1, 1, 1, 1, 1, 0]) (sub (B F_r22_Ways) [1, 1, 1, 1, 1, 1]) (retK Tryd.prog (R F_r22_Ways) 0 (outK (tightF Tryd.prog F_r22_Ways)))))) ⟨fr 84 [(0, .val (.agg [.int .i64 anum1, .list alinn2 alin3, .int .i64 amil4])), (1, .val (.str b5)), (2, .val (.str c6)), (3, .val (.int .i64 d7)), (4, .ptr 0 4 0), (8, .lst true true 34 []), (9, .val (.int .i64 0)), (10, .lst true b213 34 l214), (11, .lst true b215 34 l216), (12, .val (.int .i64 i79)), (13, .val (.list b217 l218)), (14, .val (.int .i64 i219)), (34, .val (.str b5)), (35, .lst true false 9 [[CV.str b5]]), (36, .val (.list false [[CV.list false [[CV.str b5]]]]))], [bx 84 [(4, some [.val (.int .i64 anum1), .val (.list alinn2 alin3), .val (.int .i64 amil4)])]], KK⟩)

theorem r22_Ways_J4_eq (lb : Bool) (n : Nat) (k143 : Nat) (anum1 : Int) (alinn2 : Bool) (alin3 : List (List CV)) (amil4 : Int) (b5 : List UInt8) (c6 : List UInt8) (d7 : Int) (i79 : Int) (b213 : Bool) (l214 : List (List CV)) (b215 : Bool) (l216 : List (List CV)) (b217 : Bool) (l218 : List (List CV)) (i219 : Int) :
  r22_Ways_J4 lb n k143 anum1 alinn2 alin3 amil4 b5 c6 d7 i79 b213 l214 b215 l216 b217 l218 i219 =
 r22_Ways_L1 lb n k143 anum1 alinn2 alin3 amil4 b5 c6 d7 b213 l214 b215 l216 (IntKind.wrap .i64 (i79 + 1)) := (hold_eq _).trans (by kernel_rfl)

theorem r22_Ways_J3_eq (lb : Bool) (n : Nat) (k143 : Nat) (anum1 : Int) (alinn2 : Bool) (alin3 : List (List CV)) (amil4 : Int) (b5 : List UInt8) (c6 : List UInt8) (d7 : Int) (r144 : CV) (i79 : Int) (b77 : Bool) (l78 : List (List CV)) (b208 : Bool) (l209 : List (List CV)) (b210 : Bool) (l211 : List (List CV)) (i212 : Int) :
  r22_Ways_J3 lb n k143 anum1 alinn2 alin3 amil4 b5 c6 d7 r144 i79 b77 l78 b208 l209 b210 l211 i212 =
 r22_Ways_J4 lb n k143 anum1 alinn2 alin3 amil4 b5 c6 d7 i79 b208 l209 b210 l211 b210 l211 i212 := (hold_eq _).trans (by kernel_rfl)

theorem r22_Ways_L2_succ (lb : Bool) (n k189 : Nat) (k143 : Nat) (anum1 : Int) (alinn2 : Bool) (alin3 : List (List CV)) (amil4 : Int) (b5 : List UInt8) (c6 : List UInt8) (d7 : Int) (r144 : CV) (i79 : Int) (b77 : Bool) (l78 : List (List CV)) (b166 : Bool) (l167 : List (List CV)) (b168 : Bool) (l169 : List (List CV)) (i170 : Int) :
  r22_Ways_L2 lb n (k189 + 1) k143 anum1 alinn2 alin3 amil4 b5 c6 d7 r144 i79 b77 l78 b166 l167 b168 l169 i170 =
 optO (CV.asL r144) fun p190 =>
 bif (decide (i170 < (p190.2.length : Int))) then
 (optO (CV.asL r144) fun p191 =>
 optO (atL p191.2 i170) fun c192 =>
 chkO (c192.length == 1) (
 optO (c192[0]?) fun x193 =>
 optO (CV.asL r144) fun p194 =>
 optO (atL p194.2 i170) fun c195 =>
 chkO (c195.length == 1) (
 optO (c195[0]?) fun x196 =>
 optO (CV.asL x196) fun p197 =>
 optO (CV.asL x193) fun p198 =>
 optO (atL p198.2 (IntKind.wrap .i64 ((p197.2.length : Int) - 1))) fun c199 =>
 chkO (c199.length == 1) (
 optO (c199[0]?) fun x200 =>
 optO (CV.asS x200) fun s201 =>
 bif (s201 == c6) then
 (optO (CV.asL r144) fun p202 =>
 optO (atL p202.2 i170) fun c203 =>
 chkO (c203.length == 1) (
 optO (c203[0]?) fun x204 =>
 chkO (CV.isCell x204) (
 chkO (room (l167.length + 1) 24) (
 r22_Ways_L2 lb n k189 k143 anum1 alinn2 alin3 amil4 b5 c6 d7 r144 i79 b77 l78 (b166 && false) (l167 ++ [[x204]]) b168 l169 (IntKind.wrap .i64 (i170 + 1))))))
 else
 (optO (CV.asL r144) fun p205 =>
 optO (atL p205.2 i170) fun c206 =>
 chkO (c206.length == 1) (
 optO (c206[0]?) fun x207 =>
 chkO (CV.isCell x207) (
 chkO (room (l169.length + 1) 24) (
 r22_Ways_L2 lb n k189 k143 anum1 alinn2 alin3 amil4 b5 c6 d7 r144 i79 b77 l78 b166 l167 (b168 && false) (l169 ++ [[x207]]) (IntKind.wrap .i64 (i170 + 1))))))))))
 else
 (r22_Ways_J3 lb n k143 anum1 alinn2 alin3 amil4 b5 c6 d7 r144 i79 b77 l78 b166 l167 b168 l169 i170) := (hold_eq _).trans (by kernel_rfl)

theorem r22_Ways_L2_zero (lb : Bool) (n : Nat) (k143 : Nat) (anum1 : Int) (alinn2 : Bool) (alin3 : List (List CV)) (amil4 : Int) (b5 : List UInt8) (c6 : List UInt8) (d7 : Int) (r144 : CV) (i79 : Int) (b77 : Bool) (l78 : List (List CV)) (b166 : Bool) (l167 : List (List CV)) (b168 : Bool) (l169 : List (List CV)) (i170 : Int) :
  r22_Ways_L2 lb n 0 k143 anum1 alinn2 alin3 amil4 b5 c6 d7 r144 i79 b77 l78 b166 l167 b168 l169 i170 =
 none := (hold_eq _).trans (by kernel_rfl)

noncomputable def r22_Ways_J5 (lb : Bool) (n : Nat) (anum1 : Int) (alinn2 : Bool) (alin3 : List (List CV)) (amil4 : Int) (b5 : List UInt8) (c6 : List UInt8) (d7 : Int) (b220 : Bool) (l221 : List (List CV)) (b222 : Bool) (l223 : List (List CV)) (i224 : Int) : Option CV :=
  hold (E0 lb n 0 994 (sub (B F_r22_Ways) [1, 1, 1, 1, 1, 1]) (retK Tryd.prog (R F_r22_Ways) 0 (outK (tightF Tryd.prog F_r22_Ways))) ⟨fr 84 [(0, .val (.agg [.int .i64 anum1, .list alinn2 alin3, .int .i64 amil4])), (1, .val (.str b5)), (2, .val (.str c6)), (3, .val (.int .i64 d7)), (4, .ptr 0 4 0), (8, .lst true true 34 []), (9, .val (.int .i64 0)), (10, .lst true b220 34 l221), (11, .lst true b222 34 l223), (12, .val (.int .i64 i224)), (34, .val (.str b5)), (35, .lst true false 9 [[CV.str b5]]), (36, .val (.list false [[CV.list false [[CV.str b5]]]]))], [bx 84 [(4, some [.val (.int .i64 anum1), .val (.list alinn2 alin3), .val (.int .i64 amil4)])]], KK⟩)

theorem r22_Ways_J5_eq (lb : Bool) (n : Nat) (anum1 : Int) (alinn2 : Bool) (alin3 : List (List CV)) (amil4 : Int) (b5 : List UInt8) (c6 : List UInt8) (d7 : Int) (b220 : Bool) (l221 : List (List CV)) (b222 : Bool) (l223 : List (List CV)) (i224 : Int) :
  r22_Ways_J5 lb n anum1 alinn2 alin3 amil4 b5 c6 d7 b220 l221 b222 l223 i224 =
 bif (decide ((l221.length : Int) > 1024)) then
 (some (.tup [.list true [], .int .i64 4]))
 else
 (some (.tup [.list b220 l221, .int .i64 0])) := (hold_eq _).trans (by kernel_rfl)

theorem r22_Ways_L1_succ (lb : Bool) (n k143 : Nat) (anum1 : Int) (alinn2 : Bool) (alin3 : List (List CV)) (amil4 : Int) (b5 : List UInt8) (c6 : List UInt8) (d7 : Int) (b75 : Bool) (l76 : List (List CV)) (b77 : Bool) (l78 : List (List CV)) (i79 : Int) :
  r22_Ways_L1 lb n (k143 + 1) anum1 alinn2 alin3 amil4 b5 c6 d7 b75 l76 b77 l78 i79 =
 bif (decide (i79 < d7)) then
 (optO (C lb n F_r22_longer [.agg [.int .i64 anum1, .list alinn2 alin3, .int .i64 amil4], .list b77 l78]) fun r144 =>
 r22_Ways_L2 lb n n k143 anum1 alinn2 alin3 amil4 b5 c6 d7 r144 i79 b77 l78 b75 l76 true [] 0)
 else
 (r22_Ways_J5 lb n anum1 alinn2 alin3 amil4 b5 c6 d7 b75 l76 b77 l78 i79) := (hold_eq _).trans (by kernel_rfl)

theorem r22_Ways_L1_zero (lb : Bool) (n : Nat) (anum1 : Int) (alinn2 : Bool) (alin3 : List (List CV)) (amil4 : Int) (b5 : List UInt8) (c6 : List UInt8) (d7 : Int) (b75 : Bool) (l76 : List (List CV)) (b77 : Bool) (l78 : List (List CV)) (i79 : Int) :
  r22_Ways_L1 lb n 0 anum1 alinn2 alin3 amil4 b5 c6 d7 b75 l76 b77 l78 i79 =
 none := (hold_eq _).trans (by kernel_rfl)

theorem r22_Ways_eq (lb : Bool) (n : Nat) (anum1 : Int) (alinn2 : Bool) (alin3 : List (List CV)) (amil4 : Int) (b5 : List UInt8) (c6 : List UInt8) (d7 : Int) :
  top lb n F_r22_Ways [.agg [.int .i64 anum1, .list alinn2 alin3, .int .i64 amil4], .str b5, .str c6, .int .i64 d7] =
 bif (b5 == c6) then
 (some (.tup [.list true [], .int .i64 2]))
 else
 (bif (decide (d7 < 1)) then
 (some (.tup [.list true [], .int .i64 2]))
 else
 (bif (decide (d7 > 6)) then
 (some (.tup [.list true [], .int .i64 2]))
 else
 (bif ((alin3.length : Int) == 0) then
 (some (.tup [.list false [[CV.list false [[CV.str b5], [CV.str c6]]]], .int .i64 0]))
 else
 (r22_Ways_L1 lb n n anum1 alinn2 alin3 amil4 b5 c6 d7 true [] false [[CV.list false [[CV.str b5]]]] 0)))) := by kernel_rfl

/-! airline/airlinelaw22.RoutingWays -/
noncomputable def l22_RoutingWays_L1 (lb : Bool) (n : Nat) (k52 : Nat) (anum1 : Int) (alinn2 : Bool) (alin3 : List (List CV)) (amil4 : Int) (b5 : List UInt8) (c6 : List UInt8) (d7 : Int) (x20 : CV) (x22 : CV) (x25 : CV) (x27 : CV) (r18 : CV) (r23 : CV) (i42 : Int) : Option CV :=
  hold (loopC (E0 lb n 0 991) 0 (loopTemps (sub (B F_l22_RoutingWays) [1, 1, 1, 1, 1, 0, 1, 0, 0]) ++ []) [] (sub (B F_l22_RoutingWays) [1, 1, 1, 1, 1, 0, 1, 0, 0]) (blockK 0 (seqK (E0 lb n 0 994) (sub (B F_l22_RoutingWays) [1, 1, 1, 1, 1, 0]) (sub (B F_l22_RoutingWays) [1, 1, 1, 1, 1, 1]) (retK Tryd.prog (R F_l22_RoutingWays) 0 (outK (tightF Tryd.prog F_l22_RoutingWays))))) k52 ⟨fr 80 [(0, .val (.agg [.int .i64 anum1, .list alinn2 alin3, .int .i64 amil4])), (1, .val (.str b5)), (2, .val (.str c6)), (3, .val (.int .i64 d7)), (4, .ptr 0 4 0), (8, .val (.bool false)), (9, .val x20), (10, .val x22), (11, .val x25), (12, .val x27), (13, .val (.int .i64 i42)), (37, .val r18), (38, .val (.agg [.int .i64 anum1, .list alinn2 alin3, .int .i64 amil4])), (39, .val (.str b5)), (40, .val (.str c6)), (41, .val (.int .i64 d7)), (42, .val r18), (43, .val x20), (44, .val x22), (45, .val r23), (46, .val (.agg [.int .i64 anum1, .list alinn2 alin3, .int .i64 amil4])), (47, .val (.str b5)), (48, .val (.str c6)), (49, .val (.int .i64 d7)), (50, .val r23), (51, .val x25), (52, .val x27)], [bx 80 [(4, some [.val (.int .i64 anum1), .val (.list alinn2 alin3), .val (.int .i64 amil4)])]], KK⟩)

noncomputable def l22_RoutingWays_J2 (lb : Bool) (n : Nat) (anum1 : Int) (alinn2 : Bool) (alin3 : List (List CV)) (amil4 : Int) (b5 : List UInt8) (c6 : List UInt8) (d7 : Int) (x20 : CV) (x22 : CV) (x25 : CV) (x27 : CV) (r18 : CV) (r23 : CV) (i62 : Int) : Option CV :=
  hold (E0 lb n 0 994 (sub (B F_l22_RoutingWays) [1, 1, 1, 1, 1, 1]) (retK Tryd.prog (R F_l22_RoutingWays) 0 (outK (tightF Tryd.prog F_l22_RoutingWays))) ⟨fr 80 [(0, .val (.agg [.int .i64 anum1, .list alinn2 alin3, .int .i64 amil4])), (1, .val (.str b5)), (2, .val (.str c6)), (3, .val (.int .i64 d7)), (4, .ptr 0 4 0), (8, .val (.bool false)), (9, .val x20), (10, .val x22), (11, .val x25), (12, .val x27), (13, .val (.int .i64 i62)), (37, .val r18), (38, .val (.agg [.int .i64 anum1, .list alinn2 alin3, .int .i64 amil4])), (39, .val (.str b5)), (40, .val (.str c6)), (41, .val (.int .i64 d7)), (42, .val r18), (43, .val x20), (44, .val x22), (45, .val r23), (46, .val (.agg [.int .i64 anum1, .list alinn2 alin3, .int .i64 amil4])), (47, .val (.str b5)), (48, .val (.str c6)), (49, .val (.int .i64 d7)), (50, .val r23), (51, .val x25), (52, .val x27)], [bx 80 [(4, some [.val (.int .i64 anum1), .val (.list alinn2 alin3), .val (.int .i64 amil4)])]], KK⟩)

theorem l22_RoutingWays_J2_eq (lb : Bool) (n : Nat) (anum1 : Int) (alinn2 : Bool) (alin3 : List (List CV)) (amil4 : Int) (b5 : List UInt8) (c6 : List UInt8) (d7 : Int) (x20 : CV) (x22 : CV) (x25 : CV) (x27 : CV) (r18 : CV) (r23 : CV) (i62 : Int) :
  l22_RoutingWays_J2 lb n anum1 alinn2 alin3 amil4 b5 c6 d7 x20 x22 x25 x27 r18 r23 i62 =
 optO (C lb n F_l22_awake []) fun r63 =>
 some (r63) := (hold_eq _).trans (by kernel_rfl)

theorem l22_RoutingWays_L1_succ (lb : Bool) (n k52 : Nat) (anum1 : Int) (alinn2 : Bool) (alin3 : List (List CV)) (amil4 : Int) (b5 : List UInt8) (c6 : List UInt8) (d7 : Int) (x20 : CV) (x22 : CV) (x25 : CV) (x27 : CV) (r18 : CV) (r23 : CV) (i42 : Int) :
  l22_RoutingWays_L1 lb n (k52 + 1) anum1 alinn2 alin3 amil4 b5 c6 d7 x20 x22 x25 x27 r18 r23 i42 =
 optO (CV.asL x20) fun p53 =>
 bif (decide (i42 < (p53.2.length : Int))) then
 (optO (CV.asL x20) fun p54 =>
 optO (atL p54.2 i42) fun c55 =>
 chkO (c55.length == 1) (
 optO (c55[0]?) fun x56 =>
 optO (CV.asL x25) fun p57 =>
 optO (atL p57.2 i42) fun c58 =>
 chkO (c58.length == 1) (
 optO (c58[0]?) fun x59 =>
 optO (C lb n F_r01_Same [x56, x59]) fun r60 =>
 optO (CV.asB r60) fun b61 =>
 bif (!b61) then
 (some (.bool false))
 else
 (l22_RoutingWays_L1 lb n k52 anum1 alinn2 alin3 amil4 b5 c6 d7 x20 x22 x25 x27 r18 r23 (IntKind.wrap .i64 (i42 + 1))))))
 else
 (l22_RoutingWays_J2 lb n anum1 alinn2 alin3 amil4 b5 c6 d7 x20 x22 x25 x27 r18 r23 i42) := (hold_eq _).trans (by kernel_rfl)

theorem l22_RoutingWays_L1_zero (lb : Bool) (n : Nat) (anum1 : Int) (alinn2 : Bool) (alin3 : List (List CV)) (amil4 : Int) (b5 : List UInt8) (c6 : List UInt8) (d7 : Int) (x20 : CV) (x22 : CV) (x25 : CV) (x27 : CV) (r18 : CV) (r23 : CV) (i42 : Int) :
  l22_RoutingWays_L1 lb n 0 anum1 alinn2 alin3 amil4 b5 c6 d7 x20 x22 x25 x27 r18 r23 i42 =
 none := (hold_eq _).trans (by kernel_rfl)

theorem l22_RoutingWays_eq (lb : Bool) (n : Nat) (anum1 : Int) (alinn2 : Bool) (alin3 : List (List CV)) (amil4 : Int) (b5 : List UInt8) (c6 : List UInt8) (d7 : Int) :
  top lb n F_l22_RoutingWays [.agg [.int .i64 anum1, .list alinn2 alin3, .int .i64 amil4], .str b5, .str c6, .int .i64 d7] =
 bif (decide ((alin3.length : Int) > 14)) then
 (optO (C lb n F_l22_awake []) fun r9 =>
 some (r9))
 else
 (optO (C lb n F_l22_big [.agg [.int .i64 anum1, .list alinn2 alin3, .int .i64 amil4]]) fun r10 =>
 optO (CV.asB r10) fun b11 =>
 bif b11 then
 (optO (C lb n F_l22_awake []) fun r12 =>
 some (r12))
 else
 (optO (C lb n F_r22_Check [.agg [.int .i64 anum1, .list alinn2 alin3, .int .i64 amil4]]) fun r13 =>
 optO (CV.asL r13) fun p14 =>
 bif (decide ((p14.2.length : Int) > 0)) then
 (optO (C lb n F_l22_awake []) fun r15 =>
 some (r15))
 else
 (bif (decide ((IntKind.wrap .i64 ((b5.length : Int) + (c6.length : Int))) > 100)) then
 (optO (C lb n F_l22_awake []) fun r17 =>
 some (r17))
 else
 (optO (C lb n F_routing_Ways [.agg [.int .i64 anum1, .list alinn2 alin3, .int .i64 amil4], .str b5, .str c6, .int .i64 d7]) fun r18 =>
 optO (CV.asT r18) fun t19 =>
 optO (t19[0]?) fun x20 =>
 optO (CV.asT r18) fun t21 =>
 optO (t21[1]?) fun x22 =>
 optO (C lb n F_r22_Ways [.agg [.int .i64 anum1, .list alinn2 alin3, .int .i64 amil4], .str b5, .str c6, .int .i64 d7]) fun r23 =>
 optO (CV.asT r23) fun t24 =>
 optO (t24[0]?) fun x25 =>
 optO (CV.asT r23) fun t26 =>
 optO (t26[1]?) fun x27 =>
 optO (CV.asI .i64 x22) fun i28 =>
 optO (CV.asI .i64 x27) fun i29 =>
 bif (i28 != i29) then
 (some (.bool false))
 else
 (optO (CV.asL x20) fun p30 =>
 optO (CV.asL x25) fun p31 =>
 bif ((p30.2.length : Int) != (p31.2.length : Int)) then
 (some (.bool false))
 else
 (l22_RoutingWays_L1 lb n n anum1 alinn2 alin3 amil4 b5 c6 d7 x20 x22 x25 x27 r18 r23 0)))))) := by kernel_rfl

/-! airline/airlinelaw22.RoutingFollows -/
noncomputable def l22_RoutingFollows_L1 (lb : Bool) (n : Nat) (k87 : Nat) (anum1 : Int) (alinn2 : Bool) (alin3 : List (List CV)) (amil4 : Int) (bn5 : Bool) (b6 : List (List CV)) (x23 : CV) (x25 : CV) (x28 : CV) (x30 : CV) (c22 : List CV) (c24 : List CV) (r26 : CV) (v61 : CV) (i62 : Int) : Option CV :=
  hold (loopC (E0 lb n 0 989) 0 (loopTemps (sub (B F_l22_RoutingFollows) [1, 1, 1, 1, 1, 1, 1, 0, 1, 0, 0]) ++ [11]) [] (sub (B F_l22_RoutingFollows) [1, 1, 1, 1, 1, 1, 1, 0, 1, 0, 0]) (blockK 0 (seqK (E0 lb n 0 992) (sub (B F_l22_RoutingFollows) [1, 1, 1, 1, 1, 1, 1, 0]) (sub (B F_l22_RoutingFollows) [1, 1, 1, 1, 1, 1, 1, 1]) (retK Tryd.prog (R F_l22_RoutingFollows) 0 (outK (tightF Tryd.prog F_l22_RoutingFollows))))) k87 ⟨fr 147 [(0, .val (.agg [.int .i64 anum1, .list alinn2 alin3, .int .i64 amil4])), (1, .val (.list bn5 b6)), (2, .ptr 0 2 0), (4, .val (.bool false)), (5, .val x23), (6, .val x25), (7, .val x28), (8, .val x30), (9, .val v61), (10, .val (.int .i64 i62)), (47, .val (.list bn5 b6)), (48, .cptr c22 0), (49, .val x23), (50, .val (.list bn5 b6)), (51, .val (.list bn5 b6)), (52, .val (.int .i64 (b6.length : Int))), (53, .val (.int .i64 (IntKind.wrap .i64 ((b6.length : Int) - 1)))), (54, .cptr c24 0), (55, .val x25), (56, .val r26), (57, .val (.agg [.int .i64 anum1, .list alinn2 alin3, .int .i64 amil4])), (58, .val x23), (59, .val x25), (60, .val (.list bn5 b6)), (61, .val (.int .i64 (b6.length : Int))), (62, .val (.int .i64 (IntKind.wrap .i64 ((b6.length : Int) - 1)))), (63, .val r26), (64, .val x28), (65, .val x30)], [bx 147 [(2, some [.val (.int .i64 anum1), .val (.list alinn2 alin3), .val (.int .i64 amil4)])]], KK⟩)

noncomputable def l22_RoutingFollows_J2 (lb : Bool) (n : Nat) (anum1 : Int) (alinn2 : Bool) (alin3 : List (List CV)) (amil4 : Int) (bn5 : Bool) (b6 : List (List CV)) (x23 : CV) (x25 : CV) (x28 : CV) (x30 : CV) (c22 : List CV) (c24 : List CV) (r26 : CV) (v111 : CV) (i112 : Int) : Option CV :=
  hold (E0 lb n 0 992 (sub (B F_l22_RoutingFollows) [1, 1, 1, 1, 1, 1, 1, 1]) (retK Tryd.prog (R F_l22_RoutingFollows) 0 (outK (tightF Tryd.prog F_l22_RoutingFollows))) ⟨fr 147 [(0, .val (.agg [.int .i64 anum1, .list alinn2 alin3, .int .i64 amil4])), (1, .val (.list bn5 b6)), (2, .ptr 0 2 0), (4, .val (.bool false)), (5, .val x23), (6, .val x25), (7, .val x28), (8, .val x30), (9, .val v111), (10, .val (.int .i64 i112)), (47, .val (.list bn5 b6)), (48, .cptr c22 0), (49, .val x23), (50, .val (.list bn5 b6)), (51, .val (.list bn5 b6)), (52, .val (.int .i64 (b6.length : Int))), (53, .val (.int .i64 (IntKind.wrap .i64 ((b6.length : Int) - 1)))), (54, .cptr c24 0), (55, .val x25), (56, .val r26), (57, .val (.agg [.int .i64 anum1, .list alinn2 alin3, .int .i64 amil4])), (58, .val x23), (59, .val x25), (60, .val (.list bn5 b6)), (61, .val (.int .i64 (b6.length : Int))), (62, .val (.int .i64 (IntKind.wrap .i64 ((b6.length : Int) - 1)))), (63, .val r26), (64, .val x28), (65, .val x30)], [bx 147 [(2, some [.val (.int .i64 anum1), .val (.list alinn2 alin3), .val (.int .i64 amil4)])]], KK⟩)

theorem l22_RoutingFollows_J2_eq (lb : Bool) (n : Nat) (anum1 : Int) (alinn2 : Bool) (alin3 : List (List CV)) (amil4 : Int) (bn5 : Bool) (b6 : List (List CV)) (x23 : CV) (x25 : CV) (x28 : CV) (x30 : CV) (c22 : List CV) (c24 : List CV) (r26 : CV) (v111 : CV) (i112 : Int) :
  l22_RoutingFollows_J2 lb n anum1 alinn2 alin3 amil4 bn5 b6 x23 x25 x28 x30 c22 c24 r26 v111 i112 =
 optO (C lb n F_routing_Allows [.agg [.int .i64 anum1, .list alinn2 alin3, .int .i64 amil4], .list bn5 b6]) fun r113 =>
 optO (CV.asB r113) fun b114 =>
 bif b114 then
 (optO (C lb n F_l22_twice [.list bn5 b6]) fun r115 =>
 optO (CV.asB r115) fun b116 =>
 optO (CV.asB v111) fun b117 =>
 bif (b117 == (!b116)) then
 (optO (C lb n F_l22_awake []) fun r118 =>
 some (r118))
 else
 (some (.bool false)))
 else
 (optO (CV.asB v111) fun b119 =>
 bif (b119 == false) then
 (optO (C lb n F_l22_awake []) fun r120 =>
 some (r120))
 else
 (some (.bool false))) := (hold_eq _).trans (by kernel_rfl)

theorem l22_RoutingFollows_L1_succ (lb : Bool) (n k87 : Nat) (anum1 : Int) (alinn2 : Bool) (alin3 : List (List CV)) (amil4 : Int) (bn5 : Bool) (b6 : List (List CV)) (x23 : CV) (x25 : CV) (x28 : CV) (x30 : CV) (c22 : List CV) (c24 : List CV) (r26 : CV) (v61 : CV) (i62 : Int) :
  l22_RoutingFollows_L1 lb n (k87 + 1) anum1 alinn2 alin3 amil4 bn5 b6 x23 x25 x28 x30 c22 c24 r26 v61 i62 =
 optO (CV.asL x28) fun p88 =>
 bif (decide (i62 < (p88.2.length : Int))) then
 (optO (CV.asL x28) fun p89 =>
 optO (atL p89.2 i62) fun c90 =>
 chkO (c90.length == 1) (
 optO (c90[0]?) fun x91 =>
 optO (CV.asL x91) fun p92 =>
 bif (decide ((p92.2.length : Int) < 2)) then
 (some (.bool false))
 else
 (optO (CV.asL x91) fun p93 =>
 bif (decide ((p93.2.length : Int) > (b6.length : Int))) then
 (some (.bool false))
 else
 (optO (CV.asL x91) fun p94 =>
 optO (atL p94.2 0) fun c95 =>
 chkO (c95.length == 1) (
 optO (c95[0]?) fun x96 =>
 optO (CV.asS x96) fun s97 =>
 optO (CV.asS x23) fun s98 =>
 bif (!(s97 == s98)) then
 (some (.bool false))
 else
 (optO (CV.asL x91) fun p99 =>
 optO (CV.asL x91) fun p100 =>
 optO (atL p100.2 (IntKind.wrap .i64 ((p99.2.length : Int) - 1))) fun c101 =>
 chkO (c101.length == 1) (
 optO (c101[0]?) fun x102 =>
 optO (CV.asS x102) fun s103 =>
 optO (CV.asS x25) fun s104 =>
 bif (!(s103 == s104)) then
 (some (.bool false))
 else
 (optO (C lb n F_routing_Allows [.agg [.int .i64 anum1, .list alinn2 alin3, .int .i64 amil4], x91]) fun r105 =>
 optO (CV.asB r105) fun b106 =>
 bif (!b106) then
 (some (.bool false))
 else
 (optO (C lb n F_l22_twice [x91]) fun r107 =>
 optO (CV.asB r107) fun b108 =>
 bif b108 then
 (some (.bool false))
 else
 (optO (CV.asB v61) fun b109 =>
 bif b109 then
 (l22_RoutingFollows_L1 lb n k87 anum1 alinn2 alin3 amil4 bn5 b6 x23 x25 x28 x30 c22 c24 r26 (.bool true) (IntKind.wrap .i64 (i62 + 1)))
 else
 (optO (C lb n F_r01_Same [x91, .list bn5 b6]) fun r110 =>
 l22_RoutingFollows_L1 lb n k87 anum1 alinn2 alin3 amil4 bn5 b6 x23 x25 x28 x30 c22 c24 r26 r110 (IntKind.wrap .i64 (i62 + 1)))))))))))))
 else
 (l22_RoutingFollows_J2 lb n anum1 alinn2 alin3 amil4 bn5 b6 x23 x25 x28 x30 c22 c24 r26 v61 i62) := (hold_eq _).trans (by kernel_rfl)

theorem l22_RoutingFollows_L1_zero (lb : Bool) (n : Nat) (anum1 : Int) (alinn2 : Bool) (alin3 : List (List CV)) (amil4 : Int) (bn5 : Bool) (b6 : List (List CV)) (x23 : CV) (x25 : CV) (x28 : CV) (x30 : CV) (c22 : List CV) (c24 : List CV) (r26 : CV) (v61 : CV) (i62 : Int) :
  l22_RoutingFollows_L1 lb n 0 anum1 alinn2 alin3 amil4 bn5 b6 x23 x25 x28 x30 c22 c24 r26 v61 i62 =
 none := (hold_eq _).trans (by kernel_rfl)

theorem l22_RoutingFollows_eq (lb : Bool) (n : Nat) (anum1 : Int) (alinn2 : Bool) (alin3 : List (List CV)) (amil4 : Int) (bn5 : Bool) (b6 : List (List CV)) :
  top lb n F_l22_RoutingFollows [.agg [.int .i64 anum1, .list alinn2 alin3, .int .i64 amil4], .list bn5 b6] =
 bif (decide ((alin3.length : Int) > 14)) then
 (optO (C lb n F_l22_awake []) fun r7 =>
 some (r7))
 else
 (bif ((alin3.length : Int) == 0) then
 (optO (C lb n F_l22_awake []) fun r9 =>
 some (r9))
 else
 (optO (C lb n F_l22_big [.agg [.int .i64 anum1, .list alinn2 alin3, .int .i64 amil4]]) fun r10 =>
 optO (CV.asB r10) fun b11 =>
 bif b11 then
 (optO (C lb n F_l22_awake []) fun r12 =>
 some (r12))
 else
 (optO (C lb n F_r22_Check [.agg [.int .i64 anum1, .list alinn2 alin3, .int .i64 amil4]]) fun r13 =>
 optO (CV.asL r13) fun p14 =>
 bif (decide ((p14.2.length : Int) > 0)) then
 (optO (C lb n F_l22_awake []) fun r15 =>
 some (r15))
 else
 (optO (C lb n F_r01_Long [.list bn5 b6, .int .i64 60]) fun r17 =>
 optO (CV.asB r17) fun b18 =>
 bif b18 then
 (optO (C lb n F_l22_awake []) fun r19 =>
 some (r19))
 else
 (bif (decide ((b6.length : Int) < 2)) then
 (optO (C lb n F_l22_awake []) fun r20 =>
 some (r20))
 else
 (bif (decide ((b6.length : Int) > 7)) then
 (optO (C lb n F_l22_awake []) fun r21 =>
 some (r21))
 else
 (optO (atL b6 0) fun c22 =>
 chkO (c22.length == 1) (
 optO (c22[0]?) fun x23 =>
 optO (atL b6 (IntKind.wrap .i64 ((b6.length : Int) - 1))) fun c24 =>
 chkO (c24.length == 1) (
 optO (c24[0]?) fun x25 =>
 optO (C lb n F_routing_Ways [.agg [.int .i64 anum1, .list alinn2 alin3, .int .i64 amil4], x23, x25, .int .i64 (IntKind.wrap .i64 ((b6.length : Int) - 1))]) fun r26 =>
 optO (CV.asT r26) fun t27 =>
 optO (t27[0]?) fun x28 =>
 optO (CV.asT r26) fun t29 =>
 optO (t29[1]?) fun x30 =>
 optO (CV.asS x23) fun s31 =>
 optO (CV.asS x25) fun s33 =>
 bif (s31 == s33) then
 (optO (CV.asI .i64 x30) fun i34 =>
 bif (i34 == 2) then
 (optO (C lb n F_l22_awake []) fun r35 =>
 some (r35))
 else
 (some (.bool false)))
 else
 (optO (CV.asI .i64 x30) fun i36 =>
 bif (i36 != 0) then
 (optO (CV.asI .i64 x30) fun i37 =>
 bif (i37 == 4) then
 (optO (C lb n F_l22_awake []) fun r38 =>
 some (r38))
 else
 (some (.bool false)))
 else
 (l22_RoutingFollows_L1 lb n n anum1 alinn2 alin3 amil4 bn5 b6 x23 x25 x28 x30 c22 c24 r26 (.bool false) 0))))))))))) := by kernel_rfl

/-! airline/routing.link -/
noncomputable def routing_link_J1 (lb : Bool) (n : Nat) (an1 : Bool) (a2 : List (List CV)) (b3 : Int) (c4 : List CV) (x5 : CV) (x6 : CV) (b10 : Bool) (l11 : List (List CV)) : Option CV :=
  hold (E0 lb n 0 996 (sub (B F_routing_link) [1, 1, 1, 1]) (retK Tryd.prog (R F_routing_link) 0 (outK (tightF Tryd.prog F_routing_link))) ⟨fr 41 [(0, .val (.list an1 a2)), (1, .val (.int .i64 b3)), (4, .lst true true 30 []), (5, .lst true b10 30 l11), (6, .ptr 0 6 0), (7, .val (.list an1 a2)), (8, .val (.int .i64 b3)), (9, .cptr c4 0), (10, .val (.agg [x5, x6]))], [bx 41 [(6, some [.val x5, .val x6])]], KK⟩)

noncomputable def routing_link_J2 (lb : Bool) (n : Nat) (an1 : Bool) (a2 : List (List CV)) (b3 : Int) (c4 : List CV) (x5 : CV) (x6 : CV) (b14 : Bool) (l15 : List (List CV)) : Option CV :=
  hold (E0 lb n 0 995 (sub (B F_routing_link) [1, 1, 1, 1, 1]) (retK Tryd.prog (R F_routing_link) 0 (outK (tightF Tryd.prog F_routing_link))) ⟨fr 41 [(0, .val (.list an1 a2)), (1, .val (.int .i64 b3)), (4, .lst true true 30 []), (5, .lst true b14 30 l15), (6, .ptr 0 6 0), (7, .val (.list an1 a2)), (8, .val (.int .i64 b3)), (9, .cptr c4 0), (10, .val (.agg [x5, x6]))], [bx 41 [(6, some [.val x5, .val x6])]], KK⟩)

theorem routing_link_J2_eq (lb : Bool) (n : Nat) (an1 : Bool) (a2 : List (List CV)) (b3 : Int) (c4 : List CV) (x5 : CV) (x6 : CV) (b14 : Bool) (l15 : List (List CV)) :
  routing_link_J2 lb n an1 a2 b3 c4 x5 x6 b14 l15 =
 chkO (a2.all (·.length == 2)) (
 chkO (decide ((0 : Int) ≤ b3 ∧ b3 ≤ (a2.length : Int))) (
 optO (C lb n F_slices_Contains_api_Link [.list an1 ((a2.take b3.toNat).drop 0), .agg [x5, x6]]) fun r17 =>
 optO (CV.asB r17) fun b18 =>
 bif b18 then
 (chkO (room (l15.length + 1) 8) (
 some (.list (b14 && false) (l15 ++ [[CV.int .i64 6]]))))
 else
 (some (.list b14 l15)))) := (hold_eq _).trans (by kernel_rfl)

theorem routing_link_J1_eq (lb : Bool) (n : Nat) (an1 : Bool) (a2 : List (List CV)) (b3 : Int) (c4 : List CV) (x5 : CV) (x6 : CV) (b10 : Bool) (l11 : List (List CV)) :
  routing_link_J1 lb n an1 a2 b3 c4 x5 x6 b10 l11 =
 optO (CV.asS x5) fun s12 =>
 optO (CV.asS x6) fun s13 =>
 bif (s12 == s13) then
 (chkO (room (l11.length + 1) 8) (
 routing_link_J2 lb n an1 a2 b3 c4 x5 x6 (b10 && false) (l11 ++ [[CV.int .i64 2]])))
 else
 (routing_link_J2 lb n an1 a2 b3 c4 x5 x6 b10 l11) := (hold_eq _).trans (by kernel_rfl)

theorem routing_link_eq (lb : Bool) (n : Nat) (an1 : Bool) (a2 : List (List CV)) (b3 : Int) :
  top lb n F_routing_link [.list an1 a2, .int .i64 b3] =
 optO (atL a2 b3) fun c4 =>
 chkO (c4.length == 2) (
 optO (c4[0]?) fun x5 =>
 optO (c4[1]?) fun x6 =>
 optO (C lb n F_text_Airport [x5]) fun r7 =>
 optO (CV.asB r7) fun b9 =>
 bif (!b9) then
 (routing_link_J1 lb n an1 a2 b3 c4 x5 x6 false [[CV.int .i64 5]])
 else
 (optO (C lb n F_text_Airport [x6]) fun r19 =>
 optO (CV.asB r19) fun b20 =>
 bif (!b20) then
 (routing_link_J1 lb n an1 a2 b3 c4 x5 x6 false [[CV.int .i64 5]])
 else
 (routing_link_J1 lb n an1 a2 b3 c4 x5 x6 true []))) := by kernel_rfl

/-! airline/routing.Check -/
noncomputable def routing_Check_J1 (lb : Bool) (n : Nat) (anum1 : Int) (alinn2 : Bool) (alin3 : List (List CV)) (amil4 : Int) (b5 : Bool) (l6 : List (List CV)) : Option CV :=
  hold (E0 lb n 0 996 (sub (B F_routing_Check) [1, 1, 1, 1]) (retK Tryd.prog (R F_routing_Check) 0 (outK (tightF Tryd.prog F_routing_Check))) ⟨fr 59 [(0, .val (.agg [.int .i64 anum1, .list alinn2 alin3, .int .i64 amil4])), (1, .ptr 0 1 0), (2, .lst true true 42 []), (3, .ptr 0 3 0), (4, .clo F_routing_Check_1 [.ptr 0 3 0]), (8, .clo F_routing_Check_1 [.ptr 0 3 0])], [bx 59 [(1, some [.val (.int .i64 anum1), .val (.list alinn2 alin3), .val (.int .i64 amil4)]), (3, some [.lst true b5 42 l6])]], KK⟩)

noncomputable def routing_Check_J2 (lb : Bool) (n : Nat) (anum1 : Int) (alinn2 : Bool) (alin3 : List (List CV)) (amil4 : Int) (b7 : Bool) (l9 : List (List CV)) : Option CV :=
  hold (E0 lb n 0 995 (sub (B F_routing_Check) [1, 1, 1, 1, 1]) (retK Tryd.prog (R F_routing_Check) 0 (outK (tightF Tryd.prog F_routing_Check))) ⟨fr 59 [(0, .val (.agg [.int .i64 anum1, .list alinn2 alin3, .int .i64 amil4])), (1, .ptr 0 1 0), (2, .lst true true 42 []), (3, .ptr 0 3 0), (4, .clo F_routing_Check_1 [.ptr 0 3 0]), (8, .clo F_routing_Check_1 [.ptr 0 3 0])], [bx 59 [(1, some [.val (.int .i64 anum1), .val (.list alinn2 alin3), .val (.int .i64 amil4)]), (3, some [.lst true b7 42 l9])]], KK⟩)

theorem routing_Check_J2_eq (lb : Bool) (n : Nat) (anum1 : Int) (alinn2 : Bool) (alin3 : List (List CV)) (amil4 : Int) (b7 : Bool) (l9 : List (List CV)) :
  routing_Check_J2 lb n anum1 alinn2 alin3 amil4 b7 l9 =
 bif (decide (amil4 < 0)) then
 (chkO (room (l9.length + 1) 24) (
 some (.list (b7 && false) (l9 ++ [[CV.int .i64 2, CV.str [109, 105, 108, 101, 115]]]))))
 else
 (bif (decide (amil4 > 99999)) then
 (chkO (room (l9.length + 1) 24) (
 some (.list (b7 && false) (l9 ++ [[CV.int .i64 2, CV.str [109, 105, 108, 101, 115]]]))))
 else
 (some (.list b7 l9))) := (hold_eq _).trans (by kernel_rfl)

noncomputable def routing_Check_L3 (lb : Bool) (n : Nat) (k55 : Nat) (anum1 : Int) (alinn2 : Bool) (alin3 : List (List CV)) (amil4 : Int) (i31 : Int) (b33 : Bool) (l34 : List (List CV)) : Option CV :=
  hold (loopC (E0 lb n 0 990) 0 (loopTemps (sub (B F_routing_Check) [1, 1, 1, 1, 0, 1, 1, 1, 0, 0]) ++ [5, 7]) [] (sub (B F_routing_Check) [1, 1, 1, 1, 0, 1, 1, 1, 0, 0]) (blockK 0 (condK (sub (B F_routing_Check) [1, 1, 1, 1, 0, 1, 0]) (sub (B F_routing_Check) [1, 1, 1, 1, 0, 1, 1]) (seqK (E0 lb n 0 995) (sub (B F_routing_Check) [1, 1, 1, 1, 0]) (sub (B F_routing_Check) [1, 1, 1, 1, 1]) (retK Tryd.prog (R F_routing_Check) 0 (outK (tightF Tryd.prog F_routing_Check)))))) k55 ⟨fr 59 [(0, .val (.agg [.int .i64 anum1, .list alinn2 alin3, .int .i64 amil4])), (1, .ptr 0 1 0), (2, .lst true true 42 []), (3, .ptr 0 3 0), (4, .clo F_routing_Check_1 [.ptr 0 3 0]), (8, .clo F_routing_Check_1 [.ptr 0 3 0]), (19, .ptr 0 1 1), (20, .val (.list alinn2 alin3)), (21, .val (.int .i64 (alin3.length : Int))), (22, .val (.bool (decide ((alin3.length : Int) > 128)))), (25, .ptr 0 1 1), (26, .val (.list alinn2 alin3)), (27, .val (.int .i64 (alin3.length : Int))), (28, .val (.int .i64 i31))], [bx 59 [(1, some [.val (.int .i64 anum1), .val (.list alinn2 alin3), .val (.int .i64 amil4)]), (3, some [.lst true b33 42 l34])]], KK⟩)

noncomputable def routing_Check_L4 (lb : Bool) (n : Nat) (k72 : Nat) (k55 : Nat) (anum1 : Int) (alinn2 : Bool) (alin3 : List (List CV)) (amil4 : Int) (i31 : Int) (r56 : CV) (p57 : Bool × List (List CV)) (i63 : Int) (b65 : Bool) (l66 : List (List CV)) : Option CV :=
  hold (loopC (E0 lb n 0 982) 0 (loopTemps (sub (B F_routing_Check) [1, 1, 1, 1, 0, 1, 1, 1, 0, 0, 1, 1, 0, 0, 1, 1, 0, 0]) ++ [7]) [] (sub (B F_routing_Check) [1, 1, 1, 1, 0, 1, 1, 1, 0, 0, 1, 1, 0, 0, 1, 1, 0, 0]) (blockK 2 (blockK 1 (seqK (E0 lb n 0 987) (sub (B F_routing_Check) [1, 1, 1, 1, 0, 1, 1, 1, 0, 0, 1, 1, 0]) (sub (B F_routing_Check) [1, 1, 1, 1, 0, 1, 1, 1, 0, 0, 1, 1, 1]) (loopK 0 (loopTemps (sub (B F_routing_Check) [1, 1, 1, 1, 0, 1, 1, 1, 0, 0]) ++ [5, 7]) [] (loopC (E0 lb n 0 990) 0 (loopTemps (sub (B F_routing_Check) [1, 1, 1, 1, 0, 1, 1, 1, 0, 0]) ++ [5, 7]) [] (sub (B F_routing_Check) [1, 1, 1, 1, 0, 1, 1, 1, 0, 0]) (blockK 0 (condK (sub (B F_routing_Check) [1, 1, 1, 1, 0, 1, 0]) (sub (B F_routing_Check) [1, 1, 1, 1, 0, 1, 1]) (seqK (E0 lb n 0 995) (sub (B F_routing_Check) [1, 1, 1, 1, 0]) (sub (B F_routing_Check) [1, 1, 1, 1, 1]) (retK Tryd.prog (R F_routing_Check) 0 (outK (tightF Tryd.prog F_routing_Check)))))) k55) (blockK 0 (condK (sub (B F_routing_Check) [1, 1, 1, 1, 0, 1, 0]) (sub (B F_routing_Check) [1, 1, 1, 1, 0, 1, 1]) (seqK (E0 lb n 0 995) (sub (B F_routing_Check) [1, 1, 1, 1, 0]) (sub (B F_routing_Check) [1, 1, 1, 1, 1]) (retK Tryd.prog (R F_routing_Check) 0 (outK (tightF Tryd.prog F_routing_Check)))))))))) k72 ⟨fr 59 [(0, .val (.agg [.int .i64 anum1, .list alinn2 alin3, .int .i64 amil4])), (1, .ptr 0 1 0), (2, .lst true true 42 []), (3, .ptr 0 3 0), (4, .clo F_routing_Check_1 [.ptr 0 3 0]), (5, .val (.int .i64 i31)), (8, .clo F_routing_Check_1 [.ptr 0 3 0]), (19, .ptr 0 1 1), (20, .val (.list alinn2 alin3)), (21, .val (.int .i64 (alin3.length : Int))), (22, .val (.bool (decide ((alin3.length : Int) > 128)))), (25, .ptr 0 1 1), (26, .val (.list alinn2 alin3)), (27, .val (.int .i64 (alin3.length : Int))), (28, .val (.int .i64 i31)), (29, .val (.bool (decide (i31 < (alin3.length : Int))))), (30, .val (.int .i64 i31)), (31, .ptr 0 1 1), (32, .val (.list alinn2 alin3)), (33, .val (.int .i64 i31)), (34, .val r56), (35, .val (.int .i64 (p57.2.length : Int))), (36, .val (.int .i64 i63))], [bx 59 [(1, some [.val (.int .i64 anum1), .val (.list alinn2 alin3), .val (.int .i64 amil4)]), (3, some [.lst true b65 42 l66])]], KK⟩)

noncomputable def routing_Check_J5 (lb : Bool) (n : Nat) (k55 : Nat) (anum1 : Int) (alinn2 : Bool) (alin3 : List (List CV)) (amil4 : Int) (i31 : Int) (i78 : Int) (b79 : Bool) (l80 : List (List CV)) : Option CV :=
  hold (E0 lb n 0 987 (sub (B F_routing_Check) [1, 1, 1, 1, 0, 1, 1, 1, 0, 0, 1, 1, 1]) (loopK 0 (loopTemps (sub (B F_routing_Check) [1, 1, 1, 1, 0, 1, 1, 1, 0, 0]) ++ [5, 7]) [] (loopC (E0 lb n 0 990) 0 (loopTemps (sub (B F_routing_Check) [1, 1, 1, 1, 0, 1, 1, 1, 0, 0]) ++ [5, 7]) [] (sub (B F_routing_Check) [1, 1, 1, 1, 0, 1, 1, 1, 0, 0]) (blockK 0 (condK (sub (B F_routing_Check) [1, 1, 1, 1, 0, 1, 0]) (sub (B F_routing_Check) [1, 1, 1, 1, 0, 1, 1]) (seqK (E0 lb n 0 995) (sub (B F_routing_Check) [1, 1, 1, 1, 0]) (sub (B F_routing_Check) [1, 1, 1, 1, 1]) (retK Tryd.prog (R F_routing_Check) 0 (outK (tightF Tryd.prog F_routing_Check)))))) k55) (blockK 0 (condK (sub (B F_routing_Check) [1, 1, 1, 1, 0, 1, 0]) (sub (B F_routing_Check) [1, 1, 1, 1, 0, 1, 1]) (seqK (E0 lb n 0 995) (sub (B F_routing_Check) [1, 1, 1, 1, 0]) (sub (B F_routing_Check) [1, 1, 1, 1, 1]) (retK Tryd.prog (R F_routing_Check) 0 (outK (tightF Tryd.prog F_routing_Check))))))) ⟨fr 59 [(0, .val (.agg [.int .i64 anum1, .list alinn2 alin3, .int .i64 amil4])), (1, .ptr 0 1 0), (2, .lst true true 42 []), (3, .ptr 0 3 0), (4, .clo F_routing_Check_1 [.ptr 0 3 0]), (5, .val (.int .i64 i78)), (8, .clo F_routing_Check_1 [.ptr 0 3 0]), (19, .ptr 0 1 1), (20, .val (.list alinn2 alin3)), (21, .val (.int .i64 (alin3.length : Int))), (22, .val (.bool (decide ((alin3.length : Int) > 128)))), (25, .ptr 0 1 1), (26, .val (.list alinn2 alin3)), (27, .val (.int .i64 (alin3.length : Int))), (28, .val (.int .i64 i31)), (29, .val (.bool (decide (i31 < (alin3.length : Int)))))], [bx 59 [(1, some [.val (.int .i64 anum1), .val (.list alinn2 alin3), .val (.int .i64 amil4)]), (3, some [.lst true b79 42 l80])]], KK⟩)

theorem routing_Check_J5_eq (lb : Bool) (n : Nat) (k55 : Nat) (anum1 : Int) (alinn2 : Bool) (alin3 : List (List CV)) (amil4 : Int) (i31 : Int) (i78 : Int) (b79 : Bool) (l80 : List (List CV)) :
  routing_Check_J5 lb n k55 anum1 alinn2 alin3 amil4 i31 i78 b79 l80 =
 routing_Check_L3 lb n k55 anum1 alinn2 alin3 amil4 (IntKind.wrap .i64 (i31 + 1)) b79 l80 := (hold_eq _).trans (by kernel_rfl)

theorem routing_Check_L4_succ (lb : Bool) (n k72 : Nat) (k55 : Nat) (anum1 : Int) (alinn2 : Bool) (alin3 : List (List CV)) (amil4 : Int) (i31 : Int) (r56 : CV) (p57 : Bool × List (List CV)) (i63 : Int) (b65 : Bool) (l66 : List (List CV)) :
  routing_Check_L4 lb n (k72 + 1) k55 anum1 alinn2 alin3 amil4 i31 r56 p57 i63 b65 l66 =
 bif (decide (i63 < (p57.2.length : Int))) then
 (optO (CV.asL r56) fun p73 =>
 optO (atL p73.2 i63) fun c74 =>
 chkO (c74.length == 1) (
 optO (c74[0]?) fun x75 =>
 optO (C lb n F_text_Decimal [.int .i64 i31]) fun r76 =>
 optO (CV.asS r76) fun s77 =>
 chkO (decide (([108, 105, 110, 107, 32] : List UInt8).length + s77.length ≤ 9223372036854775807)) (
 chkO (CV.isCell x75) (
 chkO (room (l66.length + 1) 24) (
 routing_Check_L4 lb n k72 k55 anum1 alinn2 alin3 amil4 i31 r56 p57 (IntKind.wrap .i64 (i63 + 1)) (b65 && false) (l66 ++ [[x75, CV.str (([108, 105, 110, 107, 32] : List UInt8) ++ s77)]]))))))
 else
 (routing_Check_J5 lb n k55 anum1 alinn2 alin3 amil4 i31 i31 b65 l66) := (hold_eq _).trans (by kernel_rfl)

theorem routing_Check_L4_zero (lb : Bool) (n : Nat) (k55 : Nat) (anum1 : Int) (alinn2 : Bool) (alin3 : List (List CV)) (amil4 : Int) (i31 : Int) (r56 : CV) (p57 : Bool × List (List CV)) (i63 : Int) (b65 : Bool) (l66 : List (List CV)) :
  routing_Check_L4 lb n 0 k55 anum1 alinn2 alin3 amil4 i31 r56 p57 i63 b65 l66 =
 none := (hold_eq _).trans (by kernel_rfl)

theorem routing_Check_L3_succ (lb : Bool) (n k55 : Nat) (anum1 : Int) (alinn2 : Bool) (alin3 : List (List CV)) (amil4 : Int) (i31 : Int) (b33 : Bool) (l34 : List (List CV)) :
  routing_Check_L3 lb n (k55 + 1) anum1 alinn2 alin3 amil4 i31 b33 l34 =
 bif (decide (i31 < (alin3.length : Int))) then
 (optO (C lb n F_routing_link [.list alinn2 alin3, .int .i64 i31]) fun r56 =>
 optO (CV.asL r56) fun p57 =>
 routing_Check_L4 lb n n k55 anum1 alinn2 alin3 amil4 i31 r56 p57 0 b33 l34)
 else
 (routing_Check_J2 lb n anum1 alinn2 alin3 amil4 b33 l34) := (hold_eq _).trans (by kernel_rfl)

theorem routing_Check_L3_zero (lb : Bool) (n : Nat) (anum1 : Int) (alinn2 : Bool) (alin3 : List (List CV)) (amil4 : Int) (i31 : Int) (b33 : Bool) (l34 : List (List CV)) :
  routing_Check_L3 lb n 0 anum1 alinn2 alin3 amil4 i31 b33 l34 =
 none := (hold_eq _).trans (by kernel_rfl)

theorem routing_Check_J1_eq (lb : Bool) (n : Nat) (anum1 : Int) (alinn2 : Bool) (alin3 : List (List CV)) (amil4 : Int) (b5 : Bool) (l6 : List (List CV)) :
  routing_Check_J1 lb n anum1 alinn2 alin3 amil4 b5 l6 =
 bif (decide ((alin3.length : Int) > 128)) then
 (chkO (room (l6.length + 1) 24) (
 routing_Check_J2 lb n anum1 alinn2 alin3 amil4 (b5 && false) (l6 ++ [[CV.int .i64 4, CV.str [108, 105, 110, 107, 115]]])))
 else
 (routing_Check_L3 lb n n anum1 alinn2 alin3 amil4 0 b5 l6) := (hold_eq _).trans (by kernel_rfl)

theorem routing_Check_eq (lb : Bool) (n : Nat) (anum1 : Int) (alinn2 : Bool) (alin3 : List (List CV)) (amil4 : Int) :
  top lb n F_routing_Check [.agg [.int .i64 anum1, .list alinn2 alin3, .int .i64 amil4]] =
 bif (decide (anum1 < 1)) then
 (routing_Check_J1 lb n anum1 alinn2 alin3 amil4 false [[CV.int .i64 2, CV.str [110, 117, 109, 98, 101, 114]]])
 else
 (bif (decide (anum1 > 9999)) then
 (routing_Check_J1 lb n anum1 alinn2 alin3 amil4 false [[CV.int .i64 2, CV.str [110, 117, 109, 98, 101, 114]]])
 else
 (routing_Check_J1 lb n anum1 alinn2 alin3 amil4 true [])) := by kernel_rfl

end Go.Proofs
