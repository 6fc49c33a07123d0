/- Equations of functions, printed by program. Conditions: none. -/
import Derived.Test.YtmandbflbfkagaaGreatDoorEv
namespace Go.Proofs
open Go.Am
set_option maxRecDepth 100000
set_option linter.unusedVariables false
/-! airline/cond.levels -/
noncomputable def cond_levels_L1 (lb : Nat) (n : Nat) (k38 : Nat) (akin1 : Int) (aln2 : Bool) (al3 : List (List CV)) (aa4 : Int) (ab5 : Int) (aperfro6 : Int) (aperto7 : Int) (aperday9 : Int) (atexn10 : Bool) (atex11 : List (List CV)) (i24 : Int) (i25 : Int) : Option CV :=
  hold (loopC (E0 lb n 0 994) 0 (loopTemps (sub (B F_cond_levels) [1, 1, 0, 1, 0, 0]) ++ []) [5] (sub (B F_cond_levels) [1, 1, 0, 1, 0, 0]) (blockK 0 (seqK (E0 lb n 0 997) (sub (B F_cond_levels) [1, 1, 0]) (sub (B F_cond_levels) [1, 1, 1]) (retK Tryz.prog (R F_cond_levels) 0 (outK (tightF Tryz.prog F_cond_levels))))) k38 ⟨fr 20 [(0, .val (.agg [.int .i64 akin1, .list aln2 al3, .int .i64 aa4, .int .i64 ab5, .int .i64 aperfro6, .int .i64 aperto7, .int .i64 aperday9, .list atexn10 atex11])), (1, .ptr 0 1 0), (2, .val (.int .i64 0)), (3, .val (.int .i64 i24)), (6, .ptr 0 1 1), (7, .val (.list aln2 al3)), (8, .val (.int .i64 (al3.length : Int))), (9, .val (.int .i64 i25))], [bx 20 [(1, some [.val (.int .i64 akin1), .val (.list aln2 al3), .val (.int .i64 aa4), .val (.int .i64 ab5), .val (.int .i64 aperfro6), .val (.int .i64 aperto7), .val (.int .i64 aperday9), .val (.list atexn10 atex11)])]], KK⟩)

noncomputable def cond_levels_J2 (lb : Nat) (n : Nat) (akin1 : Int) (aln2 : Bool) (al3 : List (List CV)) (aa4 : Int) (ab5 : Int) (aperfro6 : Int) (aperto7 : Int) (aperday9 : Int) (atexn10 : Bool) (atex11 : List (List CV)) (i50 : Int) : Option CV :=
  hold (E0 lb n 0 997 (sub (B F_cond_levels) [1, 1, 1]) (retK Tryz.prog (R F_cond_levels) 0 (outK (tightF Tryz.prog F_cond_levels))) ⟨fr 20 [(0, .val (.agg [.int .i64 akin1, .list aln2 al3, .int .i64 aa4, .int .i64 ab5, .int .i64 aperfro6, .int .i64 aperto7, .int .i64 aperday9, .list atexn10 atex11])), (1, .ptr 0 1 0), (2, .val (.int .i64 0)), (3, .val (.int .i64 i50))], [bx 20 [(1, some [.val (.int .i64 akin1), .val (.list aln2 al3), .val (.int .i64 aa4), .val (.int .i64 ab5), .val (.int .i64 aperfro6), .val (.int .i64 aperto7), .val (.int .i64 aperday9), .val (.list atexn10 atex11)])]], KK⟩)

theorem cond_levels_J2_eq (lb : Nat) (n : Nat) (akin1 : Int) (aln2 : Bool) (al3 : List (List CV)) (aa4 : Int) (ab5 : Int) (aperfro6 : Int) (aperto7 : Int) (aperday9 : Int) (atexn10 : Bool) (atex11 : List (List CV)) (i50 : Int) :
  cond_levels_J2 lb n akin1 aln2 al3 aa4 ab5 aperfro6 aperto7 aperday9 atexn10 atex11 i50 =
 some (.int .i64 (IntKind.wrap .i64 (i50 + 1))) := (hold_eq _).trans (by kernel_rfl)

theorem cond_levels_L1_succ (lb : Nat) (n k38 : Nat) (akin1 : Int) (aln2 : Bool) (al3 : List (List CV)) (aa4 : Int) (ab5 : Int) (aperfro6 : Int) (aperto7 : Int) (aperday9 : Int) (atexn10 : Bool) (atex11 : List (List CV)) (i24 : Int) (i25 : Int) :
  cond_levels_L1 lb n (k38 + 1) akin1 aln2 al3 aa4 ab5 aperfro6 aperto7 aperday9 atexn10 atex11 i24 i25 =
 bif (decide (i25 < (al3.length : Int))) then
 (optO (atL al3 i25) fun c39 =>
 chkO (c39.length == 8) (
 optO (c39[0]?) fun x40 =>
 optO (c39[1]?) fun x41 =>
 optO (c39[2]?) fun x42 =>
 optO (c39[3]?) fun x43 =>
 optO (c39[4]?) fun x44 =>
 optO (c39[5]?) fun x45 =>
 optO (c39[6]?) fun x46 =>
 optO (c39[7]?) fun x47 =>
 optO (C lb n F_cond_levels [.agg [x40, x41, x42, x43, x44, x45, x46, x47]]) fun r48 =>
 optO (CV.asI .i64 r48) fun i49 =>
 cond_levels_L1 lb n k38 akin1 aln2 al3 aa4 ab5 aperfro6 aperto7 aperday9 atexn10 atex11 (if i49 > i24 then i49 else i24) (IntKind.wrap .i64 (i25 + 1))))
 else
 (cond_levels_J2 lb n akin1 aln2 al3 aa4 ab5 aperfro6 aperto7 aperday9 atexn10 atex11 i24) := (hold_eq _).trans (by kernel_rfl)

theorem cond_levels_L1_zero (lb : Nat) (n : Nat) (akin1 : Int) (aln2 : Bool) (al3 : List (List CV)) (aa4 : Int) (ab5 : Int) (aperfro6 : Int) (aperto7 : Int) (aperday9 : Int) (atexn10 : Bool) (atex11 : List (List CV)) (i24 : Int) (i25 : Int) :
  cond_levels_L1 lb n 0 akin1 aln2 al3 aa4 ab5 aperfro6 aperto7 aperday9 atexn10 atex11 i24 i25 =
 none := (hold_eq _).trans (by kernel_rfl)

theorem cond_levels_eq (lb : Nat) (n : Nat) (akin1 : Int) (aln2 : Bool) (al3 : List (List CV)) (aa4 : Int) (ab5 : Int) (aperfro6 : Int) (aperto7 : Int) (aperday9 : Int) (atexn10 : Bool) (atex11 : List (List CV)) :
  top lb n F_cond_levels [.agg [.int .i64 akin1, .list aln2 al3, .int .i64 aa4, .int .i64 ab5, .int .i64 aperfro6, .int .i64 aperto7, .int .i64 aperday9, .list atexn10 atex11]] =
 cond_levels_L1 lb n n akin1 aln2 al3 aa4 ab5 aperfro6 aperto7 aperday9 atexn10 atex11 0 0 := by kernel_rfl

/-! airline/cond.Size -/
noncomputable def cond_Size_L1 (lb : Nat) (n : Nat) (k38 : Nat) (akin1 : Int) (aln2 : Bool) (al3 : List (List CV)) (aa4 : Int) (ab5 : Int) (aperfro6 : Int) (aperto7 : Int) (aperday9 : Int) (atexn10 : Bool) (atex11 : List (List CV)) (i24 : Int) (i25 : Int) : Option CV :=
  hold (loopC (E0 lb n 0 994) 0 (loopTemps (sub (B F_cond_Size) [1, 1, 0, 1, 0, 0]) ++ []) [5] (sub (B F_cond_Size) [1, 1, 0, 1, 0, 0]) (blockK 0 (seqK (E0 lb n 0 997) (sub (B F_cond_Size) [1, 1, 0]) (sub (B F_cond_Size) [1, 1, 1]) (retK Tryz.prog (R F_cond_Size) 0 (outK (tightF Tryz.prog F_cond_Size))))) k38 ⟨fr 19 [(0, .val (.agg [.int .i64 akin1, .list aln2 al3, .int .i64 aa4, .int .i64 ab5, .int .i64 aperfro6, .int .i64 aperto7, .int .i64 aperday9, .list atexn10 atex11])), (1, .ptr 0 1 0), (2, .val (.int .i64 0)), (3, .val (.int .i64 i24)), (6, .ptr 0 1 1), (7, .val (.list aln2 al3)), (8, .val (.int .i64 (al3.length : Int))), (9, .val (.int .i64 i25))], [bx 19 [(1, some [.val (.int .i64 akin1), .val (.list aln2 al3), .val (.int .i64 aa4), .val (.int .i64 ab5), .val (.int .i64 aperfro6), .val (.int .i64 aperto7), .val (.int .i64 aperday9), .val (.list atexn10 atex11)])]], KK⟩)

noncomputable def cond_Size_J2 (lb : Nat) (n : Nat) (akin1 : Int) (aln2 : Bool) (al3 : List (List CV)) (aa4 : Int) (ab5 : Int) (aperfro6 : Int) (aperto7 : Int) (aperday9 : Int) (atexn10 : Bool) (atex11 : List (List CV)) (i50 : Int) : Option CV :=
  hold (E0 lb n 0 997 (sub (B F_cond_Size) [1, 1, 1]) (retK Tryz.prog (R F_cond_Size) 0 (outK (tightF Tryz.prog F_cond_Size))) ⟨fr 19 [(0, .val (.agg [.int .i64 akin1, .list aln2 al3, .int .i64 aa4, .int .i64 ab5, .int .i64 aperfro6, .int .i64 aperto7, .int .i64 aperday9, .list atexn10 atex11])), (1, .ptr 0 1 0), (2, .val (.int .i64 0)), (3, .val (.int .i64 i50))], [bx 19 [(1, some [.val (.int .i64 akin1), .val (.list aln2 al3), .val (.int .i64 aa4), .val (.int .i64 ab5), .val (.int .i64 aperfro6), .val (.int .i64 aperto7), .val (.int .i64 aperday9), .val (.list atexn10 atex11)])]], KK⟩)

theorem cond_Size_J2_eq (lb : Nat) (n : Nat) (akin1 : Int) (aln2 : Bool) (al3 : List (List CV)) (aa4 : Int) (ab5 : Int) (aperfro6 : Int) (aperto7 : Int) (aperday9 : Int) (atexn10 : Bool) (atex11 : List (List CV)) (i50 : Int) :
  cond_Size_J2 lb n akin1 aln2 al3 aa4 ab5 aperfro6 aperto7 aperday9 atexn10 atex11 i50 =
 some (.int .i64 i50) := (hold_eq _).trans (by kernel_rfl)

theorem cond_Size_L1_succ (lb : Nat) (n k38 : Nat) (akin1 : Int) (aln2 : Bool) (al3 : List (List CV)) (aa4 : Int) (ab5 : Int) (aperfro6 : Int) (aperto7 : Int) (aperday9 : Int) (atexn10 : Bool) (atex11 : List (List CV)) (i24 : Int) (i25 : Int) :
  cond_Size_L1 lb n (k38 + 1) akin1 aln2 al3 aa4 ab5 aperfro6 aperto7 aperday9 atexn10 atex11 i24 i25 =
 bif (decide (i25 < (al3.length : Int))) then
 (optO (atL al3 i25) fun c39 =>
 chkO (c39.length == 8) (
 optO (c39[0]?) fun x40 =>
 optO (c39[1]?) fun x41 =>
 optO (c39[2]?) fun x42 =>
 optO (c39[3]?) fun x43 =>
 optO (c39[4]?) fun x44 =>
 optO (c39[5]?) fun x45 =>
 optO (c39[6]?) fun x46 =>
 optO (c39[7]?) fun x47 =>
 optO (C lb n F_cond_Size [.agg [x40, x41, x42, x43, x44, x45, x46, x47]]) fun r48 =>
 optO (CV.asI .i64 r48) fun i49 =>
 cond_Size_L1 lb n k38 akin1 aln2 al3 aa4 ab5 aperfro6 aperto7 aperday9 atexn10 atex11 (IntKind.wrap .i64 (i24 + i49)) (IntKind.wrap .i64 (i25 + 1))))
 else
 (cond_Size_J2 lb n akin1 aln2 al3 aa4 ab5 aperfro6 aperto7 aperday9 atexn10 atex11 i24) := (hold_eq _).trans (by kernel_rfl)

theorem cond_Size_L1_zero (lb : Nat) (n : Nat) (akin1 : Int) (aln2 : Bool) (al3 : List (List CV)) (aa4 : Int) (ab5 : Int) (aperfro6 : Int) (aperto7 : Int) (aperday9 : Int) (atexn10 : Bool) (atex11 : List (List CV)) (i24 : Int) (i25 : Int) :
  cond_Size_L1 lb n 0 akin1 aln2 al3 aa4 ab5 aperfro6 aperto7 aperday9 atexn10 atex11 i24 i25 =
 none := (hold_eq _).trans (by kernel_rfl)

theorem cond_Size_eq (lb : Nat) (n : Nat) (akin1 : Int) (aln2 : Bool) (al3 : List (List CV)) (aa4 : Int) (ab5 : Int) (aperfro6 : Int) (aperto7 : Int) (aperday9 : Int) (atexn10 : Bool) (atex11 : List (List CV)) :
  top lb n F_cond_Size [.agg [.int .i64 akin1, .list aln2 al3, .int .i64 aa4, .int .i64 ab5, .int .i64 aperfro6, .int .i64 aperto7, .int .i64 aperday9, .list atexn10 atex11]] =
 cond_Size_L1 lb n n akin1 aln2 al3 aa4 ab5 aperfro6 aperto7 aperday9 atexn10 atex11 1 0 := by kernel_rfl

/-! airline/airlineref20.levels -/
noncomputable def r20_levels_L1 (lb : Nat) (n : Nat) (k38 : Nat) (akin1 : Int) (aln2 : Bool) (al3 : List (List CV)) (aa4 : Int) (ab5 : Int) (aperfro6 : Int) (aperto7 : Int) (aperday9 : Int) (atexn10 : Bool) (atex11 : List (List CV)) (i24 : Int) (i25 : Int) : Option CV :=
  hold (loopC (E0 lb n 0 994) 0 (loopTemps (sub (B F_r20_levels) [1, 1, 0, 1, 0, 0]) ++ []) [] (sub (B F_r20_levels) [1, 1, 0, 1, 0, 0]) (blockK 0 (seqK (E0 lb n 0 997) (sub (B F_r20_levels) [1, 1, 0]) (sub (B F_r20_levels) [1, 1, 1]) (retK Tryz.prog (R F_r20_levels) 0 (outK (tightF Tryz.prog F_r20_levels))))) k38 ⟨fr 22 [(0, .val (.agg [.int .i64 akin1, .list aln2 al3, .int .i64 aa4, .int .i64 ab5, .int .i64 aperfro6, .int .i64 aperto7, .int .i64 aperday9, .list atexn10 atex11])), (1, .ptr 0 1 0), (2, .val (.int .i64 0)), (3, .val (.int .i64 i24)), (4, .val (.int .i64 i25))], [bx 22 [(1, some [.val (.int .i64 akin1), .val (.list aln2 al3), .val (.int .i64 aa4), .val (.int .i64 ab5), .val (.int .i64 aperfro6), .val (.int .i64 aperto7), .val (.int .i64 aperday9), .val (.list atexn10 atex11)])]], KK⟩)

noncomputable def r20_levels_J2 (lb : Nat) (n : Nat) (akin1 : Int) (aln2 : Bool) (al3 : List (List CV)) (aa4 : Int) (ab5 : Int) (aperfro6 : Int) (aperto7 : Int) (aperday9 : Int) (atexn10 : Bool) (atex11 : List (List CV)) (i50 : Int) (i51 : Int) : Option CV :=
  hold (E0 lb n 0 997 (sub (B F_r20_levels) [1, 1, 1]) (retK Tryz.prog (R F_r20_levels) 0 (outK (tightF Tryz.prog F_r20_levels))) ⟨fr 22 [(0, .val (.agg [.int .i64 akin1, .list aln2 al3, .int .i64 aa4, .int .i64 ab5, .int .i64 aperfro6, .int .i64 aperto7, .int .i64 aperday9, .list atexn10 atex11])), (1, .ptr 0 1 0), (2, .val (.int .i64 0)), (3, .val (.int .i64 i50)), (4, .val (.int .i64 i51))], [bx 22 [(1, some [.val (.int .i64 akin1), .val (.list aln2 al3), .val (.int .i64 aa4), .val (.int .i64 ab5), .val (.int .i64 aperfro6), .val (.int .i64 aperto7), .val (.int .i64 aperday9), .val (.list atexn10 atex11)])]], KK⟩)

theorem r20_levels_J2_eq (lb : Nat) (n : Nat) (akin1 : Int) (aln2 : Bool) (al3 : List (List CV)) (aa4 : Int) (ab5 : Int) (aperfro6 : Int) (aperto7 : Int) (aperday9 : Int) (atexn10 : Bool) (atex11 : List (List CV)) (i50 : Int) (i51 : Int) :
  r20_levels_J2 lb n akin1 aln2 al3 aa4 ab5 aperfro6 aperto7 aperday9 atexn10 atex11 i50 i51 =
 some (.int .i64 (IntKind.wrap .i64 (i50 + 1))) := (hold_eq _).trans (by kernel_rfl)

theorem r20_levels_L1_succ (lb : Nat) (n k38 : Nat) (akin1 : Int) (aln2 : Bool) (al3 : List (List CV)) (aa4 : Int) (ab5 : Int) (aperfro6 : Int) (aperto7 : Int) (aperday9 : Int) (atexn10 : Bool) (atex11 : List (List CV)) (i24 : Int) (i25 : Int) :
  r20_levels_L1 lb n (k38 + 1) akin1 aln2 al3 aa4 ab5 aperfro6 aperto7 aperday9 atexn10 atex11 i24 i25 =
 bif (decide (i25 < (al3.length : Int))) then
 (optO (atL al3 i25) fun c39 =>
 chkO (c39.length == 8) (
 optO (c39[0]?) fun x40 =>
 optO (c39[1]?) fun x41 =>
 optO (c39[2]?) fun x42 =>
 optO (c39[3]?) fun x43 =>
 optO (c39[4]?) fun x44 =>
 optO (c39[5]?) fun x45 =>
 optO (c39[6]?) fun x46 =>
 optO (c39[7]?) fun x47 =>
 optO (C lb n F_r20_levels [.agg [x40, x41, x42, x43, x44, x45, x46, x47]]) fun r48 =>
 optO (CV.asI .i64 r48) fun i49 =>
 r20_levels_L1 lb n k38 akin1 aln2 al3 aa4 ab5 aperfro6 aperto7 aperday9 atexn10 atex11 (if i49 > i24 then i49 else i24) (IntKind.wrap .i64 (i25 + 1))))
 else
 (r20_levels_J2 lb n akin1 aln2 al3 aa4 ab5 aperfro6 aperto7 aperday9 atexn10 atex11 i24 i25) := (hold_eq _).trans (by kernel_rfl)

theorem r20_levels_L1_zero (lb : Nat) (n : Nat) (akin1 : Int) (aln2 : Bool) (al3 : List (List CV)) (aa4 : Int) (ab5 : Int) (aperfro6 : Int) (aperto7 : Int) (aperday9 : Int) (atexn10 : Bool) (atex11 : List (List CV)) (i24 : Int) (i25 : Int) :
  r20_levels_L1 lb n 0 akin1 aln2 al3 aa4 ab5 aperfro6 aperto7 aperday9 atexn10 atex11 i24 i25 =
 none := (hold_eq _).trans (by kernel_rfl)

theorem r20_levels_eq (lb : Nat) (n : Nat) (akin1 : Int) (aln2 : Bool) (al3 : List (List CV)) (aa4 : Int) (ab5 : Int) (aperfro6 : Int) (aperto7 : Int) (aperday9 : Int) (atexn10 : Bool) (atex11 : List (List CV)) :
  top lb n F_r20_levels [.agg [.int .i64 akin1, .list aln2 al3, .int .i64 aa4, .int .i64 ab5, .int .i64 aperfro6, .int .i64 aperto7, .int .i64 aperday9, .list atexn10 atex11]] =
 r20_levels_L1 lb n n akin1 aln2 al3 aa4 ab5 aperfro6 aperto7 aperday9 atexn10 atex11 0 0 := by kernel_rfl

/-! airline/airlineref20.Size -/
noncomputable def r20_Size_L1 (lb : Nat) (n : Nat) (k38 : Nat) (akin1 : Int) (aln2 : Bool) (al3 : List (List CV)) (aa4 : Int) (ab5 : Int) (aperfro6 : Int) (aperto7 : Int) (aperday9 : Int) (atexn10 : Bool) (atex11 : List (List CV)) (i24 : Int) (i25 : Int) : Option CV :=
  hold (loopC (E0 lb n 0 994) 0 (loopTemps (sub (B F_r20_Size) [1, 1, 0, 1, 0, 0]) ++ []) [] (sub (B F_r20_Size) [1, 1, 0, 1, 0, 0]) (blockK 0 (seqK (E0 lb n 0 997) (sub (B F_r20_Size) [1, 1, 0]) (sub (B F_r20_Size) [1, 1, 1]) (retK Tryz.prog (R F_r20_Size) 0 (outK (tightF Tryz.prog F_r20_Size))))) k38 ⟨fr 21 [(0, .val (.agg [.int .i64 akin1, .list aln2 al3, .int .i64 aa4, .int .i64 ab5, .int .i64 aperfro6, .int .i64 aperto7, .int .i64 aperday9, .list atexn10 atex11])), (1, .ptr 0 1 0), (2, .val (.int .i64 0)), (3, .val (.int .i64 i24)), (4, .val (.int .i64 i25))], [bx 21 [(1, some [.val (.int .i64 akin1), .val (.list aln2 al3), .val (.int .i64 aa4), .val (.int .i64 ab5), .val (.int .i64 aperfro6), .val (.int .i64 aperto7), .val (.int .i64 aperday9), .val (.list atexn10 atex11)])]], KK⟩)

noncomputable def r20_Size_J2 (lb : Nat) (n : Nat) (akin1 : Int) (aln2 : Bool) (al3 : List (List CV)) (aa4 : Int) (ab5 : Int) (aperfro6 : Int) (aperto7 : Int) (aperday9 : Int) (atexn10 : Bool) (atex11 : List (List CV)) (i50 : Int) (i51 : Int) : Option CV :=
  hold (E0 lb n 0 997 (sub (B F_r20_Size) [1, 1, 1]) (retK Tryz.prog (R F_r20_Size) 0 (outK (tightF Tryz.prog F_r20_Size))) ⟨fr 21 [(0, .val (.agg [.int .i64 akin1, .list aln2 al3, .int .i64 aa4, .int .i64 ab5, .int .i64 aperfro6, .int .i64 aperto7, .int .i64 aperday9, .list atexn10 atex11])), (1, .ptr 0 1 0), (2, .val (.int .i64 0)), (3, .val (.int .i64 i50)), (4, .val (.int .i64 i51))], [bx 21 [(1, some [.val (.int .i64 akin1), .val (.list aln2 al3), .val (.int .i64 aa4), .val (.int .i64 ab5), .val (.int .i64 aperfro6), .val (.int .i64 aperto7), .val (.int .i64 aperday9), .val (.list atexn10 atex11)])]], KK⟩)

theorem r20_Size_J2_eq (lb : Nat) (n : Nat) (akin1 : Int) (aln2 : Bool) (al3 : List (List CV)) (aa4 : Int) (ab5 : Int) (aperfro6 : Int) (aperto7 : Int) (aperday9 : Int) (atexn10 : Bool) (atex11 : List (List CV)) (i50 : Int) (i51 : Int) :
  r20_Size_J2 lb n akin1 aln2 al3 aa4 ab5 aperfro6 aperto7 aperday9 atexn10 atex11 i50 i51 =
 some (.int .i64 i50) := (hold_eq _).trans (by kernel_rfl)

theorem r20_Size_L1_succ (lb : Nat) (n k38 : Nat) (akin1 : Int) (aln2 : Bool) (al3 : List (List CV)) (aa4 : Int) (ab5 : Int) (aperfro6 : Int) (aperto7 : Int) (aperday9 : Int) (atexn10 : Bool) (atex11 : List (List CV)) (i24 : Int) (i25 : Int) :
  r20_Size_L1 lb n (k38 + 1) akin1 aln2 al3 aa4 ab5 aperfro6 aperto7 aperday9 atexn10 atex11 i24 i25 =
 bif (decide (i25 < (al3.length : Int))) then
 (optO (atL al3 i25) fun c39 =>
 chkO (c39.length == 8) (
 optO (c39[0]?) fun x40 =>
 optO (c39[1]?) fun x41 =>
 optO (c39[2]?) fun x42 =>
 optO (c39[3]?) fun x43 =>
 optO (c39[4]?) fun x44 =>
 optO (c39[5]?) fun x45 =>
 optO (c39[6]?) fun x46 =>
 optO (c39[7]?) fun x47 =>
 optO (C lb n F_r20_Size [.agg [x40, x41, x42, x43, x44, x45, x46, x47]]) fun r48 =>
 optO (CV.asI .i64 r48) fun i49 =>
 r20_Size_L1 lb n k38 akin1 aln2 al3 aa4 ab5 aperfro6 aperto7 aperday9 atexn10 atex11 (IntKind.wrap .i64 (i24 + i49)) (IntKind.wrap .i64 (i25 + 1))))
 else
 (r20_Size_J2 lb n akin1 aln2 al3 aa4 ab5 aperfro6 aperto7 aperday9 atexn10 atex11 i24 i25) := (hold_eq _).trans (by kernel_rfl)

theorem r20_Size_L1_zero (lb : Nat) (n : Nat) (akin1 : Int) (aln2 : Bool) (al3 : List (List CV)) (aa4 : Int) (ab5 : Int) (aperfro6 : Int) (aperto7 : Int) (aperday9 : Int) (atexn10 : Bool) (atex11 : List (List CV)) (i24 : Int) (i25 : Int) :
  r20_Size_L1 lb n 0 akin1 aln2 al3 aa4 ab5 aperfro6 aperto7 aperday9 atexn10 atex11 i24 i25 =
 none := (hold_eq _).trans (by kernel_rfl)

theorem r20_Size_eq (lb : Nat) (n : Nat) (akin1 : Int) (aln2 : Bool) (al3 : List (List CV)) (aa4 : Int) (ab5 : Int) (aperfro6 : Int) (aperto7 : Int) (aperday9 : Int) (atexn10 : Bool) (atex11 : List (List CV)) :
  top lb n F_r20_Size [.agg [.int .i64 akin1, .list aln2 al3, .int .i64 aa4, .int .i64 ab5, .int .i64 aperfro6, .int .i64 aperto7, .int .i64 aperday9, .list atexn10 atex11]] =
 r20_Size_L1 lb n n akin1 aln2 al3 aa4 ab5 aperfro6 aperto7 aperday9 atexn10 atex11 1 0 := by kernel_rfl

/-! airline/airlinelaw20.large -/
noncomputable def l20_large_L1 (lb : Nat) (n : Nat) (k39 : Nat) (akin1 : Int) (aln2 : Bool) (al3 : List (List CV)) (aa4 : Int) (ab5 : Int) (aperfro6 : Int) (aperto7 : Int) (aperday9 : Int) (atexn10 : Bool) (atex11 : List (List CV)) (i26 : Int) : Option CV :=
  hold (loopC (E0 lb n 0 993) 0 (loopTemps (sub (B F_l20_large) [1, 1, 1, 0, 1, 0, 0]) ++ []) [] (sub (B F_l20_large) [1, 1, 1, 0, 1, 0, 0]) (blockK 0 (seqK (E0 lb n 0 996) (sub (B F_l20_large) [1, 1, 1, 0]) (sub (B F_l20_large) [1, 1, 1, 1]) (retK Tryz.prog (R F_l20_large) 0 (outK (tightF Tryz.prog F_l20_large))))) k39 ⟨fr 46 [(0, .val (.agg [.int .i64 akin1, .list aln2 al3, .int .i64 aa4, .int .i64 ab5, .int .i64 aperfro6, .int .i64 aperto7, .int .i64 aperday9, .list atexn10 atex11])), (1, .ptr 0 1 0), (2, .val (.bool false)), (3, .val (.int .i64 (atex11.length : Int))), (4, .val (.int .i64 i26)), (9, .ptr 0 1 7), (10, .val (.list atexn10 atex11)), (11, .val (.int .i64 (atex11.length : Int)))], [bx 46 [(1, some [.val (.int .i64 akin1), .val (.list aln2 al3), .val (.int .i64 aa4), .val (.int .i64 ab5), .val (.int .i64 aperfro6), .val (.int .i64 aperto7), .val (.int .i64 aperday9), .val (.list atexn10 atex11)])]], KK⟩)

noncomputable def l20_large_J2 (lb : Nat) (n : Nat) (akin1 : Int) (aln2 : Bool) (al3 : List (List CV)) (aa4 : Int) (ab5 : Int) (aperfro6 : Int) (aperto7 : Int) (aperday9 : Int) (atexn10 : Bool) (atex11 : List (List CV)) (i51 : Int) : Option CV :=
  hold (E0 lb n 0 996 (sub (B F_l20_large) [1, 1, 1, 1]) (retK Tryz.prog (R F_l20_large) 0 (outK (tightF Tryz.prog F_l20_large))) ⟨fr 46 [(0, .val (.agg [.int .i64 akin1, .list aln2 al3, .int .i64 aa4, .int .i64 ab5, .int .i64 aperfro6, .int .i64 aperto7, .int .i64 aperday9, .list atexn10 atex11])), (1, .ptr 0 1 0), (2, .val (.bool false)), (3, .val (.int .i64 (atex11.length : Int))), (4, .val (.int .i64 i51)), (9, .ptr 0 1 7), (10, .val (.list atexn10 atex11)), (11, .val (.int .i64 (atex11.length : Int)))], [bx 46 [(1, some [.val (.int .i64 akin1), .val (.list aln2 al3), .val (.int .i64 aa4), .val (.int .i64 ab5), .val (.int .i64 aperfro6), .val (.int .i64 aperto7), .val (.int .i64 aperday9), .val (.list atexn10 atex11)])]], KK⟩)

noncomputable def l20_large_L3 (lb : Nat) (n : Nat) (k60 : Nat) (akin1 : Int) (aln2 : Bool) (al3 : List (List CV)) (aa4 : Int) (ab5 : Int) (aperfro6 : Int) (aperto7 : Int) (aperday9 : Int) (atexn10 : Bool) (atex11 : List (List CV)) (i51 : Int) (i55 : Int) (i56 : Int) : Option CV :=
  hold (loopC (E0 lb n 0 992) 0 (loopTemps (sub (B F_l20_large) [1, 1, 1, 1, 0, 1, 0, 0]) ++ []) [] (sub (B F_l20_large) [1, 1, 1, 1, 0, 1, 0, 0]) (blockK 2 (seqK (E0 lb n 0 995) (sub (B F_l20_large) [1, 1, 1, 1, 0]) (sub (B F_l20_large) [1, 1, 1, 1, 1]) (retK Tryz.prog (R F_l20_large) 0 (outK (tightF Tryz.prog F_l20_large))))) k60 ⟨fr 46 [(0, .val (.agg [.int .i64 akin1, .list aln2 al3, .int .i64 aa4, .int .i64 ab5, .int .i64 aperfro6, .int .i64 aperto7, .int .i64 aperday9, .list atexn10 atex11])), (1, .ptr 0 1 0), (2, .val (.bool false)), (3, .val (.int .i64 i55)), (4, .val (.int .i64 i51)), (5, .val (.int .i64 i56)), (9, .ptr 0 1 7), (10, .val (.list atexn10 atex11)), (11, .val (.int .i64 (atex11.length : Int)))], [bx 46 [(1, some [.val (.int .i64 akin1), .val (.list aln2 al3), .val (.int .i64 aa4), .val (.int .i64 ab5), .val (.int .i64 aperfro6), .val (.int .i64 aperto7), .val (.int .i64 aperday9), .val (.list atexn10 atex11)])]], KK⟩)

noncomputable def l20_large_J4 (lb : Nat) (n : Nat) (akin1 : Int) (aln2 : Bool) (al3 : List (List CV)) (aa4 : Int) (ab5 : Int) (aperfro6 : Int) (aperto7 : Int) (aperday9 : Int) (atexn10 : Bool) (atex11 : List (List CV)) (i51 : Int) (i65 : Int) (i66 : Int) : Option CV :=
  hold (E0 lb n 0 995 (sub (B F_l20_large) [1, 1, 1, 1, 1]) (retK Tryz.prog (R F_l20_large) 0 (outK (tightF Tryz.prog F_l20_large))) ⟨fr 46 [(0, .val (.agg [.int .i64 akin1, .list aln2 al3, .int .i64 aa4, .int .i64 ab5, .int .i64 aperfro6, .int .i64 aperto7, .int .i64 aperday9, .list atexn10 atex11])), (1, .ptr 0 1 0), (2, .val (.bool false)), (3, .val (.int .i64 i65)), (4, .val (.int .i64 i51)), (5, .val (.int .i64 i66)), (9, .ptr 0 1 7), (10, .val (.list atexn10 atex11)), (11, .val (.int .i64 (atex11.length : Int)))], [bx 46 [(1, some [.val (.int .i64 akin1), .val (.list aln2 al3), .val (.int .i64 aa4), .val (.int .i64 ab5), .val (.int .i64 aperfro6), .val (.int .i64 aperto7), .val (.int .i64 aperday9), .val (.list atexn10 atex11)])]], KK⟩)

theorem l20_large_J4_eq (lb : Nat) (n : Nat) (akin1 : Int) (aln2 : Bool) (al3 : List (List CV)) (aa4 : Int) (ab5 : Int) (aperfro6 : Int) (aperto7 : Int) (aperday9 : Int) (atexn10 : Bool) (atex11 : List (List CV)) (i51 : Int) (i65 : Int) (i66 : Int) :
  l20_large_J4 lb n akin1 aln2 al3 aa4 ab5 aperfro6 aperto7 aperday9 atexn10 atex11 i51 i65 i66 =
 some (.bool (decide (i65 > 400))) := (hold_eq _).trans (by kernel_rfl)

theorem l20_large_L3_succ (lb : Nat) (n k60 : Nat) (akin1 : Int) (aln2 : Bool) (al3 : List (List CV)) (aa4 : Int) (ab5 : Int) (aperfro6 : Int) (aperto7 : Int) (aperday9 : Int) (atexn10 : Bool) (atex11 : List (List CV)) (i51 : Int) (i55 : Int) (i56 : Int) :
  l20_large_L3 lb n (k60 + 1) akin1 aln2 al3 aa4 ab5 aperfro6 aperto7 aperday9 atexn10 atex11 i51 i55 i56 =
 bif (decide (i56 < (atex11.length : Int))) then
 (bif (decide (i56 < 200)) then
 (optO (atL atex11 i56) fun c61 =>
 chkO (c61.length == 1) (
 optO (c61[0]?) fun x62 =>
 optO (CV.asS x62) fun s63 =>
 l20_large_L3 lb n k60 akin1 aln2 al3 aa4 ab5 aperfro6 aperto7 aperday9 atexn10 atex11 i51 (IntKind.wrap .i64 (i55 + (s63.length : Int))) (IntKind.wrap .i64 (i56 + 1))))
 else
 (l20_large_J4 lb n akin1 aln2 al3 aa4 ab5 aperfro6 aperto7 aperday9 atexn10 atex11 i51 i55 i56))
 else
 (l20_large_J4 lb n akin1 aln2 al3 aa4 ab5 aperfro6 aperto7 aperday9 atexn10 atex11 i51 i55 i56) := (hold_eq _).trans (by kernel_rfl)

theorem l20_large_L3_zero (lb : Nat) (n : Nat) (akin1 : Int) (aln2 : Bool) (al3 : List (List CV)) (aa4 : Int) (ab5 : Int) (aperfro6 : Int) (aperto7 : Int) (aperday9 : Int) (atexn10 : Bool) (atex11 : List (List CV)) (i51 : Int) (i55 : Int) (i56 : Int) :
  l20_large_L3 lb n 0 akin1 aln2 al3 aa4 ab5 aperfro6 aperto7 aperday9 atexn10 atex11 i51 i55 i56 =
 none := (hold_eq _).trans (by kernel_rfl)

theorem l20_large_J2_eq (lb : Nat) (n : Nat) (akin1 : Int) (aln2 : Bool) (al3 : List (List CV)) (aa4 : Int) (ab5 : Int) (aperfro6 : Int) (aperto7 : Int) (aperday9 : Int) (atexn10 : Bool) (atex11 : List (List CV)) (i51 : Int) :
  l20_large_J2 lb n akin1 aln2 al3 aa4 ab5 aperfro6 aperto7 aperday9 atexn10 atex11 i51 =
 l20_large_L3 lb n n akin1 aln2 al3 aa4 ab5 aperfro6 aperto7 aperday9 atexn10 atex11 i51 (atex11.length : Int) 0 := (hold_eq _).trans (by kernel_rfl)

theorem l20_large_L1_succ (lb : Nat) (n k39 : Nat) (akin1 : Int) (aln2 : Bool) (al3 : List (List CV)) (aa4 : Int) (ab5 : Int) (aperfro6 : Int) (aperto7 : Int) (aperday9 : Int) (atexn10 : Bool) (atex11 : List (List CV)) (i26 : Int) :
  l20_large_L1 lb n (k39 + 1) akin1 aln2 al3 aa4 ab5 aperfro6 aperto7 aperday9 atexn10 atex11 i26 =
 bif (decide (i26 < (al3.length : Int))) then
 (optO (atL al3 i26) fun c40 =>
 chkO (c40.length == 8) (
 optO (c40[0]?) fun x41 =>
 optO (c40[1]?) fun x42 =>
 optO (c40[2]?) fun x43 =>
 optO (c40[3]?) fun x44 =>
 optO (c40[4]?) fun x45 =>
 optO (c40[5]?) fun x46 =>
 optO (c40[6]?) fun x47 =>
 optO (c40[7]?) fun x48 =>
 optO (C lb n F_l20_large [.agg [x41, x42, x43, x44, x45, x46, x47, x48]]) fun r49 =>
 optO (CV.asB r49) fun b50 =>
 bif b50 then
 (some (.bool true))
 else
 (l20_large_L1 lb n k39 akin1 aln2 al3 aa4 ab5 aperfro6 aperto7 aperday9 atexn10 atex11 (IntKind.wrap .i64 (i26 + 1)))))
 else
 (l20_large_J2 lb n akin1 aln2 al3 aa4 ab5 aperfro6 aperto7 aperday9 atexn10 atex11 i26) := (hold_eq _).trans (by kernel_rfl)

theorem l20_large_L1_zero (lb : Nat) (n : Nat) (akin1 : Int) (aln2 : Bool) (al3 : List (List CV)) (aa4 : Int) (ab5 : Int) (aperfro6 : Int) (aperto7 : Int) (aperday9 : Int) (atexn10 : Bool) (atex11 : List (List CV)) (i26 : Int) :
  l20_large_L1 lb n 0 akin1 aln2 al3 aa4 ab5 aperfro6 aperto7 aperday9 atexn10 atex11 i26 =
 none := (hold_eq _).trans (by kernel_rfl)

theorem l20_large_eq (lb : Nat) (n : Nat) (akin1 : Int) (aln2 : Bool) (al3 : List (List CV)) (aa4 : Int) (ab5 : Int) (aperfro6 : Int) (aperto7 : Int) (aperday9 : Int) (atexn10 : Bool) (atex11 : List (List CV)) :
  top lb n F_l20_large [.agg [.int .i64 akin1, .list aln2 al3, .int .i64 aa4, .int .i64 ab5, .int .i64 aperfro6, .int .i64 aperto7, .int .i64 aperday9, .list atexn10 atex11]] =
 optO (C lb n F_r20_Size [.agg [.int .i64 akin1, .list aln2 al3, .int .i64 aa4, .int .i64 ab5, .int .i64 aperfro6, .int .i64 aperto7, .int .i64 aperday9, .list atexn10 atex11]]) fun r12 =>
 optO (CV.asI .i64 r12) fun i13 =>
 bif (decide (i13 > 300)) then
 (some (.bool true))
 else
 (l20_large_L1 lb n n akin1 aln2 al3 aa4 ab5 aperfro6 aperto7 aperday9 atexn10 atex11 0) := by kernel_rfl

/-! airline/airlinelaw20.far -/
theorem l20_far_eq (lb : Nat) (n : Nat) (atyp1 : List UInt8) (asal2 : Int) (aday3 : Int) (amin4 : Int) (asto5 : Int) (atra6 : Int) (acarn7 : Bool) (acar9 : List (List CV)) (anumn10 : Bool) (anum11 : List (List CV)) (avian12 : Bool) (avia13 : List (List CV)) :
  top lb n F_l20_far [.agg [.str atyp1, .int .i64 asal2, .int .i64 aday3, .int .i64 amin4, .int .i64 asto5, .int .i64 atra6, .list acarn7 acar9, .list anumn10 anum11, .list avian12 avia13]] =
 bif (decide ((if asal2 < aday3 then asal2 else aday3) < (-1099511627776))) then
 (some (.bool true))
 else
 (bif (decide ((if asal2 > aday3 then asal2 else aday3) > 1099511627776)) then
 (some (.bool true))
 else
 (bif (decide ((acar9.length : Int) > 100)) then
 (some (.bool true))
 else
 (bif (decide ((anum11.length : Int) > 100)) then
 (some (.bool true))
 else
 (some (.bool (decide ((avia13.length : Int) > 100))))))) := by kernel_rfl

end Go.Proofs
