/- Equations of functions, printed by program. Conditions: none. -/
import Derived.Test.YtmandbflbfkagaaGreatDoorEv
namespace Go.Proofs
open Go.Am
set_option maxRecDepth 100000
set_option linter.unusedVariables false
/-! airline/cond.part -/
noncomputable def cond_formOf_d1 (lb : Nat) (n : Nat) (K : AV → List (List (Option (List AV))) → Option CV) (iq1 : Int) (iq2 : Int) (bq3 : Bool) (lq4 : List (List CV)) (iq5 : Int) (iq6 : Int) (iq7 : Int) (iq8 : Int) (iq9 : Int) (bq10 : Bool) (lq11 : List (List CV)) : Option CV :=
  I9 lb n F_cond_formOf [.val (.int .i64 iq1)] [bx 140 [(1, some [.val (.int .i64 iq2), .val (.list bq3 lq4), .val (.int .i64 iq5), .val (.int .i64 iq6), .val (.int .i64 iq7), .val (.int .i64 iq8), .val (.int .i64 iq9), .val (.list bq10 lq11)])]] K

noncomputable def cond_part_c1 (lb : Nat) (n : Nat) (akin1 : Int) (aln2 : Bool) (al3 : List (List CV)) (aa4 : Int) (ab5 : Int) (aperfro6 : Int) (aperto7 : Int) (aperday9 : Int) (atexn10 : Bool) (atex11 : List (List CV)) : AV → List (List (Option (List AV))) → Option CV :=
  (inlK (opAt (opsOf (sub (B F_cond_part) [1, 0])) 2) ⟨fr 140 [(0, .val (.agg [.int .i64 akin1, .list aln2 al3, .int .i64 aa4, .int .i64 ab5, .int .i64 aperfro6, .int .i64 aperto7, .int .i64 aperday9, .list atexn10 atex11])), (1, .ptr 0 1 0), (2, .val (.int .i64 0)), (5, .ptr 0 1 0), (6, .val (.int .i64 akin1))], [bx 140 [(1, some [.val (.int .i64 akin1), .val (.list aln2 al3), .val (.int .i64 aa4), .val (.int .i64 ab5), .val (.int .i64 aperfro6), .val (.int .i64 aperto7), .val (.int .i64 aperday9), .val (.list atexn10 atex11)])]], KK⟩ (opsK Tryz.prog (C lb n) (I9 lb n) 0 (opsOf (sub (B F_cond_part) [1, 0])) ((opsOf (sub (B F_cond_part) [1, 0])).drop 3) ((seqK (E0 lb n 0 998) (sub (B F_cond_part) [1, 0]) (sub (B F_cond_part) [1, 1]) (retK Tryz.prog (R F_cond_part) 0 (outK (tightF Tryz.prog F_cond_part)))) .normal)))

theorem cond_part_c1_0_eq (lb : Nat) (n : Nat) (akin1 : Int) (aln2 : Bool) (al3 : List (List CV)) (aa4 : Int) (ab5 : Int) (aperfro6 : Int) (aperto7 : Int) (aperday9 : Int) (atexn10 : Bool) (atex11 : List (List CV)) :
  cond_part_c1 lb n akin1 aln2 al3 aa4 ab5 aperfro6 aperto7 aperday9 atexn10 atex11 (.val (.agg [.str [97, 108, 108], .int .i64 0, .int .i64 0, .int .i64 (-1), .int .i64 (-1), .bool false, .nilfn, .bool false, .bool true])) [bx 140 [(1, some [.val (.int .i64 akin1), .val (.list aln2 al3), .val (.int .i64 aa4), .val (.int .i64 ab5), .val (.int .i64 aperfro6), .val (.int .i64 aperto7), .val (.int .i64 aperday9), .val (.list atexn10 atex11)])]] =
 bif (aa4 != 0) then
 (some (.int .i64 3))
 else
 (bif (ab5 != 0) then
 (some (.int .i64 3))
 else
 (bif (!((aperfro6 == 0) && ((aperto7 == 0) && ((aperday9 == 0) && true)))) then
 (some (.int .i64 3))
 else
 (bif (decide ((atex11.length : Int) > 0)) then
 (some (.int .i64 3))
 else
 (bif (decide ((al3.length : Int) > 0)) then
 (some (.int .i64 3))
 else
 (bif (decide ((al3.length : Int) < 0)) then
 (some (.int .i64 2))
 else
 (bif (decide ((al3.length : Int) > 0)) then
 (some (.int .i64 2))
 else
 (some (.int .i64 0)))))))) := by kernel_rfl

theorem cond_part_c1_1_eq (lb : Nat) (n : Nat) (akin1 : Int) (aln2 : Bool) (al3 : List (List CV)) (aa4 : Int) (ab5 : Int) (aperfro6 : Int) (aperto7 : Int) (aperday9 : Int) (atexn10 : Bool) (atex11 : List (List CV)) :
  cond_part_c1 lb n akin1 aln2 al3 aa4 ab5 aperfro6 aperto7 aperday9 atexn10 atex11 (.val (.agg [.str [97, 110, 100], .int .i64 1, .int .i64 128, .int .i64 (-1), .int .i64 (-1), .bool false, .nilfn, .bool false, .bool true])) [bx 140 [(1, some [.val (.int .i64 akin1), .val (.list aln2 al3), .val (.int .i64 aa4), .val (.int .i64 ab5), .val (.int .i64 aperfro6), .val (.int .i64 aperto7), .val (.int .i64 aperday9), .val (.list atexn10 atex11)])]] =
 bif (aa4 != 0) then
 (some (.int .i64 3))
 else
 (bif (ab5 != 0) then
 (some (.int .i64 3))
 else
 (bif (!((aperfro6 == 0) && ((aperto7 == 0) && ((aperday9 == 0) && true)))) then
 (some (.int .i64 3))
 else
 (bif (decide ((atex11.length : Int) > 0)) then
 (some (.int .i64 3))
 else
 (bif (decide ((al3.length : Int) < 1)) then
 (some (.int .i64 2))
 else
 (bif (decide ((al3.length : Int) > 128)) then
 (some (.int .i64 2))
 else
 (some (.int .i64 0))))))) := by kernel_rfl

theorem cond_part_c1_2_eq (lb : Nat) (n : Nat) (akin1 : Int) (aln2 : Bool) (al3 : List (List CV)) (aa4 : Int) (ab5 : Int) (aperfro6 : Int) (aperto7 : Int) (aperday9 : Int) (atexn10 : Bool) (atex11 : List (List CV)) :
  cond_part_c1 lb n akin1 aln2 al3 aa4 ab5 aperfro6 aperto7 aperday9 atexn10 atex11 (.val (.agg [.str [111, 114], .int .i64 1, .int .i64 128, .int .i64 (-1), .int .i64 (-1), .bool false, .nilfn, .bool false, .bool true])) [bx 140 [(1, some [.val (.int .i64 akin1), .val (.list aln2 al3), .val (.int .i64 aa4), .val (.int .i64 ab5), .val (.int .i64 aperfro6), .val (.int .i64 aperto7), .val (.int .i64 aperday9), .val (.list atexn10 atex11)])]] =
 bif (aa4 != 0) then
 (some (.int .i64 3))
 else
 (bif (ab5 != 0) then
 (some (.int .i64 3))
 else
 (bif (!((aperfro6 == 0) && ((aperto7 == 0) && ((aperday9 == 0) && true)))) then
 (some (.int .i64 3))
 else
 (bif (decide ((atex11.length : Int) > 0)) then
 (some (.int .i64 3))
 else
 (bif (decide ((al3.length : Int) < 1)) then
 (some (.int .i64 2))
 else
 (bif (decide ((al3.length : Int) > 128)) then
 (some (.int .i64 2))
 else
 (some (.int .i64 0))))))) := by kernel_rfl

theorem cond_part_c1_3_eq (lb : Nat) (n : Nat) (akin1 : Int) (aln2 : Bool) (al3 : List (List CV)) (aa4 : Int) (ab5 : Int) (aperfro6 : Int) (aperto7 : Int) (aperday9 : Int) (atexn10 : Bool) (atex11 : List (List CV)) :
  cond_part_c1 lb n akin1 aln2 al3 aa4 ab5 aperfro6 aperto7 aperday9 atexn10 atex11 (.val (.agg [.str [110, 111, 116], .int .i64 1, .int .i64 1, .int .i64 (-1), .int .i64 (-1), .bool false, .nilfn, .bool false, .bool true])) [bx 140 [(1, some [.val (.int .i64 akin1), .val (.list aln2 al3), .val (.int .i64 aa4), .val (.int .i64 ab5), .val (.int .i64 aperfro6), .val (.int .i64 aperto7), .val (.int .i64 aperday9), .val (.list atexn10 atex11)])]] =
 bif (aa4 != 0) then
 (some (.int .i64 3))
 else
 (bif (ab5 != 0) then
 (some (.int .i64 3))
 else
 (bif (!((aperfro6 == 0) && ((aperto7 == 0) && ((aperday9 == 0) && true)))) then
 (some (.int .i64 3))
 else
 (bif (decide ((atex11.length : Int) > 0)) then
 (some (.int .i64 3))
 else
 (bif (decide ((al3.length : Int) < 1)) then
 (some (.int .i64 2))
 else
 (bif (decide ((al3.length : Int) > 1)) then
 (some (.int .i64 2))
 else
 (some (.int .i64 0))))))) := by kernel_rfl

theorem cond_part_c1_4_eq (lb : Nat) (n : Nat) (akin1 : Int) (aln2 : Bool) (al3 : List (List CV)) (aa4 : Int) (ab5 : Int) (aperfro6 : Int) (aperto7 : Int) (aperday9 : Int) (atexn10 : Bool) (atex11 : List (List CV)) :
  cond_part_c1 lb n akin1 aln2 al3 aa4 ab5 aperfro6 aperto7 aperday9 atexn10 atex11 (.val (.agg [.str [116, 114, 97, 118, 101, 108], .int .i64 0, .int .i64 0, .int .i64 (-1), .int .i64 (-1), .bool true, .nilfn, .bool false, .bool true])) [bx 140 [(1, some [.val (.int .i64 akin1), .val (.list aln2 al3), .val (.int .i64 aa4), .val (.int .i64 ab5), .val (.int .i64 aperfro6), .val (.int .i64 aperto7), .val (.int .i64 aperday9), .val (.list atexn10 atex11)])]] =
 bif (aa4 != 0) then
 (some (.int .i64 3))
 else
 (bif (ab5 != 0) then
 (some (.int .i64 3))
 else
 (bif (decide ((atex11.length : Int) > 0)) then
 (some (.int .i64 3))
 else
 (bif (decide ((al3.length : Int) > 0)) then
 (some (.int .i64 3))
 else
 (bif (decide ((al3.length : Int) < 0)) then
 (some (.int .i64 2))
 else
 (bif (decide ((al3.length : Int) > 0)) then
 (some (.int .i64 2))
 else
 (optO (C lb n F_period_Check [.agg [.int .i64 aperfro6, .int .i64 aperto7, .int .i64 aperday9]]) fun r13 =>
 some (r13))))))) := by kernel_rfl

theorem cond_part_c1_5_eq (lb : Nat) (n : Nat) (akin1 : Int) (aln2 : Bool) (al3 : List (List CV)) (aa4 : Int) (ab5 : Int) (aperfro6 : Int) (aperto7 : Int) (aperday9 : Int) (atexn10 : Bool) (atex11 : List (List CV)) :
  cond_part_c1 lb n akin1 aln2 al3 aa4 ab5 aperfro6 aperto7 aperday9 atexn10 atex11 (.val (.agg [.str [115, 97, 108, 101], .int .i64 0, .int .i64 0, .int .i64 (-1), .int .i64 (-1), .bool true, .nilfn, .bool false, .bool true])) [bx 140 [(1, some [.val (.int .i64 akin1), .val (.list aln2 al3), .val (.int .i64 aa4), .val (.int .i64 ab5), .val (.int .i64 aperfro6), .val (.int .i64 aperto7), .val (.int .i64 aperday9), .val (.list atexn10 atex11)])]] =
 bif (aa4 != 0) then
 (some (.int .i64 3))
 else
 (bif (ab5 != 0) then
 (some (.int .i64 3))
 else
 (bif (decide ((atex11.length : Int) > 0)) then
 (some (.int .i64 3))
 else
 (bif (decide ((al3.length : Int) > 0)) then
 (some (.int .i64 3))
 else
 (bif (decide ((al3.length : Int) < 0)) then
 (some (.int .i64 2))
 else
 (bif (decide ((al3.length : Int) > 0)) then
 (some (.int .i64 2))
 else
 (optO (C lb n F_period_Check [.agg [.int .i64 aperfro6, .int .i64 aperto7, .int .i64 aperday9]]) fun r14 =>
 some (r14))))))) := by kernel_rfl

theorem cond_part_c1_6_eq (lb : Nat) (n : Nat) (akin1 : Int) (aln2 : Bool) (al3 : List (List CV)) (aa4 : Int) (ab5 : Int) (aperfro6 : Int) (aperto7 : Int) (aperday9 : Int) (atexn10 : Bool) (atex11 : List (List CV)) :
  cond_part_c1 lb n akin1 aln2 al3 aa4 ab5 aperfro6 aperto7 aperday9 atexn10 atex11 (.val (.agg [.str [97, 100, 118, 97, 110, 99, 101], .int .i64 0, .int .i64 0, .int .i64 36524, .int .i64 (-1), .bool false, .nilfn, .bool false, .bool true])) [bx 140 [(1, some [.val (.int .i64 akin1), .val (.list aln2 al3), .val (.int .i64 aa4), .val (.int .i64 ab5), .val (.int .i64 aperfro6), .val (.int .i64 aperto7), .val (.int .i64 aperday9), .val (.list atexn10 atex11)])]] =
 bif (ab5 != 0) then
 (some (.int .i64 3))
 else
 (bif (!((aperfro6 == 0) && ((aperto7 == 0) && ((aperday9 == 0) && true)))) then
 (some (.int .i64 3))
 else
 (bif (decide ((atex11.length : Int) > 0)) then
 (some (.int .i64 3))
 else
 (bif (decide ((al3.length : Int) > 0)) then
 (some (.int .i64 3))
 else
 (bif (decide ((al3.length : Int) < 0)) then
 (some (.int .i64 2))
 else
 (bif (decide ((al3.length : Int) > 0)) then
 (some (.int .i64 2))
 else
 (bif (decide (aa4 < 0)) then
 (some (.int .i64 2))
 else
 (bif (decide (aa4 > 36524)) then
 (some (.int .i64 2))
 else
 (some (.int .i64 0))))))))) := by kernel_rfl

theorem cond_part_c1_7_eq (lb : Nat) (n : Nat) (akin1 : Int) (aln2 : Bool) (al3 : List (List CV)) (aa4 : Int) (ab5 : Int) (aperfro6 : Int) (aperto7 : Int) (aperday9 : Int) (atexn10 : Bool) (atex11 : List (List CV)) :
  cond_part_c1 lb n akin1 aln2 al3 aa4 ab5 aperfro6 aperto7 aperday9 atexn10 atex11 (.val (.agg [.str [104, 111, 117, 114], .int .i64 0, .int .i64 0, .int .i64 1439, .int .i64 1439, .bool false, .nilfn, .bool false, .bool true])) [bx 140 [(1, some [.val (.int .i64 akin1), .val (.list aln2 al3), .val (.int .i64 aa4), .val (.int .i64 ab5), .val (.int .i64 aperfro6), .val (.int .i64 aperto7), .val (.int .i64 aperday9), .val (.list atexn10 atex11)])]] =
 bif (!((aperfro6 == 0) && ((aperto7 == 0) && ((aperday9 == 0) && true)))) then
 (some (.int .i64 3))
 else
 (bif (decide ((atex11.length : Int) > 0)) then
 (some (.int .i64 3))
 else
 (bif (decide ((al3.length : Int) > 0)) then
 (some (.int .i64 3))
 else
 (bif (decide ((al3.length : Int) < 0)) then
 (some (.int .i64 2))
 else
 (bif (decide ((al3.length : Int) > 0)) then
 (some (.int .i64 2))
 else
 (bif (decide (aa4 < 0)) then
 (some (.int .i64 2))
 else
 (bif (decide (aa4 > 1439)) then
 (some (.int .i64 2))
 else
 (bif (decide (ab5 < 0)) then
 (some (.int .i64 2))
 else
 (bif (decide (ab5 > 1439)) then
 (some (.int .i64 2))
 else
 (some (.int .i64 0)))))))))) := by kernel_rfl

theorem cond_part_c1_8_eq (lb : Nat) (n : Nat) (akin1 : Int) (aln2 : Bool) (al3 : List (List CV)) (aa4 : Int) (ab5 : Int) (aperfro6 : Int) (aperto7 : Int) (aperday9 : Int) (atexn10 : Bool) (atex11 : List (List CV)) :
  cond_part_c1 lb n akin1 aln2 al3 aa4 ab5 aperfro6 aperto7 aperday9 atexn10 atex11 (.val (.agg [.str [115, 116, 111, 112, 115], .int .i64 0, .int .i64 0, .int .i64 6, .int .i64 (-1), .bool false, .nilfn, .bool false, .bool true])) [bx 140 [(1, some [.val (.int .i64 akin1), .val (.list aln2 al3), .val (.int .i64 aa4), .val (.int .i64 ab5), .val (.int .i64 aperfro6), .val (.int .i64 aperto7), .val (.int .i64 aperday9), .val (.list atexn10 atex11)])]] =
 bif (ab5 != 0) then
 (some (.int .i64 3))
 else
 (bif (!((aperfro6 == 0) && ((aperto7 == 0) && ((aperday9 == 0) && true)))) then
 (some (.int .i64 3))
 else
 (bif (decide ((atex11.length : Int) > 0)) then
 (some (.int .i64 3))
 else
 (bif (decide ((al3.length : Int) > 0)) then
 (some (.int .i64 3))
 else
 (bif (decide ((al3.length : Int) < 0)) then
 (some (.int .i64 2))
 else
 (bif (decide ((al3.length : Int) > 0)) then
 (some (.int .i64 2))
 else
 (bif (decide (aa4 < 0)) then
 (some (.int .i64 2))
 else
 (bif (decide (aa4 > 6)) then
 (some (.int .i64 2))
 else
 (some (.int .i64 0))))))))) := by kernel_rfl

theorem cond_part_c1_9_eq (lb : Nat) (n : Nat) (akin1 : Int) (aln2 : Bool) (al3 : List (List CV)) (aa4 : Int) (ab5 : Int) (aperfro6 : Int) (aperto7 : Int) (aperday9 : Int) (atexn10 : Bool) (atex11 : List (List CV)) :
  cond_part_c1 lb n akin1 aln2 al3 aa4 ab5 aperfro6 aperto7 aperday9 atexn10 atex11 (.val (.agg [.str [116, 114, 97, 110, 115, 102, 101, 114, 115], .int .i64 0, .int .i64 0, .int .i64 6, .int .i64 (-1), .bool false, .nilfn, .bool false, .bool true])) [bx 140 [(1, some [.val (.int .i64 akin1), .val (.list aln2 al3), .val (.int .i64 aa4), .val (.int .i64 ab5), .val (.int .i64 aperfro6), .val (.int .i64 aperto7), .val (.int .i64 aperday9), .val (.list atexn10 atex11)])]] =
 bif (ab5 != 0) then
 (some (.int .i64 3))
 else
 (bif (!((aperfro6 == 0) && ((aperto7 == 0) && ((aperday9 == 0) && true)))) then
 (some (.int .i64 3))
 else
 (bif (decide ((atex11.length : Int) > 0)) then
 (some (.int .i64 3))
 else
 (bif (decide ((al3.length : Int) > 0)) then
 (some (.int .i64 3))
 else
 (bif (decide ((al3.length : Int) < 0)) then
 (some (.int .i64 2))
 else
 (bif (decide ((al3.length : Int) > 0)) then
 (some (.int .i64 2))
 else
 (bif (decide (aa4 < 0)) then
 (some (.int .i64 2))
 else
 (bif (decide (aa4 > 6)) then
 (some (.int .i64 2))
 else
 (some (.int .i64 0))))))))) := by kernel_rfl

theorem cond_part_c1_10_eq (lb : Nat) (n : Nat) (akin1 : Int) (aln2 : Bool) (al3 : List (List CV)) (aa4 : Int) (ab5 : Int) (aperfro6 : Int) (aperto7 : Int) (aperday9 : Int) (atexn10 : Bool) (atex11 : List (List CV)) :
  cond_part_c1 lb n akin1 aln2 al3 aa4 ab5 aperfro6 aperto7 aperday9 atexn10 atex11 (.val (.agg [.str [99, 97, 114, 114, 105, 101, 114], .int .i64 0, .int .i64 0, .int .i64 (-1), .int .i64 (-1), .bool false, .fn F_text_Carrier, .bool false, .bool true])) [bx 140 [(1, some [.val (.int .i64 akin1), .val (.list aln2 al3), .val (.int .i64 aa4), .val (.int .i64 ab5), .val (.int .i64 aperfro6), .val (.int .i64 aperto7), .val (.int .i64 aperday9), .val (.list atexn10 atex11)])]] =
 bif (aa4 != 0) then
 (some (.int .i64 3))
 else
 (bif (ab5 != 0) then
 (some (.int .i64 3))
 else
 (bif (!((aperfro6 == 0) && ((aperto7 == 0) && ((aperday9 == 0) && true)))) then
 (some (.int .i64 3))
 else
 (bif (decide ((al3.length : Int) > 0)) then
 (some (.int .i64 3))
 else
 (bif (decide ((al3.length : Int) < 0)) then
 (some (.int .i64 2))
 else
 (bif (decide ((al3.length : Int) > 0)) then
 (some (.int .i64 2))
 else
 (optO (C lb n F_cond_codes [.list atexn10 atex11, .fn F_text_Carrier]) fun r15 =>
 some (r15))))))) := by kernel_rfl

theorem cond_part_c1_11_eq (lb : Nat) (n : Nat) (akin1 : Int) (aln2 : Bool) (al3 : List (List CV)) (aa4 : Int) (ab5 : Int) (aperfro6 : Int) (aperto7 : Int) (aperday9 : Int) (atexn10 : Bool) (atex11 : List (List CV)) :
  cond_part_c1 lb n akin1 aln2 al3 aa4 ab5 aperfro6 aperto7 aperday9 atexn10 atex11 (.val (.agg [.str [110, 117, 109, 98, 101, 114], .int .i64 0, .int .i64 0, .int .i64 9999, .int .i64 9999, .bool false, .nilfn, .bool true, .bool true])) [bx 140 [(1, some [.val (.int .i64 akin1), .val (.list aln2 al3), .val (.int .i64 aa4), .val (.int .i64 ab5), .val (.int .i64 aperfro6), .val (.int .i64 aperto7), .val (.int .i64 aperday9), .val (.list atexn10 atex11)])]] =
 bif (!((aperfro6 == 0) && ((aperto7 == 0) && ((aperday9 == 0) && true)))) then
 (some (.int .i64 3))
 else
 (bif (decide ((atex11.length : Int) > 0)) then
 (some (.int .i64 3))
 else
 (bif (decide ((al3.length : Int) > 0)) then
 (some (.int .i64 3))
 else
 (bif (decide ((al3.length : Int) < 0)) then
 (some (.int .i64 2))
 else
 (bif (decide ((al3.length : Int) > 0)) then
 (some (.int .i64 2))
 else
 (bif (decide (aa4 < 0)) then
 (some (.int .i64 2))
 else
 (bif (decide (aa4 > 9999)) then
 (some (.int .i64 2))
 else
 (bif (decide (ab5 < 0)) then
 (some (.int .i64 2))
 else
 (bif (decide (ab5 > 9999)) then
 (some (.int .i64 2))
 else
 (bif (decide (aa4 < 1)) then
 (some (.int .i64 2))
 else
 (bif (decide (aa4 > ab5)) then
 (some (.int .i64 2))
 else
 (some (.int .i64 0)))))))))))) := by kernel_rfl

theorem cond_part_c1_12_eq (lb : Nat) (n : Nat) (akin1 : Int) (aln2 : Bool) (al3 : List (List CV)) (aa4 : Int) (ab5 : Int) (aperfro6 : Int) (aperto7 : Int) (aperday9 : Int) (atexn10 : Bool) (atex11 : List (List CV)) :
  cond_part_c1 lb n akin1 aln2 al3 aa4 ab5 aperfro6 aperto7 aperday9 atexn10 atex11 (.val (.agg [.str [118, 105, 97], .int .i64 0, .int .i64 0, .int .i64 (-1), .int .i64 (-1), .bool false, .fn F_text_Airport, .bool false, .bool true])) [bx 140 [(1, some [.val (.int .i64 akin1), .val (.list aln2 al3), .val (.int .i64 aa4), .val (.int .i64 ab5), .val (.int .i64 aperfro6), .val (.int .i64 aperto7), .val (.int .i64 aperday9), .val (.list atexn10 atex11)])]] =
 bif (aa4 != 0) then
 (some (.int .i64 3))
 else
 (bif (ab5 != 0) then
 (some (.int .i64 3))
 else
 (bif (!((aperfro6 == 0) && ((aperto7 == 0) && ((aperday9 == 0) && true)))) then
 (some (.int .i64 3))
 else
 (bif (decide ((al3.length : Int) > 0)) then
 (some (.int .i64 3))
 else
 (bif (decide ((al3.length : Int) < 0)) then
 (some (.int .i64 2))
 else
 (bif (decide ((al3.length : Int) > 0)) then
 (some (.int .i64 2))
 else
 (optO (C lb n F_cond_codes [.list atexn10 atex11, .fn F_text_Airport]) fun r17 =>
 some (r17))))))) := by kernel_rfl

theorem cond_part_c1_13_eq (lb : Nat) (n : Nat) (akin1 : Int) (aln2 : Bool) (al3 : List (List CV)) (aa4 : Int) (ab5 : Int) (aperfro6 : Int) (aperto7 : Int) (aperday9 : Int) (atexn10 : Bool) (atex11 : List (List CV)) :
  cond_part_c1 lb n akin1 aln2 al3 aa4 ab5 aperfro6 aperto7 aperday9 atexn10 atex11 (.val (.agg [.str [116, 121, 112, 101], .int .i64 0, .int .i64 0, .int .i64 (-1), .int .i64 (-1), .bool false, .fn F_cond_passenger, .bool false, .bool true])) [bx 140 [(1, some [.val (.int .i64 akin1), .val (.list aln2 al3), .val (.int .i64 aa4), .val (.int .i64 ab5), .val (.int .i64 aperfro6), .val (.int .i64 aperto7), .val (.int .i64 aperday9), .val (.list atexn10 atex11)])]] =
 bif (aa4 != 0) then
 (some (.int .i64 3))
 else
 (bif (ab5 != 0) then
 (some (.int .i64 3))
 else
 (bif (!((aperfro6 == 0) && ((aperto7 == 0) && ((aperday9 == 0) && true)))) then
 (some (.int .i64 3))
 else
 (bif (decide ((al3.length : Int) > 0)) then
 (some (.int .i64 3))
 else
 (bif (decide ((al3.length : Int) < 0)) then
 (some (.int .i64 2))
 else
 (bif (decide ((al3.length : Int) > 0)) then
 (some (.int .i64 2))
 else
 (optO (C lb n F_cond_codes [.list atexn10 atex11, .fn F_cond_passenger]) fun r18 =>
 some (r18))))))) := by kernel_rfl

theorem cond_part_c1_14_eq (lb : Nat) (n : Nat) (akin1 : Int) (aln2 : Bool) (al3 : List (List CV)) (aa4 : Int) (ab5 : Int) (aperfro6 : Int) (aperto7 : Int) (aperday9 : Int) (atexn10 : Bool) (atex11 : List (List CV)) :
  cond_part_c1 lb n akin1 aln2 al3 aa4 ab5 aperfro6 aperto7 aperday9 atexn10 atex11 (.val (.agg [.str [], .int .i64 0, .int .i64 0, .int .i64 (-1), .int .i64 (-1), .bool false, .nilfn, .bool false, .bool false])) [bx 140 [(1, some [.val (.int .i64 akin1), .val (.list aln2 al3), .val (.int .i64 aa4), .val (.int .i64 ab5), .val (.int .i64 aperfro6), .val (.int .i64 aperto7), .val (.int .i64 aperday9), .val (.list atexn10 atex11)])]] =
 some (.int .i64 8) := by kernel_rfl

theorem cond_part_eq (lb : Nat) (n : Nat) (akin1 : Int) (aln2 : Bool) (al3 : List (List CV)) (aa4 : Int) (ab5 : Int) (aperfro6 : Int) (aperto7 : Int) (aperday9 : Int) (atexn10 : Bool) (atex11 : List (List CV)) :
  top lb n F_cond_part [.agg [.int .i64 akin1, .list aln2 al3, .int .i64 aa4, .int .i64 ab5, .int .i64 aperfro6, .int .i64 aperto7, .int .i64 aperday9, .list atexn10 atex11]] =
 cond_formOf_d1 lb n (cond_part_c1 lb n akin1 aln2 al3 aa4 ab5 aperfro6 aperto7 aperday9 atexn10 atex11) akin1 akin1 aln2 al3 aa4 ab5 aperfro6 aperto7 aperday9 atexn10 atex11 := by kernel_rfl

/-! airline/cond.formOf, at depth 1 -/
theorem cond_formOf_d1_eq (lb : Nat) (n : Nat) (K : AV → List (List (Option (List AV))) → Option CV) (iq1 : Int) (iq2 : Int) (bq3 : Bool) (lq4 : List (List CV)) (iq5 : Int) (iq6 : Int) (iq7 : Int) (iq8 : Int) (iq9 : Int) (bq10 : Bool) (lq11 : List (List CV)) :
  cond_formOf_d1 lb n K iq1 iq2 bq3 lq4 iq5 iq6 iq7 iq8 iq9 bq10 lq11 =
 bif (iq1 == 1) then
 (K (.val (.agg [.str [97, 108, 108], .int .i64 0, .int .i64 0, .int .i64 (-1), .int .i64 (-1), .bool false, .nilfn, .bool false, .bool true])) [bx 140 [(1, some [.val (.int .i64 iq2), .val (.list bq3 lq4), .val (.int .i64 iq5), .val (.int .i64 iq6), .val (.int .i64 iq7), .val (.int .i64 iq8), .val (.int .i64 iq9), .val (.list bq10 lq11)])]])
 else
 (bif (iq1 == 2) then
 (K (.val (.agg [.str [97, 110, 100], .int .i64 1, .int .i64 128, .int .i64 (-1), .int .i64 (-1), .bool false, .nilfn, .bool false, .bool true])) [bx 140 [(1, some [.val (.int .i64 iq2), .val (.list bq3 lq4), .val (.int .i64 iq5), .val (.int .i64 iq6), .val (.int .i64 iq7), .val (.int .i64 iq8), .val (.int .i64 iq9), .val (.list bq10 lq11)])]])
 else
 (bif (iq1 == 3) then
 (K (.val (.agg [.str [111, 114], .int .i64 1, .int .i64 128, .int .i64 (-1), .int .i64 (-1), .bool false, .nilfn, .bool false, .bool true])) [bx 140 [(1, some [.val (.int .i64 iq2), .val (.list bq3 lq4), .val (.int .i64 iq5), .val (.int .i64 iq6), .val (.int .i64 iq7), .val (.int .i64 iq8), .val (.int .i64 iq9), .val (.list bq10 lq11)])]])
 else
 (bif (iq1 == 4) then
 (K (.val (.agg [.str [110, 111, 116], .int .i64 1, .int .i64 1, .int .i64 (-1), .int .i64 (-1), .bool false, .nilfn, .bool false, .bool true])) [bx 140 [(1, some [.val (.int .i64 iq2), .val (.list bq3 lq4), .val (.int .i64 iq5), .val (.int .i64 iq6), .val (.int .i64 iq7), .val (.int .i64 iq8), .val (.int .i64 iq9), .val (.list bq10 lq11)])]])
 else
 (bif (iq1 == 5) then
 (K (.val (.agg [.str [116, 114, 97, 118, 101, 108], .int .i64 0, .int .i64 0, .int .i64 (-1), .int .i64 (-1), .bool true, .nilfn, .bool false, .bool true])) [bx 140 [(1, some [.val (.int .i64 iq2), .val (.list bq3 lq4), .val (.int .i64 iq5), .val (.int .i64 iq6), .val (.int .i64 iq7), .val (.int .i64 iq8), .val (.int .i64 iq9), .val (.list bq10 lq11)])]])
 else
 (bif (iq1 == 6) then
 (K (.val (.agg [.str [115, 97, 108, 101], .int .i64 0, .int .i64 0, .int .i64 (-1), .int .i64 (-1), .bool true, .nilfn, .bool false, .bool true])) [bx 140 [(1, some [.val (.int .i64 iq2), .val (.list bq3 lq4), .val (.int .i64 iq5), .val (.int .i64 iq6), .val (.int .i64 iq7), .val (.int .i64 iq8), .val (.int .i64 iq9), .val (.list bq10 lq11)])]])
 else
 (bif (iq1 == 7) then
 (K (.val (.agg [.str [97, 100, 118, 97, 110, 99, 101], .int .i64 0, .int .i64 0, .int .i64 36524, .int .i64 (-1), .bool false, .nilfn, .bool false, .bool true])) [bx 140 [(1, some [.val (.int .i64 iq2), .val (.list bq3 lq4), .val (.int .i64 iq5), .val (.int .i64 iq6), .val (.int .i64 iq7), .val (.int .i64 iq8), .val (.int .i64 iq9), .val (.list bq10 lq11)])]])
 else
 (bif (iq1 == 8) then
 (K (.val (.agg [.str [104, 111, 117, 114], .int .i64 0, .int .i64 0, .int .i64 1439, .int .i64 1439, .bool false, .nilfn, .bool false, .bool true])) [bx 140 [(1, some [.val (.int .i64 iq2), .val (.list bq3 lq4), .val (.int .i64 iq5), .val (.int .i64 iq6), .val (.int .i64 iq7), .val (.int .i64 iq8), .val (.int .i64 iq9), .val (.list bq10 lq11)])]])
 else
 (bif (iq1 == 9) then
 (K (.val (.agg [.str [115, 116, 111, 112, 115], .int .i64 0, .int .i64 0, .int .i64 6, .int .i64 (-1), .bool false, .nilfn, .bool false, .bool true])) [bx 140 [(1, some [.val (.int .i64 iq2), .val (.list bq3 lq4), .val (.int .i64 iq5), .val (.int .i64 iq6), .val (.int .i64 iq7), .val (.int .i64 iq8), .val (.int .i64 iq9), .val (.list bq10 lq11)])]])
 else
 (bif (iq1 == 10) then
 (K (.val (.agg [.str [116, 114, 97, 110, 115, 102, 101, 114, 115], .int .i64 0, .int .i64 0, .int .i64 6, .int .i64 (-1), .bool false, .nilfn, .bool false, .bool true])) [bx 140 [(1, some [.val (.int .i64 iq2), .val (.list bq3 lq4), .val (.int .i64 iq5), .val (.int .i64 iq6), .val (.int .i64 iq7), .val (.int .i64 iq8), .val (.int .i64 iq9), .val (.list bq10 lq11)])]])
 else
 (bif (iq1 == 11) then
 (K (.val (.agg [.str [99, 97, 114, 114, 105, 101, 114], .int .i64 0, .int .i64 0, .int .i64 (-1), .int .i64 (-1), .bool false, .fn F_text_Carrier, .bool false, .bool true])) [bx 140 [(1, some [.val (.int .i64 iq2), .val (.list bq3 lq4), .val (.int .i64 iq5), .val (.int .i64 iq6), .val (.int .i64 iq7), .val (.int .i64 iq8), .val (.int .i64 iq9), .val (.list bq10 lq11)])]])
 else
 (bif (iq1 == 12) then
 (K (.val (.agg [.str [110, 117, 109, 98, 101, 114], .int .i64 0, .int .i64 0, .int .i64 9999, .int .i64 9999, .bool false, .nilfn, .bool true, .bool true])) [bx 140 [(1, some [.val (.int .i64 iq2), .val (.list bq3 lq4), .val (.int .i64 iq5), .val (.int .i64 iq6), .val (.int .i64 iq7), .val (.int .i64 iq8), .val (.int .i64 iq9), .val (.list bq10 lq11)])]])
 else
 (bif (iq1 == 13) then
 (K (.val (.agg [.str [118, 105, 97], .int .i64 0, .int .i64 0, .int .i64 (-1), .int .i64 (-1), .bool false, .fn F_text_Airport, .bool false, .bool true])) [bx 140 [(1, some [.val (.int .i64 iq2), .val (.list bq3 lq4), .val (.int .i64 iq5), .val (.int .i64 iq6), .val (.int .i64 iq7), .val (.int .i64 iq8), .val (.int .i64 iq9), .val (.list bq10 lq11)])]])
 else
 (bif (iq1 == 14) then
 (K (.val (.agg [.str [116, 121, 112, 101], .int .i64 0, .int .i64 0, .int .i64 (-1), .int .i64 (-1), .bool false, .fn F_cond_passenger, .bool false, .bool true])) [bx 140 [(1, some [.val (.int .i64 iq2), .val (.list bq3 lq4), .val (.int .i64 iq5), .val (.int .i64 iq6), .val (.int .i64 iq7), .val (.int .i64 iq8), .val (.int .i64 iq9), .val (.list bq10 lq11)])]])
 else
 (K (.val (.agg [.str [], .int .i64 0, .int .i64 0, .int .i64 (-1), .int .i64 (-1), .bool false, .nilfn, .bool false, .bool false])) [bx 140 [(1, some [.val (.int .i64 iq2), .val (.list bq3 lq4), .val (.int .i64 iq5), .val (.int .i64 iq6), .val (.int .i64 iq7), .val (.int .i64 iq8), .val (.int .i64 iq9), .val (.list bq10 lq11)])]])))))))))))))) := by kernel_rfl

end Go.Proofs
