/- Equations of functions, printed by program. Conditions: none. -/
import Derived.Test.YtmandbflbfkagaaGreatDoorEv
namespace Go.Proofs
open Go.Am
set_option maxRecDepth 100000
set_option linter.unusedVariables false
/-! airline/airlineref20.Same -/
noncomputable def r20_Same_L1 (lb : Nat) (n : Nat) (k68 : Nat) (akin1 : Int) (aln2 : Bool) (al3 : List (List CV)) (aa4 : Int) (ab5 : Int) (aperfro6 : Int) (aperto7 : Int) (aperday9 : Int) (atexn10 : Bool) (atex11 : List (List CV)) (bkin12 : Int) (bln13 : Bool) (bl14 : List (List CV)) (ba15 : Int) (bb17 : Int) (bperfro18 : Int) (bperto19 : Int) (bperday20 : Int) (btexn21 : Bool) (btex22 : List (List CV)) (i46 : Int) : Option CV :=
  hold (loopC (E0 lb n 0 994) 0 (loopTemps (sub (B F_r20_Same) [1, 1, 0, 1, 0, 0]) ++ []) [] (sub (B F_r20_Same) [1, 1, 0, 1, 0, 0]) (blockK 0 (seqK (E0 lb n 0 997) (sub (B F_r20_Same) [1, 1, 0]) (sub (B F_r20_Same) [1, 1, 1]) (retK Tryz.prog (R F_r20_Same) 0 (outK (tightF Tryz.prog F_r20_Same))))) k68 ⟨fr 68 [(0, .val (.agg [.int .i64 akin1, .list aln2 al3, .int .i64 aa4, .int .i64 ab5, .int .i64 aperfro6, .int .i64 aperto7, .int .i64 aperday9, .list atexn10 atex11])), (1, .val (.agg [.int .i64 bkin12, .list bln13 bl14, .int .i64 ba15, .int .i64 bb17, .int .i64 bperfro18, .int .i64 bperto19, .int .i64 bperday20, .list btexn21 btex22])), (2, .ptr 0 2 0), (3, .ptr 0 3 0), (4, .val (.bool false)), (5, .val (.int .i64 i46))], [bx 68 [(2, some [.val (.int .i64 akin1), .val (.list aln2 al3), .val (.int .i64 aa4), .val (.int .i64 ab5), .val (.int .i64 aperfro6), .val (.int .i64 aperto7), .val (.int .i64 aperday9), .val (.list atexn10 atex11)]), (3, some [.val (.int .i64 bkin12), .val (.list bln13 bl14), .val (.int .i64 ba15), .val (.int .i64 bb17), .val (.int .i64 bperfro18), .val (.int .i64 bperto19), .val (.int .i64 bperday20), .val (.list btexn21 btex22)])]], KK⟩)

noncomputable def r20_Same_J2 (lb : Nat) (n : Nat) (akin1 : Int) (aln2 : Bool) (al3 : List (List CV)) (aa4 : Int) (ab5 : Int) (aperfro6 : Int) (aperto7 : Int) (aperday9 : Int) (atexn10 : Bool) (atex11 : List (List CV)) (bkin12 : Int) (bln13 : Bool) (bl14 : List (List CV)) (ba15 : Int) (bb17 : Int) (bperfro18 : Int) (bperto19 : Int) (bperday20 : Int) (btexn21 : Bool) (btex22 : List (List CV)) (i89 : Int) : Option CV :=
  hold (E0 lb n 0 997 (sub (B F_r20_Same) [1, 1, 1]) (retK Tryz.prog (R F_r20_Same) 0 (outK (tightF Tryz.prog F_r20_Same))) ⟨fr 68 [(0, .val (.agg [.int .i64 akin1, .list aln2 al3, .int .i64 aa4, .int .i64 ab5, .int .i64 aperfro6, .int .i64 aperto7, .int .i64 aperday9, .list atexn10 atex11])), (1, .val (.agg [.int .i64 bkin12, .list bln13 bl14, .int .i64 ba15, .int .i64 bb17, .int .i64 bperfro18, .int .i64 bperto19, .int .i64 bperday20, .list btexn21 btex22])), (2, .ptr 0 2 0), (3, .ptr 0 3 0), (4, .val (.bool false)), (5, .val (.int .i64 i89))], [bx 68 [(2, some [.val (.int .i64 akin1), .val (.list aln2 al3), .val (.int .i64 aa4), .val (.int .i64 ab5), .val (.int .i64 aperfro6), .val (.int .i64 aperto7), .val (.int .i64 aperday9), .val (.list atexn10 atex11)]), (3, some [.val (.int .i64 bkin12), .val (.list bln13 bl14), .val (.int .i64 ba15), .val (.int .i64 bb17), .val (.int .i64 bperfro18), .val (.int .i64 bperto19), .val (.int .i64 bperday20), .val (.list btexn21 btex22)])]], KK⟩)

theorem r20_Same_J2_eq (lb : Nat) (n : Nat) (akin1 : Int) (aln2 : Bool) (al3 : List (List CV)) (aa4 : Int) (ab5 : Int) (aperfro6 : Int) (aperto7 : Int) (aperday9 : Int) (atexn10 : Bool) (atex11 : List (List CV)) (bkin12 : Int) (bln13 : Bool) (bl14 : List (List CV)) (ba15 : Int) (bb17 : Int) (bperfro18 : Int) (bperto19 : Int) (bperday20 : Int) (btexn21 : Bool) (btex22 : List (List CV)) (i89 : Int) :
  r20_Same_J2 lb n akin1 aln2 al3 aa4 ab5 aperfro6 aperto7 aperday9 atexn10 atex11 bkin12 bln13 bl14 ba15 bb17 bperfro18 bperto19 bperday20 btexn21 btex22 i89 =
 some (.bool true) := (hold_eq _).trans (by kernel_rfl)

theorem r20_Same_L1_succ (lb : Nat) (n k68 : Nat) (akin1 : Int) (aln2 : Bool) (al3 : List (List CV)) (aa4 : Int) (ab5 : Int) (aperfro6 : Int) (aperto7 : Int) (aperday9 : Int) (atexn10 : Bool) (atex11 : List (List CV)) (bkin12 : Int) (bln13 : Bool) (bl14 : List (List CV)) (ba15 : Int) (bb17 : Int) (bperfro18 : Int) (bperto19 : Int) (bperday20 : Int) (btexn21 : Bool) (btex22 : List (List CV)) (i46 : Int) :
  r20_Same_L1 lb n (k68 + 1) akin1 aln2 al3 aa4 ab5 aperfro6 aperto7 aperday9 atexn10 atex11 bkin12 bln13 bl14 ba15 bb17 bperfro18 bperto19 bperday20 btexn21 btex22 i46 =
 bif (decide (i46 < (al3.length : Int))) then
 (optO (atL al3 i46) fun c69 =>
 chkO (c69.length == 8) (
 optO (c69[0]?) fun x70 =>
 optO (c69[1]?) fun x71 =>
 optO (c69[2]?) fun x72 =>
 optO (c69[3]?) fun x73 =>
 optO (c69[4]?) fun x74 =>
 optO (c69[5]?) fun x75 =>
 optO (c69[6]?) fun x76 =>
 optO (c69[7]?) fun x77 =>
 optO (atL bl14 i46) fun c78 =>
 chkO (c78.length == 8) (
 optO (c78[0]?) fun x79 =>
 optO (c78[1]?) fun x80 =>
 optO (c78[2]?) fun x81 =>
 optO (c78[3]?) fun x82 =>
 optO (c78[4]?) fun x83 =>
 optO (c78[5]?) fun x84 =>
 optO (c78[6]?) fun x85 =>
 optO (c78[7]?) fun x86 =>
 optO (C lb n F_r20_Same [.agg [x70, x71, x72, x73, x74, x75, x76, x77], .agg [x79, x80, x81, x82, x83, x84, x85, x86]]) fun r87 =>
 optO (CV.asB r87) fun b88 =>
 bif (!b88) then
 (some (.bool false))
 else
 (r20_Same_L1 lb n k68 akin1 aln2 al3 aa4 ab5 aperfro6 aperto7 aperday9 atexn10 atex11 bkin12 bln13 bl14 ba15 bb17 bperfro18 bperto19 bperday20 btexn21 btex22 (IntKind.wrap .i64 (i46 + 1))))))
 else
 (r20_Same_J2 lb n akin1 aln2 al3 aa4 ab5 aperfro6 aperto7 aperday9 atexn10 atex11 bkin12 bln13 bl14 ba15 bb17 bperfro18 bperto19 bperday20 btexn21 btex22 i46) := (hold_eq _).trans (by kernel_rfl)

theorem r20_Same_L1_zero (lb : Nat) (n : Nat) (akin1 : Int) (aln2 : Bool) (al3 : List (List CV)) (aa4 : Int) (ab5 : Int) (aperfro6 : Int) (aperto7 : Int) (aperday9 : Int) (atexn10 : Bool) (atex11 : List (List CV)) (bkin12 : Int) (bln13 : Bool) (bl14 : List (List CV)) (ba15 : Int) (bb17 : Int) (bperfro18 : Int) (bperto19 : Int) (bperday20 : Int) (btexn21 : Bool) (btex22 : List (List CV)) (i46 : Int) :
  r20_Same_L1 lb n 0 akin1 aln2 al3 aa4 ab5 aperfro6 aperto7 aperday9 atexn10 atex11 bkin12 bln13 bl14 ba15 bb17 bperfro18 bperto19 bperday20 btexn21 btex22 i46 =
 none := (hold_eq _).trans (by kernel_rfl)

theorem r20_Same_eq (lb : Nat) (n : Nat) (akin1 : Int) (aln2 : Bool) (al3 : List (List CV)) (aa4 : Int) (ab5 : Int) (aperfro6 : Int) (aperto7 : Int) (aperday9 : Int) (atexn10 : Bool) (atex11 : List (List CV)) (bkin12 : Int) (bln13 : Bool) (bl14 : List (List CV)) (ba15 : Int) (bb17 : Int) (bperfro18 : Int) (bperto19 : Int) (bperday20 : Int) (btexn21 : Bool) (btex22 : List (List CV)) :
  top lb n F_r20_Same [.agg [.int .i64 akin1, .list aln2 al3, .int .i64 aa4, .int .i64 ab5, .int .i64 aperfro6, .int .i64 aperto7, .int .i64 aperday9, .list atexn10 atex11], .agg [.int .i64 bkin12, .list bln13 bl14, .int .i64 ba15, .int .i64 bb17, .int .i64 bperfro18, .int .i64 bperto19, .int .i64 bperday20, .list btexn21 btex22]] =
 bif (akin1 != bkin12) then
 (some (.bool false))
 else
 (bif (aa4 != ba15) then
 (some (.bool false))
 else
 (bif (ab5 != bb17) then
 (some (.bool false))
 else
 (bif (!((aperfro6 == bperfro18) && ((aperto7 == bperto19) && ((aperday9 == bperday20) && true)))) then
 (some (.bool false))
 else
 (bif ((al3.length : Int) != (bl14.length : Int)) then
 (some (.bool false))
 else
 (optO (C lb n F_r01_Same [.list atexn10 atex11, .list btexn21 btex22]) fun r23 =>
 optO (CV.asB r23) fun b24 =>
 bif (!b24) then
 (some (.bool false))
 else
 (r20_Same_L1 lb n n akin1 aln2 al3 aa4 ab5 aperfro6 aperto7 aperday9 atexn10 atex11 bkin12 bln13 bl14 ba15 bb17 bperfro18 bperto19 bperday20 btexn21 btex22 0)))))) := by kernel_rfl

/-! airline/cond.Same -/
theorem cond_Same_eq (lb : Nat) (n : Nat) (akin1 : Int) (aln2 : Bool) (al3 : List (List CV)) (aa4 : Int) (ab5 : Int) (aperfro6 : Int) (aperto7 : Int) (aperday9 : Int) (atexn10 : Bool) (atex11 : List (List CV)) (bkin12 : Int) (bln13 : Bool) (bl14 : List (List CV)) (ba15 : Int) (bb17 : Int) (bperfro18 : Int) (bperto19 : Int) (bperday20 : Int) (btexn21 : Bool) (btex22 : List (List CV)) :
  top lb n F_cond_Same [.agg [.int .i64 akin1, .list aln2 al3, .int .i64 aa4, .int .i64 ab5, .int .i64 aperfro6, .int .i64 aperto7, .int .i64 aperday9, .list atexn10 atex11], .agg [.int .i64 bkin12, .list bln13 bl14, .int .i64 ba15, .int .i64 bb17, .int .i64 bperfro18, .int .i64 bperto19, .int .i64 bperday20, .list btexn21 btex22]] =
 bif (akin1 == bkin12) then
 (bif (aa4 == ba15) then
 (bif (ab5 == bb17) then
 (bif ((aperfro6 == bperfro18) && ((aperto7 == bperto19) && ((aperday9 == bperday20) && true))) then
 (optO (C lb n F_slices_Equal_string [.list atexn10 atex11, .list btexn21 btex22]) fun r23 =>
 optO (CV.asB r23) fun b24 =>
 bif b24 then
 (optO (C lb n F_slices_EqualFunc_api_Cond_api_Cond_api_Cond [.list aln2 al3, .list bln13 bl14, .fn F_cond_Same]) fun r25 =>
 some (r25))
 else
 (some (.bool false)))
 else
 (some (.bool false)))
 else
 (some (.bool false)))
 else
 (some (.bool false)))
 else
 (some (.bool false)) := by kernel_rfl

/-! slices.Equal[[]string,string] -/
noncomputable def slices_Equal_string_L1 (lb : Nat) (n : Nat) (k20 : Nat) (an1 : Bool) (a2 : List (List CV)) (bn3 : Bool) (b4 : List (List CV)) (i12 : Int) : Option CV :=
  hold (loopC (E0 lb n 0 994) 0 (loopTemps (sub (B F_slices_Equal_string) [1, 1, 0, 1, 0, 0]) ++ [5]) [] (sub (B F_slices_Equal_string) [1, 1, 0, 1, 0, 0]) (blockK 0 (seqK (E0 lb n 0 997) (sub (B F_slices_Equal_string) [1, 1, 0]) (sub (B F_slices_Equal_string) [1, 1, 1]) (retK Tryz.prog (R F_slices_Equal_string) 0 (outK (tightF Tryz.prog F_slices_Equal_string))))) k20 ⟨fr 26 [(0, .val (.list an1 a2)), (1, .val (.list bn3 b4)), (4, .val (.bool false)), (11, .val (.list an1 a2)), (12, .val (.int .i64 (a2.length : Int))), (13, .val (.int .i64 i12))], [bx 26 []], KK⟩)

noncomputable def slices_Equal_string_J2 (lb : Nat) (n : Nat) (an1 : Bool) (a2 : List (List CV)) (bn3 : Bool) (b4 : List (List CV)) : Option CV :=
  hold (E0 lb n 0 997 (sub (B F_slices_Equal_string) [1, 1, 1]) (retK Tryz.prog (R F_slices_Equal_string) 0 (outK (tightF Tryz.prog F_slices_Equal_string))) ⟨fr 26 [(0, .val (.list an1 a2)), (1, .val (.list bn3 b4)), (4, .val (.bool false))], [bx 26 []], KK⟩)

theorem slices_Equal_string_J2_eq (lb : Nat) (n : Nat) (an1 : Bool) (a2 : List (List CV)) (bn3 : Bool) (b4 : List (List CV)) :
  slices_Equal_string_J2 lb n an1 a2 bn3 b4 =
 some (.bool true) := (hold_eq _).trans (by kernel_rfl)

theorem slices_Equal_string_L1_succ (lb : Nat) (n k20 : Nat) (an1 : Bool) (a2 : List (List CV)) (bn3 : Bool) (b4 : List (List CV)) (i12 : Int) :
  slices_Equal_string_L1 lb n (k20 + 1) an1 a2 bn3 b4 i12 =
 bif (decide (i12 < (a2.length : Int))) then
 (optO (atL a2 i12) fun c21 =>
 chkO (c21.length == 1) (
 optO (c21[0]?) fun x22 =>
 optO (atL b4 i12) fun c23 =>
 chkO (c23.length == 1) (
 optO (c23[0]?) fun x24 =>
 optO (CV.asS x22) fun s25 =>
 optO (CV.asS x24) fun s26 =>
 bif (!(s25 == s26)) then
 (some (.bool false))
 else
 (slices_Equal_string_L1 lb n k20 an1 a2 bn3 b4 (IntKind.wrap .i64 (i12 + 1))))))
 else
 (slices_Equal_string_J2 lb n an1 a2 bn3 b4 ) := (hold_eq _).trans (by kernel_rfl)

theorem slices_Equal_string_L1_zero (lb : Nat) (n : Nat) (an1 : Bool) (a2 : List (List CV)) (bn3 : Bool) (b4 : List (List CV)) (i12 : Int) :
  slices_Equal_string_L1 lb n 0 an1 a2 bn3 b4 i12 =
 none := (hold_eq _).trans (by kernel_rfl)

theorem slices_Equal_string_eq (lb : Nat) (n : Nat) (an1 : Bool) (a2 : List (List CV)) (bn3 : Bool) (b4 : List (List CV)) :
  top lb n F_slices_Equal_string [.list an1 a2, .list bn3 b4] =
 bif ((a2.length : Int) != (b4.length : Int)) then
 (some (.bool false))
 else
 (slices_Equal_string_L1 lb n n an1 a2 bn3 b4 0) := by kernel_rfl

/-! slices.EqualFunc[[]airline/api.Cond,[]airline/api.Cond,airline/api.Cond,airline/api.Cond] -/
noncomputable def slices_EqualFunc_api_Cond_api_Cond_api_Cond_cond_Same_L1 (lb : Nat) (n : Nat) (k49 : Nat) (an1 : Bool) (a2 : List (List CV)) (bn3 : Bool) (b4 : List (List CV)) (i27 : Int) : Option CV :=
  hold (loopC (E0 lb n 0 994) 0 (loopTemps (sub (B F_slices_EqualFunc_api_Cond_api_Cond_api_Cond) [1, 1, 0, 1, 0, 0]) ++ [7]) [8, 9] (sub (B F_slices_EqualFunc_api_Cond_api_Cond_api_Cond) [1, 1, 0, 1, 0, 0]) (blockK 0 (seqK (E0 lb n 0 997) (sub (B F_slices_EqualFunc_api_Cond_api_Cond_api_Cond) [1, 1, 0]) (sub (B F_slices_EqualFunc_api_Cond_api_Cond_api_Cond) [1, 1, 1]) (retK Tryz.prog (R F_slices_EqualFunc_api_Cond_api_Cond_api_Cond) 0 (outK (tightF Tryz.prog F_slices_EqualFunc_api_Cond_api_Cond_api_Cond))))) k49 ⟨fr 32 [(0, .val (.list an1 a2)), (1, .val (.list bn3 b4)), (2, .val (.fn F_cond_Same)), (6, .val (.bool false)), (15, .val (.list an1 a2)), (16, .val (.int .i64 (a2.length : Int))), (17, .val (.int .i64 i27))], [bx 32 []], KK⟩)

noncomputable def slices_EqualFunc_api_Cond_api_Cond_api_Cond_cond_Same_J2 (lb : Nat) (n : Nat) (an1 : Bool) (a2 : List (List CV)) (bn3 : Bool) (b4 : List (List CV)) : Option CV :=
  hold (E0 lb n 0 997 (sub (B F_slices_EqualFunc_api_Cond_api_Cond_api_Cond) [1, 1, 1]) (retK Tryz.prog (R F_slices_EqualFunc_api_Cond_api_Cond_api_Cond) 0 (outK (tightF Tryz.prog F_slices_EqualFunc_api_Cond_api_Cond_api_Cond))) ⟨fr 32 [(0, .val (.list an1 a2)), (1, .val (.list bn3 b4)), (2, .val (.fn F_cond_Same)), (6, .val (.bool false))], [bx 32 []], KK⟩)

theorem slices_EqualFunc_api_Cond_api_Cond_api_Cond_cond_Same_J2_eq (lb : Nat) (n : Nat) (an1 : Bool) (a2 : List (List CV)) (bn3 : Bool) (b4 : List (List CV)) :
  slices_EqualFunc_api_Cond_api_Cond_api_Cond_cond_Same_J2 lb n an1 a2 bn3 b4 =
 some (.bool true) := (hold_eq _).trans (by kernel_rfl)

theorem slices_EqualFunc_api_Cond_api_Cond_api_Cond_cond_Same_L1_succ (lb : Nat) (n k49 : Nat) (an1 : Bool) (a2 : List (List CV)) (bn3 : Bool) (b4 : List (List CV)) (i27 : Int) :
  slices_EqualFunc_api_Cond_api_Cond_api_Cond_cond_Same_L1 lb n (k49 + 1) an1 a2 bn3 b4 i27 =
 bif (decide (i27 < (a2.length : Int))) then
 (optO (atL a2 i27) fun c50 =>
 chkO (c50.length == 8) (
 optO (c50[0]?) fun x51 =>
 optO (c50[1]?) fun x52 =>
 optO (c50[2]?) fun x53 =>
 optO (c50[3]?) fun x54 =>
 optO (c50[4]?) fun x55 =>
 optO (c50[5]?) fun x56 =>
 optO (c50[6]?) fun x57 =>
 optO (c50[7]?) fun x58 =>
 optO (atL b4 i27) fun c59 =>
 chkO (c59.length == 8) (
 optO (c59[0]?) fun x60 =>
 optO (c59[1]?) fun x61 =>
 optO (c59[2]?) fun x62 =>
 optO (c59[3]?) fun x63 =>
 optO (c59[4]?) fun x65 =>
 optO (c59[5]?) fun x66 =>
 optO (c59[6]?) fun x67 =>
 optO (c59[7]?) fun x68 =>
 optO (C lb n F_cond_Same [.agg [x51, x52, x53, x54, x55, x56, x57, x58], .agg [x60, x61, x62, x63, x65, x66, x67, x68]]) fun r69 =>
 optO (CV.asB r69) fun b70 =>
 bif (!b70) then
 (some (.bool false))
 else
 (slices_EqualFunc_api_Cond_api_Cond_api_Cond_cond_Same_L1 lb n k49 an1 a2 bn3 b4 (IntKind.wrap .i64 (i27 + 1))))))
 else
 (slices_EqualFunc_api_Cond_api_Cond_api_Cond_cond_Same_J2 lb n an1 a2 bn3 b4 ) := (hold_eq _).trans (by kernel_rfl)

theorem slices_EqualFunc_api_Cond_api_Cond_api_Cond_cond_Same_L1_zero (lb : Nat) (n : Nat) (an1 : Bool) (a2 : List (List CV)) (bn3 : Bool) (b4 : List (List CV)) (i27 : Int) :
  slices_EqualFunc_api_Cond_api_Cond_api_Cond_cond_Same_L1 lb n 0 an1 a2 bn3 b4 i27 =
 none := (hold_eq _).trans (by kernel_rfl)

theorem slices_EqualFunc_api_Cond_api_Cond_api_Cond_cond_Same_eq (lb : Nat) (n : Nat) (an1 : Bool) (a2 : List (List CV)) (bn3 : Bool) (b4 : List (List CV)) :
  top lb n F_slices_EqualFunc_api_Cond_api_Cond_api_Cond [.list an1 a2, .list bn3 b4, .fn F_cond_Same] =
 bif ((a2.length : Int) != (b4.length : Int)) then
 (some (.bool false))
 else
 (slices_EqualFunc_api_Cond_api_Cond_api_Cond_cond_Same_L1 lb n n an1 a2 bn3 b4 0) := by kernel_rfl

/-! airline/airlineref17.Same -/
noncomputable def r17_Same_L1 (lb : Nat) (n : Nat) (k20 : Nat) (an1 : Bool) (a2 : List (List CV)) (bn3 : Bool) (b4 : List (List CV)) (i12 : Int) : Option CV :=
  hold (loopC (E0 lb n 0 994) 0 (loopTemps (sub (B F_r17_Same) [1, 1, 0, 1, 0, 0]) ++ []) [] (sub (B F_r17_Same) [1, 1, 0, 1, 0, 0]) (blockK 0 (seqK (E0 lb n 0 997) (sub (B F_r17_Same) [1, 1, 0]) (sub (B F_r17_Same) [1, 1, 1]) (retK Tryz.prog (R F_r17_Same) 0 (outK (tightF Tryz.prog F_r17_Same))))) k20 ⟨fr 26 [(0, .val (.list an1 a2)), (1, .val (.list bn3 b4)), (4, .val (.bool false)), (5, .val (.int .i64 i12))], [bx 26 []], KK⟩)

noncomputable def r17_Same_J2 (lb : Nat) (n : Nat) (an1 : Bool) (a2 : List (List CV)) (bn3 : Bool) (b4 : List (List CV)) (i27 : Int) : Option CV :=
  hold (E0 lb n 0 997 (sub (B F_r17_Same) [1, 1, 1]) (retK Tryz.prog (R F_r17_Same) 0 (outK (tightF Tryz.prog F_r17_Same))) ⟨fr 26 [(0, .val (.list an1 a2)), (1, .val (.list bn3 b4)), (4, .val (.bool false)), (5, .val (.int .i64 i27))], [bx 26 []], KK⟩)

theorem r17_Same_J2_eq (lb : Nat) (n : Nat) (an1 : Bool) (a2 : List (List CV)) (bn3 : Bool) (b4 : List (List CV)) (i27 : Int) :
  r17_Same_J2 lb n an1 a2 bn3 b4 i27 =
 some (.bool true) := (hold_eq _).trans (by kernel_rfl)

theorem r17_Same_L1_succ (lb : Nat) (n k20 : Nat) (an1 : Bool) (a2 : List (List CV)) (bn3 : Bool) (b4 : List (List CV)) (i12 : Int) :
  r17_Same_L1 lb n (k20 + 1) an1 a2 bn3 b4 i12 =
 bif (decide (i12 < (a2.length : Int))) then
 (optO (atL a2 i12) fun c21 =>
 chkO (c21.length == 1) (
 optO (c21[0]?) fun x22 =>
 optO (atL b4 i12) fun c23 =>
 chkO (c23.length == 1) (
 optO (c23[0]?) fun x24 =>
 optO (CV.asI .i64 x22) fun i25 =>
 optO (CV.asI .i64 x24) fun i26 =>
 bif (i25 != i26) then
 (some (.bool false))
 else
 (r17_Same_L1 lb n k20 an1 a2 bn3 b4 (IntKind.wrap .i64 (i12 + 1))))))
 else
 (r17_Same_J2 lb n an1 a2 bn3 b4 i12) := (hold_eq _).trans (by kernel_rfl)

theorem r17_Same_L1_zero (lb : Nat) (n : Nat) (an1 : Bool) (a2 : List (List CV)) (bn3 : Bool) (b4 : List (List CV)) (i12 : Int) :
  r17_Same_L1 lb n 0 an1 a2 bn3 b4 i12 =
 none := (hold_eq _).trans (by kernel_rfl)

theorem r17_Same_eq (lb : Nat) (n : Nat) (an1 : Bool) (a2 : List (List CV)) (bn3 : Bool) (b4 : List (List CV)) :
  top lb n F_r17_Same [.list an1 a2, .list bn3 b4] =
 bif ((a2.length : Int) != (b4.length : Int)) then
 (some (.bool false))
 else
 (r17_Same_L1 lb n n an1 a2 bn3 b4 0) := by kernel_rfl

end Go.Proofs
