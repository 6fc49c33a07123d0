/- Equations of functions, printed by program. Conditions: none. -/
import Derived.Test.YtmefepdgnkhagaaGreatDoorEv
namespace Go.Proofs
open Go.Am
set_option maxRecDepth 100000
set_option linter.unusedVariables false
/-! airline/airlineref20.Same -/
noncomputable def r20_Same_L1 (lb : Nat) (n : Nat) (k68 : Nat) (akin1 : Int) (aln2 : Bool) (al3 : List (List CV)) (aa4 : Int) (ab5 : Int) (aperfro6 : Int) (aperto7 : Int) (aperday9 : Int) (atexn10 : Bool) (atex11 : List (List CV)) (bkin12 : Int) (bln13 : Bool) (bl14 : List (List CV)) (ba15 : Int) (bb17 : Int) (bperfro18 : Int) (bperto19 : Int) (bperday20 : Int) (btexn21 : Bool) (btex22 : List (List CV)) (i46 : Int) : Option CV :=
  hold (loopC (E0 lb n 0 994) 0 (loopTemps (sub (B F_r20_Same) [1, 1, 0, 1, 0, 0]) ++ []) [] (sub (B F_r20_Same) [1, 1, 0, 1, 0, 0]) (blockK 0 (seqK (E0 lb n 0 997) (sub (B F_r20_Same) [1, 1, 0]) (sub (B F_r20_Same) [1, 1, 1]) (retK Tryz.prog (R F_r20_Same) 0 (outK (tightF Tryz.prog F_r20_Same))))) k68 ⟨fr 68 [(0, .val (.agg [.int .i64 akin1, .list aln2 al3, .int .i64 aa4, .int .i64 ab5, .int .i64 aperfro6, .int .i64 aperto7, .int .i64 aperday9, .list atexn10 atex11])), (1, .val (.agg [.int .i64 bkin12, .list bln13 bl14, .int .i64 ba15, .int .i64 bb17, .int .i64 bperfro18, .int .i64 bperto19, .int .i64 bperday20, .list btexn21 btex22])), (2, .ptr 0 2 0), (3, .ptr 0 3 0), (4, .val (.bool false)), (5, .val (.int .i64 i46))], [bx 68 [(2, some [.val (.int .i64 akin1), .val (.list aln2 al3), .val (.int .i64 aa4), .val (.int .i64 ab5), .val (.int .i64 aperfro6), .val (.int .i64 aperto7), .val (.int .i64 aperday9), .val (.list atexn10 atex11)]), (3, some [.val (.int .i64 bkin12), .val (.list bln13 bl14), .val (.int .i64 ba15), .val (.int .i64 bb17), .val (.int .i64 bperfro18), .val (.int .i64 bperto19), .val (.int .i64 bperday20), .val (.list btexn21 btex22)])]], KK⟩)

noncomputable def r20_Same_J2 (lb : Nat) (n : Nat) (akin1 : Int) (aln2 : Bool) (al3 : List (List CV)) (aa4 : Int) (ab5 : Int) (aperfro6 : Int) (aperto7 : Int) (aperday9 : Int) (atexn10 : Bool) (atex11 : List (List CV)) (bkin12 : Int) (bln13 : Bool) (bl14 : List (List CV)) (ba15 : Int) (bb17 : Int) (bperfro18 : Int) (bperto19 : Int) (bperday20 : Int) (btexn21 : Bool) (btex22 : List (List CV)) (i89 : Int) : Option CV :=
  hold (E0 lb n 0 997 (sub (B F_r20_Same) [1, 1, 1]) (retK Tryz.prog (R F_r20_Same) 0 (outK (tightF Tryz.prog F_r20_Same))) ⟨fr 68 [(0, .val (.agg [.int .i64 akin1, .list aln2 al3, .int .i64 aa4, .int .i64 ab5, .int .i64 aperfro6, .int .i64 aperto7, .int .i64 aperday9, .list atexn10 atex11])), (1, .val (.agg [.int .i64 bkin12, .list bln13 bl14, .int .i64 ba15, .int .i64 bb17, .int .i64 bperfro18, .int .i64 bperto19, .int .i64 bperday20, .list btexn21 btex22])), (2, .ptr 0 2 0), (3, .ptr 0 3 0), (4, .val (.bool false)), (5, .val (.int .i64 i89))], [bx 68 [(2, some [.val (.int .i64 akin1), .val (.list aln2 al3), .val (.int .i64 aa4), .val (.int .i64 ab5), .val (.int .i64 aperfro6), .val (.int .i64 aperto7), .val (.int .i64 aperday9), .val (.list atexn10 atex11)]), (3, some [.val (.int .i64 bkin12), .val (.list bln13 bl14), .val (.int .i64 ba15), .val (.int .i64 bb17), .val (.int .i64 bperfro18), .val (.int .i64 bperto19), .val (.int .i64 bperday20), .val (.list btexn21 btex22)])]], KK⟩)

theorem r20_Same_J2_eq (lb : Nat) (n : Nat) (akin1 : Int) (aln2 : Bool) (al3 : List (List CV)) (aa4 : Int) (ab5 : Int) (aperfro6 : Int) (aperto7 : Int) (aperday9 : Int) (atexn10 : Bool) (atex11 : List (List CV)) (bkin12 : Int) (bln13 : Bool) (bl14 : List (List CV)) (ba15 : Int) (bb17 : Int) (bperfro18 : Int) (bperto19 : Int) (bperday20 : Int) (btexn21 : Bool) (btex22 : List (List CV)) (i89 : Int) :
  r20_Same_J2 lb n akin1 aln2 al3 aa4 ab5 aperfro6 aperto7 aperday9 atexn10 atex11 bkin12 bln13 bl14 ba15 bb17 bperfro18 bperto19 bperday20 btexn21 btex22 i89 =
 some (.bool true) := (hold_eq _).trans (by kernel_rfl)

theorem r20_Same_L1_succ (lb : Nat) (n k68 : Nat) (akin1 : Int) (aln2 : Bool) (al3 : List (List CV)) (aa4 : Int) (ab5 : Int) (aperfro6 : Int) (aperto7 : Int) (aperday9 : Int) (atexn10 : Bool) (atex11 : List (List CV)) (bkin12 : Int) (bln13 : Bool) (bl14 : List (List CV)) (ba15 : Int) (bb17 : Int) (bperfro18 : Int) (bperto19 : Int) (bperday20 : Int) (btexn21 : Bool) (btex22 : List (List CV)) (i46 : Int) :
  r20_Same_L1 lb n (k68 + 1) akin1 aln2 al3 aa4 ab5 aperfro6 aperto7 aperday9 atexn10 atex11 bkin12 bln13 bl14 ba15 bb17 bperfro18 bperto19 bperday20 btexn21 btex22 i46 =
 bif (decide (i46 < (al3.length : Int))) then
 (optO (atL al3 i46) fun c69 =>
 chkO (c69.length == 8) (
 optO (c69[0]?) fun x70 =>
 optO (c69[1]?) fun x71 =>
 optO (c69[2]?) fun x72 =>
 optO (c69[3]?) fun x73 =>
 optO (c69[4]?) fun x74 =>
 optO (c69[5]?) fun x75 =>
 optO (c69[6]?) fun x76 =>
 optO (c69[7]?) fun x77 =>
 optO (atL bl14 i46) fun c78 =>
 chkO (c78.length == 8) (
 optO (c78[0]?) fun x79 =>
 optO (c78[1]?) fun x80 =>
 optO (c78[2]?) fun x81 =>
 optO (c78[3]?) fun x82 =>
 optO (c78[4]?) fun x83 =>
 optO (c78[5]?) fun x84 =>
 optO (c78[6]?) fun x85 =>
 optO (c78[7]?) fun x86 =>
 optO (C lb n F_r20_Same [.agg [x70, x71, x72, x73, x74, x75, x76, x77], .agg [x79, x80, x81, x82, x83, x84, x85, x86]]) fun r87 =>
 optO (CV.asB r87) fun b88 =>
 bif (!b88) then
 (some (.bool false))
 else
 (r20_Same_L1 lb n k68 akin1 aln2 al3 aa4 ab5 aperfro6 aperto7 aperday9 atexn10 atex11 bkin12 bln13 bl14 ba15 bb17 bperfro18 bperto19 bperday20 btexn21 btex22 (IntKind.wrap .i64 (i46 + 1))))))
 else
 (r20_Same_J2 lb n akin1 aln2 al3 aa4 ab5 aperfro6 aperto7 aperday9 atexn10 atex11 bkin12 bln13 bl14 ba15 bb17 bperfro18 bperto19 bperday20 btexn21 btex22 i46) := (hold_eq _).trans (by kernel_rfl)

theorem r20_Same_L1_zero (lb : Nat) (n : Nat) (akin1 : Int) (aln2 : Bool) (al3 : List (List CV)) (aa4 : Int) (ab5 : Int) (aperfro6 : Int) (aperto7 : Int) (aperday9 : Int) (atexn10 : Bool) (atex11 : List (List CV)) (bkin12 : Int) (bln13 : Bool) (bl14 : List (List CV)) (ba15 : Int) (bb17 : Int) (bperfro18 : Int) (bperto19 : Int) (bperday20 : Int) (btexn21 : Bool) (btex22 : List (List CV)) (i46 : Int) :
  r20_Same_L1 lb n 0 akin1 aln2 al3 aa4 ab5 aperfro6 aperto7 aperday9 atexn10 atex11 bkin12 bln13 bl14 ba15 bb17 bperfro18 bperto19 bperday20 btexn21 btex22 i46 =
 none := (hold_eq _).trans (by kernel_rfl)

theorem r20_Same_eq (lb : Nat) (n : Nat) (akin1 : Int) (aln2 : Bool) (al3 : List (List CV)) (aa4 : Int) (ab5 : Int) (aperfro6 : Int) (aperto7 : Int) (aperday9 : Int) (atexn10 : Bool) (atex11 : List (List CV)) (bkin12 : Int) (bln13 : Bool) (bl14 : List (List CV)) (ba15 : Int) (bb17 : Int) (bperfro18 : Int) (bperto19 : Int) (bperday20 : Int) (btexn21 : Bool) (btex22 : List (List CV)) :
  top lb n F_r20_Same [.agg [.int .i64 akin1, .list aln2 al3, .int .i64 aa4, .int .i64 ab5, .int .i64 aperfro6, .int .i64 aperto7, .int .i64 aperday9, .list atexn10 atex11], .agg [.int .i64 bkin12, .list bln13 bl14, .int .i64 ba15, .int .i64 bb17, .int .i64 bperfro18, .int .i64 bperto19, .int .i64 bperday20, .list btexn21 btex22]] =
 bif (akin1 != bkin12) then
 (some (.bool false))
 else
 (bif (aa4 != ba15) then
 (some (.bool false))
 else
 (bif (ab5 != bb17) then
 (some (.bool false))
 else
 (bif (!((aperfro6 == bperfro18) && ((aperto7 == bperto19) && ((aperday9 == bperday20) && true)))) then
 (some (.bool false))
 else
 (bif ((al3.length : Int) != (bl14.length : Int)) then
 (some (.bool false))
 else
 (optO (C lb n F_r01_Same [.list atexn10 atex11, .list btexn21 btex22]) fun r23 =>
 optO (CV.asB r23) fun b24 =>
 bif (!b24) then
 (some (.bool false))
 else
 (r20_Same_L1 lb n n akin1 aln2 al3 aa4 ab5 aperfro6 aperto7 aperday9 atexn10 atex11 bkin12 bln13 bl14 ba15 bb17 bperfro18 bperto19 bperday20 btexn21 btex22 0)))))) := by kernel_rfl

end Go.Proofs
