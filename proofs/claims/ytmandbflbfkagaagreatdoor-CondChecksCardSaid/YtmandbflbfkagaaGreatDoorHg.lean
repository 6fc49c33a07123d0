/- Equations of functions, printed by program. Conditions: none. -/
import Derived.Test.YtmandbflbfkagaaGreatDoorEv
namespace Go.Proofs
open Go.Am
set_option maxRecDepth 100000
set_option linter.unusedVariables false
/-! airline/airlinelaw20.CondChecks -/
theorem l20_CondChecks_eq (lb : Nat) (n : Nat) (akin1 : Int) (aln2 : Bool) (al3 : List (List CV)) (aa4 : Int) (ab5 : Int) (aperfro6 : Int) (aperto7 : Int) (aperday9 : Int) (atexn10 : Bool) (atex11 : List (List CV)) (bkin12 : Int) (bln13 : Bool) (bl14 : List (List CV)) (ba15 : Int) (bb17 : Int) (bperfro18 : Int) (bperto19 : Int) (bperday20 : Int) (btexn21 : Bool) (btex22 : List (List CV)) :
  top lb n F_l20_CondChecks [.agg [.int .i64 akin1, .list aln2 al3, .int .i64 aa4, .int .i64 ab5, .int .i64 aperfro6, .int .i64 aperto7, .int .i64 aperday9, .list atexn10 atex11], .agg [.int .i64 bkin12, .list bln13 bl14, .int .i64 ba15, .int .i64 bb17, .int .i64 bperfro18, .int .i64 bperto19, .int .i64 bperday20, .list btexn21 btex22]] =
 optO (C lb n F_l20_large [.agg [.int .i64 akin1, .list aln2 al3, .int .i64 aa4, .int .i64 ab5, .int .i64 aperfro6, .int .i64 aperto7, .int .i64 aperday9, .list atexn10 atex11]]) fun r23 =>
 optO (CV.asB r23) fun b24 =>
 bif b24 then
 (optO (C lb n F_l20_knows []) fun r25 =>
 some (r25))
 else
 (optO (C lb n F_l20_large [.agg [.int .i64 bkin12, .list bln13 bl14, .int .i64 ba15, .int .i64 bb17, .int .i64 bperfro18, .int .i64 bperto19, .int .i64 bperday20, .list btexn21 btex22]]) fun r26 =>
 optO (CV.asB r26) fun b27 =>
 bif b27 then
 (optO (C lb n F_l20_knows []) fun r28 =>
 some (r28))
 else
 (optO (C lb n F_cond_Check [.agg [.int .i64 akin1, .list aln2 al3, .int .i64 aa4, .int .i64 ab5, .int .i64 aperfro6, .int .i64 aperto7, .int .i64 aperday9, .list atexn10 atex11]]) fun r29 =>
 optO (C lb n F_r20_Check [.agg [.int .i64 akin1, .list aln2 al3, .int .i64 aa4, .int .i64 ab5, .int .i64 aperfro6, .int .i64 aperto7, .int .i64 aperday9, .list atexn10 atex11]]) fun r30 =>
 optO (CV.asI .i64 r29) fun i31 =>
 optO (CV.asI .i64 r30) fun i33 =>
 bif (i31 == i33) then
 (optO (C lb n F_cond_Size [.agg [.int .i64 akin1, .list aln2 al3, .int .i64 aa4, .int .i64 ab5, .int .i64 aperfro6, .int .i64 aperto7, .int .i64 aperday9, .list atexn10 atex11]]) fun r34 =>
 optO (C lb n F_r20_Size [.agg [.int .i64 akin1, .list aln2 al3, .int .i64 aa4, .int .i64 ab5, .int .i64 aperfro6, .int .i64 aperto7, .int .i64 aperday9, .list atexn10 atex11]]) fun r35 =>
 optO (CV.asI .i64 r34) fun i36 =>
 optO (CV.asI .i64 r35) fun i37 =>
 bif (i36 == i37) then
 (optO (C lb n F_cond_Same [.agg [.int .i64 akin1, .list aln2 al3, .int .i64 aa4, .int .i64 ab5, .int .i64 aperfro6, .int .i64 aperto7, .int .i64 aperday9, .list atexn10 atex11], .agg [.int .i64 bkin12, .list bln13 bl14, .int .i64 ba15, .int .i64 bb17, .int .i64 bperfro18, .int .i64 bperto19, .int .i64 bperday20, .list btexn21 btex22]]) fun r38 =>
 optO (C lb n F_r20_Same [.agg [.int .i64 akin1, .list aln2 al3, .int .i64 aa4, .int .i64 ab5, .int .i64 aperfro6, .int .i64 aperto7, .int .i64 aperday9, .list atexn10 atex11], .agg [.int .i64 bkin12, .list bln13 bl14, .int .i64 ba15, .int .i64 bb17, .int .i64 bperfro18, .int .i64 bperto19, .int .i64 bperday20, .list btexn21 btex22]]) fun r39 =>
 optO (CV.asB r38) fun b40 =>
 optO (CV.asB r39) fun b41 =>
 bif (b40 == b41) then
 (optO (C lb n F_cond_Same [.agg [.int .i64 akin1, .list aln2 al3, .int .i64 aa4, .int .i64 ab5, .int .i64 aperfro6, .int .i64 aperto7, .int .i64 aperday9, .list atexn10 atex11], .agg [.int .i64 akin1, .list aln2 al3, .int .i64 aa4, .int .i64 ab5, .int .i64 aperfro6, .int .i64 aperto7, .int .i64 aperday9, .list atexn10 atex11]]) fun r42 =>
 optO (CV.asB r42) fun b43 =>
 bif b43 then
 (optO (C lb n F_l20_knows []) fun r44 =>
 some (r44))
 else
 (some (.bool false)))
 else
 (some (.bool false)))
 else
 (some (.bool false)))
 else
 (some (.bool false)))) := by kernel_rfl

end Go.Proofs
