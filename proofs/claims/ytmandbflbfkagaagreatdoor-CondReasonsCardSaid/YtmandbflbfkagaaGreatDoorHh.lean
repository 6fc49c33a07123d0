/- Equations of functions, printed by program. Conditions: none. -/
import Derived.Test.YtmandbflbfkagaaGreatDoorEv
namespace Go.Proofs
open Go.Am
set_option maxRecDepth 100000
set_option linter.unusedVariables false
/-! airline/airlinelaw20.CondHolds -/
theorem l20_CondHolds_eq (lb : Nat) (n : Nat) (akin1 : Int) (aln2 : Bool) (al3 : List (List CV)) (aa4 : Int) (ab5 : Int) (aperfro6 : Int) (aperto7 : Int) (aperday9 : Int) (atexn10 : Bool) (atex11 : List (List CV)) (btyp12 : List UInt8) (bsal13 : Int) (bday14 : Int) (bmin15 : Int) (bsto17 : Int) (btra18 : Int) (bcarn19 : Bool) (bcar20 : List (List CV)) (bnumn21 : Bool) (bnum22 : List (List CV)) (bvian23 : Bool) (bvia24 : List (List CV)) :
  top lb n F_l20_CondHolds [.agg [.int .i64 akin1, .list aln2 al3, .int .i64 aa4, .int .i64 ab5, .int .i64 aperfro6, .int .i64 aperto7, .int .i64 aperday9, .list atexn10 atex11], .agg [.str btyp12, .int .i64 bsal13, .int .i64 bday14, .int .i64 bmin15, .int .i64 bsto17, .int .i64 btra18, .list bcarn19 bcar20, .list bnumn21 bnum22, .list bvian23 bvia24]] =
 optO (C lb n F_l20_large [.agg [.int .i64 akin1, .list aln2 al3, .int .i64 aa4, .int .i64 ab5, .int .i64 aperfro6, .int .i64 aperto7, .int .i64 aperday9, .list atexn10 atex11]]) fun r25 =>
 optO (CV.asB r25) fun b26 =>
 bif b26 then
 (optO (C lb n F_l20_knows []) fun r27 =>
 some (r27))
 else
 (optO (C lb n F_l20_far [.agg [.str btyp12, .int .i64 bsal13, .int .i64 bday14, .int .i64 bmin15, .int .i64 bsto17, .int .i64 btra18, .list bcarn19 bcar20, .list bnumn21 bnum22, .list bvian23 bvia24]]) fun r28 =>
 optO (CV.asB r28) fun b29 =>
 bif b29 then
 (optO (C lb n F_l20_knows []) fun r30 =>
 some (r30))
 else
 (optO (C lb n F_r20_Check [.agg [.int .i64 akin1, .list aln2 al3, .int .i64 aa4, .int .i64 ab5, .int .i64 aperfro6, .int .i64 aperto7, .int .i64 aperday9, .list atexn10 atex11]]) fun r31 =>
 optO (CV.asI .i64 r31) fun i33 =>
 bif (i33 != 0) then
 (optO (C lb n F_l20_knows []) fun r34 =>
 some (r34))
 else
 (optO (C lb n F_cond_Why [.agg [.int .i64 akin1, .list aln2 al3, .int .i64 aa4, .int .i64 ab5, .int .i64 aperfro6, .int .i64 aperto7, .int .i64 aperday9, .list atexn10 atex11], .agg [.str btyp12, .int .i64 bsal13, .int .i64 bday14, .int .i64 bmin15, .int .i64 bsto17, .int .i64 btra18, .list bcarn19 bcar20, .list bnumn21 bnum22, .list bvian23 bvia24]]) fun r35 =>
 optO (CV.asT r35) fun t36 =>
 optO (t36[0]?) fun x37 =>
 optO (CV.asT r35) fun t38 =>
 optO (t38[1]?) fun x39 =>
 optO (C lb n F_r20_Why [.agg [.int .i64 akin1, .list aln2 al3, .int .i64 aa4, .int .i64 ab5, .int .i64 aperfro6, .int .i64 aperto7, .int .i64 aperday9, .list atexn10 atex11], .agg [.str btyp12, .int .i64 bsal13, .int .i64 bday14, .int .i64 bmin15, .int .i64 bsto17, .int .i64 btra18, .list bcarn19 bcar20, .list bnumn21 bnum22, .list bvian23 bvia24]]) fun r40 =>
 optO (CV.asT r40) fun t41 =>
 optO (t41[0]?) fun x42 =>
 optO (CV.asT r40) fun t43 =>
 optO (t43[1]?) fun x44 =>
 optO (C lb n F_cond_Holds [.agg [.int .i64 akin1, .list aln2 al3, .int .i64 aa4, .int .i64 ab5, .int .i64 aperfro6, .int .i64 aperto7, .int .i64 aperday9, .list atexn10 atex11], .agg [.str btyp12, .int .i64 bsal13, .int .i64 bday14, .int .i64 bmin15, .int .i64 bsto17, .int .i64 btra18, .list bcarn19 bcar20, .list bnumn21 bnum22, .list bvian23 bvia24]]) fun r45 =>
 optO (C lb n F_r20_Holds [.agg [.int .i64 akin1, .list aln2 al3, .int .i64 aa4, .int .i64 ab5, .int .i64 aperfro6, .int .i64 aperto7, .int .i64 aperday9, .list atexn10 atex11], .agg [.str btyp12, .int .i64 bsal13, .int .i64 bday14, .int .i64 bmin15, .int .i64 bsto17, .int .i64 btra18, .list bcarn19 bcar20, .list bnumn21 bnum22, .list bvian23 bvia24]]) fun r46 =>
 optO (CV.asB r45) fun b47 =>
 optO (CV.asB r46) fun b48 =>
 bif (b47 == b48) then
 (optO (CV.asB x39) fun b49 =>
 optO (CV.asB x44) fun b50 =>
 bif (b49 == b50) then
 (optO (C lb n F_r17_Same [x37, x42]) fun r51 =>
 optO (CV.asB r51) fun b52 =>
 bif b52 then
 (optO (C lb n F_l20_knows []) fun r53 =>
 some (r53))
 else
 (some (.bool false)))
 else
 (some (.bool false)))
 else
 (some (.bool false))))) := by kernel_rfl

end Go.Proofs
