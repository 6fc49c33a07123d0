/- Equations of functions, printed by program. Conditions: none. -/
import Derived.Test.YtmandbflbfkagaaGreatDoorEv
namespace Go.Proofs
open Go.Am
set_option maxRecDepth 100000
set_option linter.unusedVariables false
/-! airline/airlinelaw20.CondLogic -/
noncomputable def l20_CondLogic_L1 (lb : Nat) (n : Nat) (k125 : Nat) (akin1 : Int) (aln2 : Bool) (al3 : List (List CV)) (aa4 : Int) (ab5 : Int) (aperfro6 : Int) (aperto7 : Int) (aperday9 : Int) (atexn10 : Bool) (atex11 : List (List CV)) (bkin12 : Int) (bln13 : Bool) (bl14 : List (List CV)) (ba15 : Int) (bb17 : Int) (bperfro18 : Int) (bperto19 : Int) (bperday20 : Int) (btexn21 : Bool) (btex22 : List (List CV)) (ctyp23 : List UInt8) (csal24 : Int) (cday25 : Int) (cmin26 : Int) (csto27 : Int) (ctra28 : Int) (ccarn29 : Bool) (ccar30 : List (List CV)) (cnumn31 : Bool) (cnum33 : List (List CV)) (cvian34 : Bool) (cvia35 : List (List CV)) (b56 : Bool) (l57 : List (List CV)) (i58 : Int) : Option CV :=
  hold (loopC (E0 lb n 0 993) 0 (loopTemps (sub (B F_l20_CondLogic) [1, 1, 1, 0, 1, 0, 0]) ++ []) [10, 11] (sub (B F_l20_CondLogic) [1, 1, 1, 0, 1, 0, 0]) (blockK 0 (seqK (E0 lb n 0 996) (sub (B F_l20_CondLogic) [1, 1, 1, 0]) (sub (B F_l20_CondLogic) [1, 1, 1, 1]) (retK Tryz.prog (R F_l20_CondLogic) 0 (outK (tightF Tryz.prog F_l20_CondLogic))))) k125 ⟨fr 122 [(0, .val (.agg [.int .i64 akin1, .list aln2 al3, .int .i64 aa4, .int .i64 ab5, .int .i64 aperfro6, .int .i64 aperto7, .int .i64 aperday9, .list atexn10 atex11])), (1, .val (.agg [.int .i64 bkin12, .list bln13 bl14, .int .i64 ba15, .int .i64 bb17, .int .i64 bperfro18, .int .i64 bperto19, .int .i64 bperday20, .list btexn21 btex22])), (2, .val (.agg [.str ctyp23, .int .i64 csal24, .int .i64 cday25, .int .i64 cmin26, .int .i64 csto27, .int .i64 ctra28, .list ccarn29 ccar30, .list cnumn31 cnum33, .list cvian34 cvia35])), (3, .ptr 0 3 0), (4, .ptr 0 4 0), (5, .ptr 0 5 0), (6, .val (.bool false)), (7, .lst true false 27 [[CV.int .i64 akin1, CV.list aln2 al3, CV.int .i64 aa4, CV.int .i64 ab5, CV.int .i64 aperfro6, CV.int .i64 aperto7, CV.int .i64 aperday9, CV.list atexn10 atex11], [CV.int .i64 bkin12, CV.list bln13 bl14, CV.int .i64 ba15, CV.int .i64 bb17, CV.int .i64 bperfro18, CV.int .i64 bperto19, CV.int .i64 bperday20, CV.list btexn21 btex22]]), (8, .lst true b56 27 l57), (9, .val (.int .i64 i58)), (16, .val (.agg [.int .i64 akin1, .list aln2 al3, .int .i64 aa4, .int .i64 ab5, .int .i64 aperfro6, .int .i64 aperto7, .int .i64 aperday9, .list atexn10 atex11])), (17, .val (.agg [.int .i64 bkin12, .list bln13 bl14, .int .i64 ba15, .int .i64 bb17, .int .i64 bperfro18, .int .i64 bperto19, .int .i64 bperday20, .list btexn21 btex22])), (18, .val (.list false [[CV.int .i64 akin1, CV.list aln2 al3, CV.int .i64 aa4, CV.int .i64 ab5, CV.int .i64 aperfro6, CV.int .i64 aperto7, CV.int .i64 aperday9, CV.list atexn10 atex11], [CV.int .i64 bkin12, CV.list bln13 bl14, CV.int .i64 ba15, CV.int .i64 bb17, CV.int .i64 bperfro18, CV.int .i64 bperto19, CV.int .i64 bperday20, CV.list btexn21 btex22]]))], [bx 122 [(3, some [.val (.int .i64 akin1), .val (.list aln2 al3), .val (.int .i64 aa4), .val (.int .i64 ab5), .val (.int .i64 aperfro6), .val (.int .i64 aperto7), .val (.int .i64 aperday9), .val (.list atexn10 atex11)]), (4, some [.val (.int .i64 bkin12), .val (.list bln13 bl14), .val (.int .i64 ba15), .val (.int .i64 bb17), .val (.int .i64 bperfro18), .val (.int .i64 bperto19), .val (.int .i64 bperday20), .val (.list btexn21 btex22)]), (5, some [.val (.str ctyp23), .val (.int .i64 csal24), .val (.int .i64 cday25), .val (.int .i64 cmin26), .val (.int .i64 csto27), .val (.int .i64 ctra28), .val (.list ccarn29 ccar30), .val (.list cnumn31 cnum33), .val (.list cvian34 cvia35)])]], KK⟩)

noncomputable def l20_CondLogic_J2 (lb : Nat) (n : Nat) (akin1 : Int) (aln2 : Bool) (al3 : List (List CV)) (aa4 : Int) (ab5 : Int) (aperfro6 : Int) (aperto7 : Int) (aperday9 : Int) (atexn10 : Bool) (atex11 : List (List CV)) (bkin12 : Int) (bln13 : Bool) (bl14 : List (List CV)) (ba15 : Int) (bb17 : Int) (bperfro18 : Int) (bperto19 : Int) (bperday20 : Int) (btexn21 : Bool) (btex22 : List (List CV)) (ctyp23 : List UInt8) (csal24 : Int) (cday25 : Int) (cmin26 : Int) (csto27 : Int) (ctra28 : Int) (ccarn29 : Bool) (ccar30 : List (List CV)) (cnumn31 : Bool) (cnum33 : List (List CV)) (cvian34 : Bool) (cvia35 : List (List CV)) (b191 : Bool) (l192 : List (List CV)) (i193 : Int) : Option CV :=
  hold (E0 lb n 0 996 (sub (B F_l20_CondLogic) [1, 1, 1, 1]) (retK Tryz.prog (R F_l20_CondLogic) 0 (outK (tightF Tryz.prog F_l20_CondLogic))) ⟨fr 122 [(0, .val (.agg [.int .i64 akin1, .list aln2 al3, .int .i64 aa4, .int .i64 ab5, .int .i64 aperfro6, .int .i64 aperto7, .int .i64 aperday9, .list atexn10 atex11])), (1, .val (.agg [.int .i64 bkin12, .list bln13 bl14, .int .i64 ba15, .int .i64 bb17, .int .i64 bperfro18, .int .i64 bperto19, .int .i64 bperday20, .list btexn21 btex22])), (2, .val (.agg [.str ctyp23, .int .i64 csal24, .int .i64 cday25, .int .i64 cmin26, .int .i64 csto27, .int .i64 ctra28, .list ccarn29 ccar30, .list cnumn31 cnum33, .list cvian34 cvia35])), (3, .ptr 0 3 0), (4, .ptr 0 4 0), (5, .ptr 0 5 0), (6, .val (.bool false)), (7, .lst true false 27 [[CV.int .i64 akin1, CV.list aln2 al3, CV.int .i64 aa4, CV.int .i64 ab5, CV.int .i64 aperfro6, CV.int .i64 aperto7, CV.int .i64 aperday9, CV.list atexn10 atex11], [CV.int .i64 bkin12, CV.list bln13 bl14, CV.int .i64 ba15, CV.int .i64 bb17, CV.int .i64 bperfro18, CV.int .i64 bperto19, CV.int .i64 bperday20, CV.list btexn21 btex22]]), (8, .lst true b191 27 l192), (9, .val (.int .i64 i193)), (16, .val (.agg [.int .i64 akin1, .list aln2 al3, .int .i64 aa4, .int .i64 ab5, .int .i64 aperfro6, .int .i64 aperto7, .int .i64 aperday9, .list atexn10 atex11])), (17, .val (.agg [.int .i64 bkin12, .list bln13 bl14, .int .i64 ba15, .int .i64 bb17, .int .i64 bperfro18, .int .i64 bperto19, .int .i64 bperday20, .list btexn21 btex22])), (18, .val (.list false [[CV.int .i64 akin1, CV.list aln2 al3, CV.int .i64 aa4, CV.int .i64 ab5, CV.int .i64 aperfro6, CV.int .i64 aperto7, CV.int .i64 aperday9, CV.list atexn10 atex11], [CV.int .i64 bkin12, CV.list bln13 bl14, CV.int .i64 ba15, CV.int .i64 bb17, CV.int .i64 bperfro18, CV.int .i64 bperto19, CV.int .i64 bperday20, CV.list btexn21 btex22]]))], [bx 122 [(3, some [.val (.int .i64 akin1), .val (.list aln2 al3), .val (.int .i64 aa4), .val (.int .i64 ab5), .val (.int .i64 aperfro6), .val (.int .i64 aperto7), .val (.int .i64 aperday9), .val (.list atexn10 atex11)]), (4, some [.val (.int .i64 bkin12), .val (.list bln13 bl14), .val (.int .i64 ba15), .val (.int .i64 bb17), .val (.int .i64 bperfro18), .val (.int .i64 bperto19), .val (.int .i64 bperday20), .val (.list btexn21 btex22)]), (5, some [.val (.str ctyp23), .val (.int .i64 csal24), .val (.int .i64 cday25), .val (.int .i64 cmin26), .val (.int .i64 csto27), .val (.int .i64 ctra28), .val (.list ccarn29 ccar30), .val (.list cnumn31 cnum33), .val (.list cvian34 cvia35)])]], KK⟩)

theorem l20_CondLogic_J2_eq (lb : Nat) (n : Nat) (akin1 : Int) (aln2 : Bool) (al3 : List (List CV)) (aa4 : Int) (ab5 : Int) (aperfro6 : Int) (aperto7 : Int) (aperday9 : Int) (atexn10 : Bool) (atex11 : List (List CV)) (bkin12 : Int) (bln13 : Bool) (bl14 : List (List CV)) (ba15 : Int) (bb17 : Int) (bperfro18 : Int) (bperto19 : Int) (bperday20 : Int) (btexn21 : Bool) (btex22 : List (List CV)) (ctyp23 : List UInt8) (csal24 : Int) (cday25 : Int) (cmin26 : Int) (csto27 : Int) (ctra28 : Int) (ccarn29 : Bool) (ccar30 : List (List CV)) (cnumn31 : Bool) (cnum33 : List (List CV)) (cvian34 : Bool) (cvia35 : List (List CV)) (b191 : Bool) (l192 : List (List CV)) (i193 : Int) :
  l20_CondLogic_J2 lb n akin1 aln2 al3 aa4 ab5 aperfro6 aperto7 aperday9 atexn10 atex11 bkin12 bln13 bl14 ba15 bb17 bperfro18 bperto19 bperday20 btexn21 btex22 ctyp23 csal24 cday25 cmin26 csto27 ctra28 ccarn29 ccar30 cnumn31 cnum33 cvian34 cvia35 b191 l192 i193 =
 optO (C lb n F_cond_Holds [.agg [.int .i64 2, .list false [[CV.int .i64 akin1, CV.list aln2 al3, CV.int .i64 aa4, CV.int .i64 ab5, CV.int .i64 aperfro6, CV.int .i64 aperto7, CV.int .i64 aperday9, CV.list atexn10 atex11], [CV.int .i64 bkin12, CV.list bln13 bl14, CV.int .i64 ba15, CV.int .i64 bb17, CV.int .i64 bperfro18, CV.int .i64 bperto19, CV.int .i64 bperday20, CV.list btexn21 btex22]], .int .i64 0, .int .i64 0, .int .i64 0, .int .i64 0, .int .i64 0, .list true []], .agg [.str ctyp23, .int .i64 csal24, .int .i64 cday25, .int .i64 cmin26, .int .i64 csto27, .int .i64 ctra28, .list ccarn29 ccar30, .list cnumn31 cnum33, .list cvian34 cvia35]]) fun r194 =>
 optO (C lb n F_cond_Holds [.agg [.int .i64 akin1, .list aln2 al3, .int .i64 aa4, .int .i64 ab5, .int .i64 aperfro6, .int .i64 aperto7, .int .i64 aperday9, .list atexn10 atex11], .agg [.str ctyp23, .int .i64 csal24, .int .i64 cday25, .int .i64 cmin26, .int .i64 csto27, .int .i64 ctra28, .list ccarn29 ccar30, .list cnumn31 cnum33, .list cvian34 cvia35]]) fun r195 =>
 optO (CV.asB r195) fun b196 =>
 bif b196 then
 (optO (C lb n F_cond_Holds [.agg [.int .i64 bkin12, .list bln13 bl14, .int .i64 ba15, .int .i64 bb17, .int .i64 bperfro18, .int .i64 bperto19, .int .i64 bperday20, .list btexn21 btex22], .agg [.str ctyp23, .int .i64 csal24, .int .i64 cday25, .int .i64 cmin26, .int .i64 csto27, .int .i64 ctra28, .list ccarn29 ccar30, .list cnumn31 cnum33, .list cvian34 cvia35]]) fun r197 =>
 optO (CV.asB r194) fun b198 =>
 optO (CV.asB r197) fun b199 =>
 bif (b198 == b199) then
 (optO (C lb n F_cond_Holds [.agg [.int .i64 2, .list false [[CV.int .i64 akin1, CV.list aln2 al3, CV.int .i64 aa4, CV.int .i64 ab5, CV.int .i64 aperfro6, CV.int .i64 aperto7, CV.int .i64 aperday9, CV.list atexn10 atex11], [CV.int .i64 bkin12, CV.list bln13 bl14, CV.int .i64 ba15, CV.int .i64 bb17, CV.int .i64 bperfro18, CV.int .i64 bperto19, CV.int .i64 bperday20, CV.list btexn21 btex22]], .int .i64 0, .int .i64 0, .int .i64 0, .int .i64 0, .int .i64 0, .list true []], .agg [.str ctyp23, .int .i64 csal24, .int .i64 cday25, .int .i64 cmin26, .int .i64 csto27, .int .i64 ctra28, .list ccarn29 ccar30, .list cnumn31 cnum33, .list cvian34 cvia35]]) fun r200 =>
 optO (C lb n F_cond_Holds [.agg [.int .i64 3, .list b191 l192, .int .i64 0, .int .i64 0, .int .i64 0, .int .i64 0, .int .i64 0, .list true []], .agg [.str ctyp23, .int .i64 csal24, .int .i64 cday25, .int .i64 cmin26, .int .i64 csto27, .int .i64 ctra28, .list ccarn29 ccar30, .list cnumn31 cnum33, .list cvian34 cvia35]]) fun r201 =>
 optO (CV.asB r200) fun b202 =>
 optO (CV.asB r201) fun b203 =>
 bif (!(b202 == b203)) then
 (optO (C lb n F_cond_Holds [.agg [.int .i64 3, .list false [[CV.int .i64 akin1, CV.list aln2 al3, CV.int .i64 aa4, CV.int .i64 ab5, CV.int .i64 aperfro6, CV.int .i64 aperto7, CV.int .i64 aperday9, CV.list atexn10 atex11], [CV.int .i64 bkin12, CV.list bln13 bl14, CV.int .i64 ba15, CV.int .i64 bb17, CV.int .i64 bperfro18, CV.int .i64 bperto19, CV.int .i64 bperday20, CV.list btexn21 btex22]], .int .i64 0, .int .i64 0, .int .i64 0, .int .i64 0, .int .i64 0, .list true []], .agg [.str ctyp23, .int .i64 csal24, .int .i64 cday25, .int .i64 cmin26, .int .i64 csto27, .int .i64 ctra28, .list ccarn29 ccar30, .list cnumn31 cnum33, .list cvian34 cvia35]]) fun r204 =>
 optO (C lb n F_cond_Holds [.agg [.int .i64 2, .list b191 l192, .int .i64 0, .int .i64 0, .int .i64 0, .int .i64 0, .int .i64 0, .list true []], .agg [.str ctyp23, .int .i64 csal24, .int .i64 cday25, .int .i64 cmin26, .int .i64 csto27, .int .i64 ctra28, .list ccarn29 ccar30, .list cnumn31 cnum33, .list cvian34 cvia35]]) fun r205 =>
 optO (CV.asB r204) fun b206 =>
 optO (CV.asB r205) fun b207 =>
 bif (!(b206 == b207)) then
 (optO (C lb n F_l20_knows []) fun r208 =>
 some (r208))
 else
 (some (.bool false)))
 else
 (some (.bool false)))
 else
 (some (.bool false)))
 else
 (optO (CV.asB r194) fun b209 =>
 bif (b209 == false) then
 (optO (C lb n F_cond_Holds [.agg [.int .i64 2, .list false [[CV.int .i64 akin1, CV.list aln2 al3, CV.int .i64 aa4, CV.int .i64 ab5, CV.int .i64 aperfro6, CV.int .i64 aperto7, CV.int .i64 aperday9, CV.list atexn10 atex11], [CV.int .i64 bkin12, CV.list bln13 bl14, CV.int .i64 ba15, CV.int .i64 bb17, CV.int .i64 bperfro18, CV.int .i64 bperto19, CV.int .i64 bperday20, CV.list btexn21 btex22]], .int .i64 0, .int .i64 0, .int .i64 0, .int .i64 0, .int .i64 0, .list true []], .agg [.str ctyp23, .int .i64 csal24, .int .i64 cday25, .int .i64 cmin26, .int .i64 csto27, .int .i64 ctra28, .list ccarn29 ccar30, .list cnumn31 cnum33, .list cvian34 cvia35]]) fun r210 =>
 optO (C lb n F_cond_Holds [.agg [.int .i64 3, .list b191 l192, .int .i64 0, .int .i64 0, .int .i64 0, .int .i64 0, .int .i64 0, .list true []], .agg [.str ctyp23, .int .i64 csal24, .int .i64 cday25, .int .i64 cmin26, .int .i64 csto27, .int .i64 ctra28, .list ccarn29 ccar30, .list cnumn31 cnum33, .list cvian34 cvia35]]) fun r211 =>
 optO (CV.asB r210) fun b212 =>
 optO (CV.asB r211) fun b213 =>
 bif (!(b212 == b213)) then
 (optO (C lb n F_cond_Holds [.agg [.int .i64 3, .list false [[CV.int .i64 akin1, CV.list aln2 al3, CV.int .i64 aa4, CV.int .i64 ab5, CV.int .i64 aperfro6, CV.int .i64 aperto7, CV.int .i64 aperday9, CV.list atexn10 atex11], [CV.int .i64 bkin12, CV.list bln13 bl14, CV.int .i64 ba15, CV.int .i64 bb17, CV.int .i64 bperfro18, CV.int .i64 bperto19, CV.int .i64 bperday20, CV.list btexn21 btex22]], .int .i64 0, .int .i64 0, .int .i64 0, .int .i64 0, .int .i64 0, .list true []], .agg [.str ctyp23, .int .i64 csal24, .int .i64 cday25, .int .i64 cmin26, .int .i64 csto27, .int .i64 ctra28, .list ccarn29 ccar30, .list cnumn31 cnum33, .list cvian34 cvia35]]) fun r214 =>
 optO (C lb n F_cond_Holds [.agg [.int .i64 2, .list b191 l192, .int .i64 0, .int .i64 0, .int .i64 0, .int .i64 0, .int .i64 0, .list true []], .agg [.str ctyp23, .int .i64 csal24, .int .i64 cday25, .int .i64 cmin26, .int .i64 csto27, .int .i64 ctra28, .list ccarn29 ccar30, .list cnumn31 cnum33, .list cvian34 cvia35]]) fun r215 =>
 optO (CV.asB r214) fun b216 =>
 optO (CV.asB r215) fun b217 =>
 bif (!(b216 == b217)) then
 (optO (C lb n F_l20_knows []) fun r218 =>
 some (r218))
 else
 (some (.bool false)))
 else
 (some (.bool false)))
 else
 (some (.bool false))) := (hold_eq _).trans (by kernel_rfl)

theorem l20_CondLogic_L1_succ (lb : Nat) (n k125 : Nat) (akin1 : Int) (aln2 : Bool) (al3 : List (List CV)) (aa4 : Int) (ab5 : Int) (aperfro6 : Int) (aperto7 : Int) (aperday9 : Int) (atexn10 : Bool) (atex11 : List (List CV)) (bkin12 : Int) (bln13 : Bool) (bl14 : List (List CV)) (ba15 : Int) (bb17 : Int) (bperfro18 : Int) (bperto19 : Int) (bperday20 : Int) (btexn21 : Bool) (btex22 : List (List CV)) (ctyp23 : List UInt8) (csal24 : Int) (cday25 : Int) (cmin26 : Int) (csto27 : Int) (ctra28 : Int) (ccarn29 : Bool) (ccar30 : List (List CV)) (cnumn31 : Bool) (cnum33 : List (List CV)) (cvian34 : Bool) (cvia35 : List (List CV)) (b56 : Bool) (l57 : List (List CV)) (i58 : Int) :
  l20_CondLogic_L1 lb n (k125 + 1) akin1 aln2 al3 aa4 ab5 aperfro6 aperto7 aperday9 atexn10 atex11 bkin12 bln13 bl14 ba15 bb17 bperfro18 bperto19 bperday20 btexn21 btex22 ctyp23 csal24 cday25 cmin26 csto27 ctra28 ccarn29 ccar30 cnumn31 cnum33 cvian34 cvia35 b56 l57 i58 =
 bif (decide (i58 < 2)) then
 (optO (atL [[CV.int .i64 akin1, CV.list aln2 al3, CV.int .i64 aa4, CV.int .i64 ab5, CV.int .i64 aperfro6, CV.int .i64 aperto7, CV.int .i64 aperday9, CV.list atexn10 atex11], [CV.int .i64 bkin12, CV.list bln13 bl14, CV.int .i64 ba15, CV.int .i64 bb17, CV.int .i64 bperfro18, CV.int .i64 bperto19, CV.int .i64 bperday20, CV.list btexn21 btex22]] i58) fun c126 =>
 chkO (c126.length == 8) (
 optO (c126[0]?) fun x127 =>
 optO (c126[1]?) fun x128 =>
 optO (c126[2]?) fun x129 =>
 optO (c126[3]?) fun x130 =>
 optO (c126[4]?) fun x131 =>
 optO (c126[5]?) fun x132 =>
 optO (c126[6]?) fun x133 =>
 optO (c126[7]?) fun x134 =>
 optO (atL [[CV.int .i64 akin1, CV.list aln2 al3, CV.int .i64 aa4, CV.int .i64 ab5, CV.int .i64 aperfro6, CV.int .i64 aperto7, CV.int .i64 aperday9, CV.list atexn10 atex11], [CV.int .i64 bkin12, CV.list bln13 bl14, CV.int .i64 ba15, CV.int .i64 bb17, CV.int .i64 bperfro18, CV.int .i64 bperto19, CV.int .i64 bperday20, CV.list btexn21 btex22]] i58) fun c135 =>
 chkO (c135.length == 8) (
 optO (c135[0]?) fun x136 =>
 optO (c135[1]?) fun x137 =>
 optO (c135[2]?) fun x138 =>
 optO (c135[3]?) fun x139 =>
 optO (c135[4]?) fun x140 =>
 optO (c135[5]?) fun x141 =>
 optO (c135[6]?) fun x142 =>
 optO (c135[7]?) fun x143 =>
 optO (C lb n F_l20_large [.agg [x136, x137, x138, x139, x140, x141, x142, x143]]) fun r144 =>
 optO (CV.asB r144) fun b145 =>
 bif b145 then
 (optO (C lb n F_l20_knows []) fun r146 =>
 some (r146))
 else
 (optO (atL [[CV.int .i64 akin1, CV.list aln2 al3, CV.int .i64 aa4, CV.int .i64 ab5, CV.int .i64 aperfro6, CV.int .i64 aperto7, CV.int .i64 aperday9, CV.list atexn10 atex11], [CV.int .i64 bkin12, CV.list bln13 bl14, CV.int .i64 ba15, CV.int .i64 bb17, CV.int .i64 bperfro18, CV.int .i64 bperto19, CV.int .i64 bperday20, CV.list btexn21 btex22]] i58) fun c147 =>
 chkO (c147.length == 8) (
 optO (c147[0]?) fun x148 =>
 optO (c147[1]?) fun x149 =>
 optO (c147[2]?) fun x150 =>
 optO (c147[3]?) fun x151 =>
 optO (c147[4]?) fun x152 =>
 optO (c147[5]?) fun x153 =>
 optO (c147[6]?) fun x154 =>
 optO (c147[7]?) fun x155 =>
 optO (C lb n F_r20_Size [.agg [x148, x149, x150, x151, x152, x153, x154, x155]]) fun r156 =>
 optO (CV.asI .i64 r156) fun i157 =>
 bif (decide (i157 > 50)) then
 (optO (C lb n F_l20_knows []) fun r158 =>
 some (r158))
 else
 (optO (C lb n F_l20_far [.agg [.str ctyp23, .int .i64 csal24, .int .i64 cday25, .int .i64 cmin26, .int .i64 csto27, .int .i64 ctra28, .list ccarn29 ccar30, .list cnumn31 cnum33, .list cvian34 cvia35]]) fun r159 =>
 optO (CV.asB r159) fun b160 =>
 bif b160 then
 (optO (C lb n F_l20_knows []) fun r161 =>
 some (r161))
 else
 (optO (C lb n F_r20_Check [.agg [.int .i64 4, .list false [[CV.int .i64 4, CV.list false [[x127, x128, x129, x130, x131, x132, x133, x134]], CV.int .i64 0, CV.int .i64 0, CV.int .i64 0, CV.int .i64 0, CV.int .i64 0, CV.list true []]], .int .i64 0, .int .i64 0, .int .i64 0, .int .i64 0, .int .i64 0, .list true []]]) fun r162 =>
 optO (CV.asI .i64 r162) fun i163 =>
 bif (i163 != 0) then
 (optO (C lb n F_l20_knows []) fun r164 =>
 some (r164))
 else
 (chkO (room (l57.length + 1) 96) (
 optO (atL [[CV.int .i64 akin1, CV.list aln2 al3, CV.int .i64 aa4, CV.int .i64 ab5, CV.int .i64 aperfro6, CV.int .i64 aperto7, CV.int .i64 aperday9, CV.list atexn10 atex11], [CV.int .i64 bkin12, CV.list bln13 bl14, CV.int .i64 ba15, CV.int .i64 bb17, CV.int .i64 bperfro18, CV.int .i64 bperto19, CV.int .i64 bperday20, CV.list btexn21 btex22]] i58) fun c165 =>
 chkO (c165.length == 8) (
 optO (c165[0]?) fun x166 =>
 optO (c165[1]?) fun x167 =>
 optO (c165[2]?) fun x168 =>
 optO (c165[3]?) fun x169 =>
 optO (c165[4]?) fun x170 =>
 optO (c165[5]?) fun x171 =>
 optO (c165[6]?) fun x172 =>
 optO (c165[7]?) fun x173 =>
 optO (C lb n F_cond_Holds [.agg [x166, x167, x168, x169, x170, x171, x172, x173], .agg [.str ctyp23, .int .i64 csal24, .int .i64 cday25, .int .i64 cmin26, .int .i64 csto27, .int .i64 ctra28, .list ccarn29 ccar30, .list cnumn31 cnum33, .list cvian34 cvia35]]) fun r174 =>
 optO (C lb n F_cond_Holds [.agg [.int .i64 4, .list false [[x127, x128, x129, x130, x131, x132, x133, x134]], .int .i64 0, .int .i64 0, .int .i64 0, .int .i64 0, .int .i64 0, .list true []], .agg [.str ctyp23, .int .i64 csal24, .int .i64 cday25, .int .i64 cmin26, .int .i64 csto27, .int .i64 ctra28, .list ccarn29 ccar30, .list cnumn31 cnum33, .list cvian34 cvia35]]) fun r175 =>
 optO (CV.asB r174) fun b176 =>
 optO (CV.asB r175) fun b177 =>
 bif (b176 == b177) then
 (some (.bool false))
 else
 (optO (atL [[CV.int .i64 akin1, CV.list aln2 al3, CV.int .i64 aa4, CV.int .i64 ab5, CV.int .i64 aperfro6, CV.int .i64 aperto7, CV.int .i64 aperday9, CV.list atexn10 atex11], [CV.int .i64 bkin12, CV.list bln13 bl14, CV.int .i64 ba15, CV.int .i64 bb17, CV.int .i64 bperfro18, CV.int .i64 bperto19, CV.int .i64 bperday20, CV.list btexn21 btex22]] i58) fun c178 =>
 chkO (c178.length == 8) (
 optO (c178[0]?) fun x179 =>
 optO (c178[1]?) fun x180 =>
 optO (c178[2]?) fun x181 =>
 optO (c178[3]?) fun x182 =>
 optO (c178[4]?) fun x183 =>
 optO (c178[5]?) fun x184 =>
 optO (c178[6]?) fun x185 =>
 optO (c178[7]?) fun x186 =>
 optO (C lb n F_cond_Holds [.agg [x179, x180, x181, x182, x183, x184, x185, x186], .agg [.str ctyp23, .int .i64 csal24, .int .i64 cday25, .int .i64 cmin26, .int .i64 csto27, .int .i64 ctra28, .list ccarn29 ccar30, .list cnumn31 cnum33, .list cvian34 cvia35]]) fun r187 =>
 optO (C lb n F_cond_Holds [.agg [.int .i64 4, .list false [[CV.int .i64 4, CV.list false [[x127, x128, x129, x130, x131, x132, x133, x134]], CV.int .i64 0, CV.int .i64 0, CV.int .i64 0, CV.int .i64 0, CV.int .i64 0, CV.list true []]], .int .i64 0, .int .i64 0, .int .i64 0, .int .i64 0, .int .i64 0, .list true []], .agg [.str ctyp23, .int .i64 csal24, .int .i64 cday25, .int .i64 cmin26, .int .i64 csto27, .int .i64 ctra28, .list ccarn29 ccar30, .list cnumn31 cnum33, .list cvian34 cvia35]]) fun r188 =>
 optO (CV.asB r187) fun b189 =>
 optO (CV.asB r188) fun b190 =>
 bif (!(b189 == b190)) then
 (some (.bool false))
 else
 (l20_CondLogic_L1 lb n k125 akin1 aln2 al3 aa4 ab5 aperfro6 aperto7 aperday9 atexn10 atex11 bkin12 bln13 bl14 ba15 bb17 bperfro18 bperto19 bperday20 btexn21 btex22 ctyp23 csal24 cday25 cmin26 csto27 ctra28 ccarn29 ccar30 cnumn31 cnum33 cvian34 cvia35 (b56 && false) (l57 ++ [[CV.int .i64 4, CV.list false [[x127, x128, x129, x130, x131, x132, x133, x134]], CV.int .i64 0, CV.int .i64 0, CV.int .i64 0, CV.int .i64 0, CV.int .i64 0, CV.list true []]]) (IntKind.wrap .i64 (i58 + 1)))))))))))))))
 else
 (l20_CondLogic_J2 lb n akin1 aln2 al3 aa4 ab5 aperfro6 aperto7 aperday9 atexn10 atex11 bkin12 bln13 bl14 ba15 bb17 bperfro18 bperto19 bperday20 btexn21 btex22 ctyp23 csal24 cday25 cmin26 csto27 ctra28 ccarn29 ccar30 cnumn31 cnum33 cvian34 cvia35 b56 l57 i58) := (hold_eq _).trans (by kernel_rfl)

theorem l20_CondLogic_L1_zero (lb : Nat) (n : Nat) (akin1 : Int) (aln2 : Bool) (al3 : List (List CV)) (aa4 : Int) (ab5 : Int) (aperfro6 : Int) (aperto7 : Int) (aperday9 : Int) (atexn10 : Bool) (atex11 : List (List CV)) (bkin12 : Int) (bln13 : Bool) (bl14 : List (List CV)) (ba15 : Int) (bb17 : Int) (bperfro18 : Int) (bperto19 : Int) (bperday20 : Int) (btexn21 : Bool) (btex22 : List (List CV)) (ctyp23 : List UInt8) (csal24 : Int) (cday25 : Int) (cmin26 : Int) (csto27 : Int) (ctra28 : Int) (ccarn29 : Bool) (ccar30 : List (List CV)) (cnumn31 : Bool) (cnum33 : List (List CV)) (cvian34 : Bool) (cvia35 : List (List CV)) (b56 : Bool) (l57 : List (List CV)) (i58 : Int) :
  l20_CondLogic_L1 lb n 0 akin1 aln2 al3 aa4 ab5 aperfro6 aperto7 aperday9 atexn10 atex11 bkin12 bln13 bl14 ba15 bb17 bperfro18 bperto19 bperday20 btexn21 btex22 ctyp23 csal24 cday25 cmin26 csto27 ctra28 ccarn29 ccar30 cnumn31 cnum33 cvian34 cvia35 b56 l57 i58 =
 none := (hold_eq _).trans (by kernel_rfl)

theorem l20_CondLogic_eq (lb : Nat) (n : Nat) (akin1 : Int) (aln2 : Bool) (al3 : List (List CV)) (aa4 : Int) (ab5 : Int) (aperfro6 : Int) (aperto7 : Int) (aperday9 : Int) (atexn10 : Bool) (atex11 : List (List CV)) (bkin12 : Int) (bln13 : Bool) (bl14 : List (List CV)) (ba15 : Int) (bb17 : Int) (bperfro18 : Int) (bperto19 : Int) (bperday20 : Int) (btexn21 : Bool) (btex22 : List (List CV)) (ctyp23 : List UInt8) (csal24 : Int) (cday25 : Int) (cmin26 : Int) (csto27 : Int) (ctra28 : Int) (ccarn29 : Bool) (ccar30 : List (List CV)) (cnumn31 : Bool) (cnum33 : List (List CV)) (cvian34 : Bool) (cvia35 : List (List CV)) :
  top lb n F_l20_CondLogic [.agg [.int .i64 akin1, .list aln2 al3, .int .i64 aa4, .int .i64 ab5, .int .i64 aperfro6, .int .i64 aperto7, .int .i64 aperday9, .list atexn10 atex11], .agg [.int .i64 bkin12, .list bln13 bl14, .int .i64 ba15, .int .i64 bb17, .int .i64 bperfro18, .int .i64 bperto19, .int .i64 bperday20, .list btexn21 btex22], .agg [.str ctyp23, .int .i64 csal24, .int .i64 cday25, .int .i64 cmin26, .int .i64 csto27, .int .i64 ctra28, .list ccarn29 ccar30, .list cnumn31 cnum33, .list cvian34 cvia35]] =
 l20_CondLogic_L1 lb n n akin1 aln2 al3 aa4 ab5 aperfro6 aperto7 aperday9 atexn10 atex11 bkin12 bln13 bl14 ba15 bb17 bperfro18 bperto19 bperday20 btexn21 btex22 ctyp23 csal24 cday25 cmin26 csto27 ctra28 ccarn29 ccar30 cnumn31 cnum33 cvian34 cvia35 true [] 0 := by kernel_rfl

end Go.Proofs
