/- Equations of functions, printed by program. Conditions: none. -/
import Derived.Test.YtmefepdgnkhagaaGreatDoorEv
namespace Go.Proofs
open Go.Am
set_option maxRecDepth 100000
set_option linter.unusedVariables false
/-! airline/airlinelaw21.parts -/
noncomputable def l21_parts_L1 (lb : Nat) (n : Nat) (k39 : Nat) (akin1 : Int) (aln2 : Bool) (al3 : List (List CV)) (aa4 : Int) (ab5 : Int) (aperfro6 : Int) (aperto7 : Int) (aperday9 : Int) (atexn10 : Bool) (atex11 : List (List CV)) (b12 : Int) (i25 : Int) (i26 : Int) : Option CV :=
  hold (loopC (E0 lb n 0 993) 0 (loopTemps (sub (B F_l21_parts) [1, 1, 1, 0, 1, 0, 0]) ++ []) [] (sub (B F_l21_parts) [1, 1, 1, 0, 1, 0, 0]) (blockK 0 (seqK (E0 lb n 0 996) (sub (B F_l21_parts) [1, 1, 1, 0]) (sub (B F_l21_parts) [1, 1, 1, 1]) (retK Tryz.prog (R F_l21_parts) 0 (outK (tightF Tryz.prog F_l21_parts))))) k39 ⟨fr 43 [(0, .val (.agg [.int .i64 akin1, .list aln2 al3, .int .i64 aa4, .int .i64 ab5, .int .i64 aperfro6, .int .i64 aperto7, .int .i64 aperday9, .list atexn10 atex11])), (1, .val (.int .i64 b12)), (2, .ptr 0 2 0), (4, .val (.int .i64 0)), (5, .val (.int .i64 i25)), (6, .val (.int .i64 i26)), (7, .ptr 0 2 7), (8, .val (.list atexn10 atex11)), (9, .val (.int .i64 (atex11.length : Int))), (10, .val (.int .i64 (if 300 < (atex11.length : Int) then 300 else (atex11.length : Int)))), (11, .val (.int .i64 (IntKind.wrap .i64 (1 + (if 300 < (atex11.length : Int) then 300 else (atex11.length : Int))))))], [bx 43 [(2, some [.val (.int .i64 akin1), .val (.list aln2 al3), .val (.int .i64 aa4), .val (.int .i64 ab5), .val (.int .i64 aperfro6), .val (.int .i64 aperto7), .val (.int .i64 aperday9), .val (.list atexn10 atex11)])]], KK⟩)

noncomputable def l21_parts_J2 (lb : Nat) (n : Nat) (akin1 : Int) (aln2 : Bool) (al3 : List (List CV)) (aa4 : Int) (ab5 : Int) (aperfro6 : Int) (aperto7 : Int) (aperday9 : Int) (atexn10 : Bool) (atex11 : List (List CV)) (b12 : Int) (i51 : Int) (i52 : Int) : Option CV :=
  hold (E0 lb n 0 996 (sub (B F_l21_parts) [1, 1, 1, 1]) (retK Tryz.prog (R F_l21_parts) 0 (outK (tightF Tryz.prog F_l21_parts))) ⟨fr 43 [(0, .val (.agg [.int .i64 akin1, .list aln2 al3, .int .i64 aa4, .int .i64 ab5, .int .i64 aperfro6, .int .i64 aperto7, .int .i64 aperday9, .list atexn10 atex11])), (1, .val (.int .i64 b12)), (2, .ptr 0 2 0), (4, .val (.int .i64 0)), (5, .val (.int .i64 i51)), (6, .val (.int .i64 i52)), (7, .ptr 0 2 7), (8, .val (.list atexn10 atex11)), (9, .val (.int .i64 (atex11.length : Int))), (10, .val (.int .i64 (if 300 < (atex11.length : Int) then 300 else (atex11.length : Int)))), (11, .val (.int .i64 (IntKind.wrap .i64 (1 + (if 300 < (atex11.length : Int) then 300 else (atex11.length : Int))))))], [bx 43 [(2, some [.val (.int .i64 akin1), .val (.list aln2 al3), .val (.int .i64 aa4), .val (.int .i64 ab5), .val (.int .i64 aperfro6), .val (.int .i64 aperto7), .val (.int .i64 aperday9), .val (.list atexn10 atex11)])]], KK⟩)

theorem l21_parts_J2_eq (lb : Nat) (n : Nat) (akin1 : Int) (aln2 : Bool) (al3 : List (List CV)) (aa4 : Int) (ab5 : Int) (aperfro6 : Int) (aperto7 : Int) (aperday9 : Int) (atexn10 : Bool) (atex11 : List (List CV)) (b12 : Int) (i51 : Int) (i52 : Int) :
  l21_parts_J2 lb n akin1 aln2 al3 aa4 ab5 aperfro6 aperto7 aperday9 atexn10 atex11 b12 i51 i52 =
 some (.int .i64 (if 300 < i51 then 300 else i51)) := (hold_eq _).trans (by kernel_rfl)

theorem l21_parts_L1_succ (lb : Nat) (n k39 : Nat) (akin1 : Int) (aln2 : Bool) (al3 : List (List CV)) (aa4 : Int) (ab5 : Int) (aperfro6 : Int) (aperto7 : Int) (aperday9 : Int) (atexn10 : Bool) (atex11 : List (List CV)) (b12 : Int) (i25 : Int) (i26 : Int) :
  l21_parts_L1 lb n (k39 + 1) akin1 aln2 al3 aa4 ab5 aperfro6 aperto7 aperday9 atexn10 atex11 b12 i25 i26 =
 bif (decide (i26 < (al3.length : Int))) then
 (bif (decide (i25 < 300)) then
 (optO (atL al3 i26) fun c40 =>
 chkO (c40.length == 8) (
 optO (c40[0]?) fun x41 =>
 optO (c40[1]?) fun x42 =>
 optO (c40[2]?) fun x43 =>
 optO (c40[3]?) fun x44 =>
 optO (c40[4]?) fun x45 =>
 optO (c40[5]?) fun x46 =>
 optO (c40[6]?) fun x47 =>
 optO (c40[7]?) fun x48 =>
 optO (C lb n F_l21_parts [.agg [x41, x42, x43, x44, x45, x46, x47, x48], .int .i64 (IntKind.wrap .i64 (b12 + 1))]) fun r49 =>
 optO (CV.asI .i64 r49) fun i50 =>
 l21_parts_L1 lb n k39 akin1 aln2 al3 aa4 ab5 aperfro6 aperto7 aperday9 atexn10 atex11 b12 (IntKind.wrap .i64 (i25 + i50)) (IntKind.wrap .i64 (i26 + 1))))
 else
 (l21_parts_J2 lb n akin1 aln2 al3 aa4 ab5 aperfro6 aperto7 aperday9 atexn10 atex11 b12 i25 i26))
 else
 (l21_parts_J2 lb n akin1 aln2 al3 aa4 ab5 aperfro6 aperto7 aperday9 atexn10 atex11 b12 i25 i26) := (hold_eq _).trans (by kernel_rfl)

theorem l21_parts_L1_zero (lb : Nat) (n : Nat) (akin1 : Int) (aln2 : Bool) (al3 : List (List CV)) (aa4 : Int) (ab5 : Int) (aperfro6 : Int) (aperto7 : Int) (aperday9 : Int) (atexn10 : Bool) (atex11 : List (List CV)) (b12 : Int) (i25 : Int) (i26 : Int) :
  l21_parts_L1 lb n 0 akin1 aln2 al3 aa4 ab5 aperfro6 aperto7 aperday9 atexn10 atex11 b12 i25 i26 =
 none := (hold_eq _).trans (by kernel_rfl)

theorem l21_parts_eq (lb : Nat) (n : Nat) (akin1 : Int) (aln2 : Bool) (al3 : List (List CV)) (aa4 : Int) (ab5 : Int) (aperfro6 : Int) (aperto7 : Int) (aperday9 : Int) (atexn10 : Bool) (atex11 : List (List CV)) (b12 : Int) :
  top lb n F_l21_parts [.agg [.int .i64 akin1, .list aln2 al3, .int .i64 aa4, .int .i64 ab5, .int .i64 aperfro6, .int .i64 aperto7, .int .i64 aperday9, .list atexn10 atex11], .int .i64 b12] =
 bif (decide (b12 > 20)) then
 (some (.int .i64 300))
 else
 (bif (decide ((al3.length : Int) > 300)) then
 (some (.int .i64 300))
 else
 (l21_parts_L1 lb n n akin1 aln2 al3 aa4 ab5 aperfro6 aperto7 aperday9 atexn10 atex11 b12 (IntKind.wrap .i64 (1 + (if 300 < (atex11.length : Int) then 300 else (atex11.length : Int)))) 0)) := by kernel_rfl

/-! airline/airlinelaw21.Small -/
theorem l21_Small_eq (lb : Nat) (n : Nat) (anum1 : Int) (awhekin2 : Int) (awheln3 : Bool) (awhel4 : List (List CV)) (awhea5 : Int) (awheb6 : Int) (awheperfro7 : Int) (awheperto9 : Int) (awheperday10 : Int) (awhetexn11 : Bool) (awhetex12 : List (List CV)) (acomn13 : Bool) (acom14 : List (List CV)) (amin15 : Int) (amax17 : Int) (acha18 : Int) (aref19 : Int) (apern20 : Bool) (aper21 : List (List CV)) :
  top lb n F_l21_Small [.agg [.int .i64 anum1, .int .i64 awhekin2, .list awheln3 awhel4, .int .i64 awhea5, .int .i64 awheb6, .int .i64 awheperfro7, .int .i64 awheperto9, .int .i64 awheperday10, .list awhetexn11 awhetex12, .list acomn13 acom14, .int .i64 amin15, .int .i64 amax17, .int .i64 acha18, .int .i64 aref19, .list apern20 aper21]] =
 optO (C lb n F_l21_parts [.agg [.int .i64 awhekin2, .list awheln3 awhel4, .int .i64 awhea5, .int .i64 awheb6, .int .i64 awheperfro7, .int .i64 awheperto9, .int .i64 awheperday10, .list awhetexn11 awhetex12], .int .i64 0]) fun r22 =>
 optO (CV.asI .i64 r22) fun i23 =>
 bif (decide (i23 ≤ 200)) then
 (bif (decide ((acom14.length : Int) ≤ 100)) then
 (some (.bool (decide ((aper21.length : Int) ≤ 100))))
 else
 (some (.bool false)))
 else
 (some (.bool false)) := by kernel_rfl

/-! airline/airlinelaw21.near -/
theorem l21_near_eq (lb : Nat) (n : Nat) (a1 : Int) :
  top lb n F_l21_near [.int .i64 a1] =
 bif (decide (a1 ≥ (-1099511627776))) then
 (some (.bool (decide (a1 ≤ 1099511627776))))
 else
 (some (.bool false)) := by kernel_rfl

/-! airline/rule.Stay -/
theorem rule_Stay_eq (lb : Nat) (n : Nat) (anum1 : Int) (awhekin2 : Int) (awheln3 : Bool) (awhel4 : List (List CV)) (awhea5 : Int) (awheb6 : Int) (awheperfro7 : Int) (awheperto9 : Int) (awheperday10 : Int) (awhetexn11 : Bool) (awhetex12 : List (List CV)) (acomn13 : Bool) (acom14 : List (List CV)) (amin15 : Int) (amax17 : Int) (acha18 : Int) (aref19 : Int) (apern20 : Bool) (aper21 : List (List CV)) (b22 : Int) (c23 : Int) :
  top lb n F_rule_Stay [.agg [.int .i64 anum1, .int .i64 awhekin2, .list awheln3 awhel4, .int .i64 awhea5, .int .i64 awheb6, .int .i64 awheperfro7, .int .i64 awheperto9, .int .i64 awheperday10, .list awhetexn11 awhetex12, .list acomn13 acom14, .int .i64 amin15, .int .i64 amax17, .int .i64 acha18, .int .i64 aref19, .list apern20 aper21], .int .i64 b22, .int .i64 c23] =
 bif (decide (b22 < 0)) then
 (some (.int .i64 12))
 else
 (bif (decide (b22 ≥ 36525)) then
 (some (.int .i64 12))
 else
 (bif (decide (c23 < 0)) then
 (some (.int .i64 12))
 else
 (bif (decide (c23 ≥ 36525)) then
 (some (.int .i64 12))
 else
 (bif (decide ((IntKind.wrap .i64 (c23 - b22)) < amin15)) then
 (some (.int .i64 24))
 else
 (bif (decide (amax17 > 0)) then
 (bif (decide ((IntKind.wrap .i64 (c23 - b22)) > amax17)) then
 (some (.int .i64 24))
 else
 (some (.int .i64 0)))
 else
 (some (.int .i64 0))))))) := by kernel_rfl

/-! airline/airlineref21.Stay -/
theorem r21_Stay_eq (lb : Nat) (n : Nat) (anum1 : Int) (awhekin2 : Int) (awheln3 : Bool) (awhel4 : List (List CV)) (awhea5 : Int) (awheb6 : Int) (awheperfro7 : Int) (awheperto9 : Int) (awheperday10 : Int) (awhetexn11 : Bool) (awhetex12 : List (List CV)) (acomn13 : Bool) (acom14 : List (List CV)) (amin15 : Int) (amax17 : Int) (acha18 : Int) (aref19 : Int) (apern20 : Bool) (aper21 : List (List CV)) (b22 : Int) (c23 : Int) :
  top lb n F_r21_Stay [.agg [.int .i64 anum1, .int .i64 awhekin2, .list awheln3 awhel4, .int .i64 awhea5, .int .i64 awheb6, .int .i64 awheperfro7, .int .i64 awheperto9, .int .i64 awheperday10, .list awhetexn11 awhetex12, .list acomn13 acom14, .int .i64 amin15, .int .i64 amax17, .int .i64 acha18, .int .i64 aref19, .list apern20 aper21], .int .i64 b22, .int .i64 c23] =
 bif (decide (b22 < 0)) then
 (some (.int .i64 12))
 else
 (bif (decide (b22 ≥ 36525)) then
 (some (.int .i64 12))
 else
 (bif (decide (c23 < 0)) then
 (some (.int .i64 12))
 else
 (bif (decide (c23 ≥ 36525)) then
 (some (.int .i64 12))
 else
 (bif (decide ((IntKind.wrap .i64 (c23 - b22)) < amin15)) then
 (some (.int .i64 24))
 else
 (bif (decide (amax17 > 0)) then
 (bif (decide ((IntKind.wrap .i64 (c23 - b22)) > amax17)) then
 (some (.int .i64 24))
 else
 (some (.int .i64 0)))
 else
 (some (.int .i64 0))))))) := by kernel_rfl

/-! airline/rule.Allows -/
theorem rule_Allows_eq (lb : Nat) (n : Nat) (anum1 : Int) (awhekin2 : Int) (awheln3 : Bool) (awhel4 : List (List CV)) (awhea5 : Int) (awheb6 : Int) (awheperfro7 : Int) (awheperto9 : Int) (awheperday10 : Int) (awhetexn11 : Bool) (awhetex12 : List (List CV)) (acomn13 : Bool) (acom14 : List (List CV)) (amin15 : Int) (amax17 : Int) (acha18 : Int) (aref19 : Int) (apern20 : Bool) (aper21 : List (List CV)) (btyp22 : List UInt8) (bsal23 : Int) (bday24 : Int) (bmin25 : Int) (bsto26 : Int) (btra27 : Int) (bcarn28 : Bool) (bcar29 : List (List CV)) (bnumn30 : Bool) (bnum31 : List (List CV)) (bvian33 : Bool) (bvia34 : List (List CV)) :
  top lb n F_rule_Allows [.agg [.int .i64 anum1, .int .i64 awhekin2, .list awheln3 awhel4, .int .i64 awhea5, .int .i64 awheb6, .int .i64 awheperfro7, .int .i64 awheperto9, .int .i64 awheperday10, .list awhetexn11 awhetex12, .list acomn13 acom14, .int .i64 amin15, .int .i64 amax17, .int .i64 acha18, .int .i64 aref19, .list apern20 aper21], .agg [.str btyp22, .int .i64 bsal23, .int .i64 bday24, .int .i64 bmin25, .int .i64 bsto26, .int .i64 btra27, .list bcarn28 bcar29, .list bnumn30 bnum31, .list bvian33 bvia34]] =
 optO (C lb n F_cond_Holds [.agg [.int .i64 awhekin2, .list awheln3 awhel4, .int .i64 awhea5, .int .i64 awheb6, .int .i64 awheperfro7, .int .i64 awheperto9, .int .i64 awheperday10, .list awhetexn11 awhetex12], .agg [.str btyp22, .int .i64 bsal23, .int .i64 bday24, .int .i64 bmin25, .int .i64 bsto26, .int .i64 btra27, .list bcarn28 bcar29, .list bnumn30 bnum31, .list bvian33 bvia34]]) fun r35 =>
 optO (CV.asB r35) fun b36 =>
 bif b36 then
 (some (.int .i64 0))
 else
 (some (.int .i64 20)) := by kernel_rfl

/-! airline/airlineref21.Allows -/
theorem r21_Allows_eq (lb : Nat) (n : Nat) (anum1 : Int) (awhekin2 : Int) (awheln3 : Bool) (awhel4 : List (List CV)) (awhea5 : Int) (awheb6 : Int) (awheperfro7 : Int) (awheperto9 : Int) (awheperday10 : Int) (awhetexn11 : Bool) (awhetex12 : List (List CV)) (acomn13 : Bool) (acom14 : List (List CV)) (amin15 : Int) (amax17 : Int) (acha18 : Int) (aref19 : Int) (apern20 : Bool) (aper21 : List (List CV)) (btyp22 : List UInt8) (bsal23 : Int) (bday24 : Int) (bmin25 : Int) (bsto26 : Int) (btra27 : Int) (bcarn28 : Bool) (bcar29 : List (List CV)) (bnumn30 : Bool) (bnum31 : List (List CV)) (bvian33 : Bool) (bvia34 : List (List CV)) :
  top lb n F_r21_Allows [.agg [.int .i64 anum1, .int .i64 awhekin2, .list awheln3 awhel4, .int .i64 awhea5, .int .i64 awheb6, .int .i64 awheperfro7, .int .i64 awheperto9, .int .i64 awheperday10, .list awhetexn11 awhetex12, .list acomn13 acom14, .int .i64 amin15, .int .i64 amax17, .int .i64 acha18, .int .i64 aref19, .list apern20 aper21], .agg [.str btyp22, .int .i64 bsal23, .int .i64 bday24, .int .i64 bmin25, .int .i64 bsto26, .int .i64 btra27, .list bcarn28 bcar29, .list bnumn30 bnum31, .list bvian33 bvia34]] =
 optO (C lb n F_r20_Holds [.agg [.int .i64 awhekin2, .list awheln3 awhel4, .int .i64 awhea5, .int .i64 awheb6, .int .i64 awheperfro7, .int .i64 awheperto9, .int .i64 awheperday10, .list awhetexn11 awhetex12], .agg [.str btyp22, .int .i64 bsal23, .int .i64 bday24, .int .i64 bmin25, .int .i64 bsto26, .int .i64 btra27, .list bcarn28 bcar29, .list bnumn30 bnum31, .list bvian33 bvia34]]) fun r35 =>
 optO (CV.asB r35) fun b36 =>
 bif b36 then
 (some (.int .i64 0))
 else
 (some (.int .i64 20)) := by kernel_rfl

/-! airline/airlineref21.Check -/
noncomputable def r21_Check_J1 (lb : Nat) (n : Nat) (anum1 : Int) (awhekin2 : Int) (awheln3 : Bool) (awhel4 : List (List CV)) (awhea5 : Int) (awheb6 : Int) (awheperfro7 : Int) (awheperto9 : Int) (awheperday10 : Int) (awhetexn11 : Bool) (awhetex12 : List (List CV)) (acomn13 : Bool) (acom14 : List (List CV)) (amin15 : Int) (amax17 : Int) (acha18 : Int) (aref19 : Int) (apern20 : Bool) (aper21 : List (List CV)) (b22 : Bool) (l23 : List (List CV)) : Option CV :=
  hold (E0 lb n 0 997 (sub (B F_r21_Check) [1, 1, 1]) (retK Tryz.prog (R F_r21_Check) 0 (outK (tightF Tryz.prog F_r21_Check))) ⟨fr 95 [(0, .val (.agg [.int .i64 anum1, .int .i64 awhekin2, .list awheln3 awhel4, .int .i64 awhea5, .int .i64 awheb6, .int .i64 awheperfro7, .int .i64 awheperto9, .int .i64 awheperday10, .list awhetexn11 awhetex12, .list acomn13 acom14, .int .i64 amin15, .int .i64 amax17, .int .i64 acha18, .int .i64 aref19, .list apern20 aper21])), (1, .ptr 0 1 0), (2, .lst true true 57 []), (3, .lst true b22 57 l23)], [bx 95 [(1, some [.val (.int .i64 anum1), .val (.int .i64 awhekin2), .val (.list awheln3 awhel4), .val (.int .i64 awhea5), .val (.int .i64 awheb6), .val (.int .i64 awheperfro7), .val (.int .i64 awheperto9), .val (.int .i64 awheperday10), .val (.list awhetexn11 awhetex12), .val (.list acomn13 acom14), .val (.int .i64 amin15), .val (.int .i64 amax17), .val (.int .i64 acha18), .val (.int .i64 aref19), .val (.list apern20 aper21)])]], KK⟩)

noncomputable def r21_Check_J2 (lb : Nat) (n : Nat) (anum1 : Int) (awhekin2 : Int) (awheln3 : Bool) (awhel4 : List (List CV)) (awhea5 : Int) (awheb6 : Int) (awheperfro7 : Int) (awheperto9 : Int) (awheperday10 : Int) (awhetexn11 : Bool) (awhetex12 : List (List CV)) (acomn13 : Bool) (acom14 : List (List CV)) (amin15 : Int) (amax17 : Int) (acha18 : Int) (aref19 : Int) (apern20 : Bool) (aper21 : List (List CV)) (r24 : CV) (b26 : Bool) (l27 : List (List CV)) : Option CV :=
  hold (E0 lb n 0 995 (sub (B F_r21_Check) [1, 1, 1, 1, 1]) (retK Tryz.prog (R F_r21_Check) 0 (outK (tightF Tryz.prog F_r21_Check))) ⟨fr 95 [(0, .val (.agg [.int .i64 anum1, .int .i64 awhekin2, .list awheln3 awhel4, .int .i64 awhea5, .int .i64 awheb6, .int .i64 awheperfro7, .int .i64 awheperto9, .int .i64 awheperday10, .list awhetexn11 awhetex12, .list acomn13 acom14, .int .i64 amin15, .int .i64 amax17, .int .i64 acha18, .int .i64 aref19, .list apern20 aper21])), (1, .ptr 0 1 0), (2, .lst true true 57 []), (3, .lst true b26 57 l27), (4, .val r24), (17, .ptr 0 1 1), (18, .val (.agg [.int .i64 awhekin2, .list awheln3 awhel4, .int .i64 awhea5, .int .i64 awheb6, .int .i64 awheperfro7, .int .i64 awheperto9, .int .i64 awheperday10, .list awhetexn11 awhetex12])), (19, .val r24)], [bx 95 [(1, some [.val (.int .i64 anum1), .val (.int .i64 awhekin2), .val (.list awheln3 awhel4), .val (.int .i64 awhea5), .val (.int .i64 awheb6), .val (.int .i64 awheperfro7), .val (.int .i64 awheperto9), .val (.int .i64 awheperday10), .val (.list awhetexn11 awhetex12), .val (.list acomn13 acom14), .val (.int .i64 amin15), .val (.int .i64 amax17), .val (.int .i64 acha18), .val (.int .i64 aref19), .val (.list apern20 aper21)])]], KK⟩)

noncomputable def r21_Check_J3 (lb : Nat) (n : Nat) (anum1 : Int) (awhekin2 : Int) (awheln3 : Bool) (awhel4 : List (List CV)) (awhea5 : Int) (awheb6 : Int) (awheperfro7 : Int) (awheperto9 : Int) (awheperday10 : Int) (awhetexn11 : Bool) (awhetex12 : List (List CV)) (acomn13 : Bool) (acom14 : List (List CV)) (amin15 : Int) (amax17 : Int) (acha18 : Int) (aref19 : Int) (apern20 : Bool) (aper21 : List (List CV)) (r24 : CV) (b26 : Bool) (l27 : List (List CV)) (r28 : CV) (p29 : Bool × List (List CV)) (b30 : Bool) (l31 : List (List CV)) : Option CV :=
  hold (E0 lb n 0 993 (sub (B F_r21_Check) [1, 1, 1, 1, 1, 1, 1]) (retK Tryz.prog (R F_r21_Check) 0 (outK (tightF Tryz.prog F_r21_Check))) ⟨fr 95 [(0, .val (.agg [.int .i64 anum1, .int .i64 awhekin2, .list awheln3 awhel4, .int .i64 awhea5, .int .i64 awheb6, .int .i64 awheperfro7, .int .i64 awheperto9, .int .i64 awheperday10, .list awhetexn11 awhetex12, .list acomn13 acom14, .int .i64 amin15, .int .i64 amax17, .int .i64 acha18, .int .i64 aref19, .list apern20 aper21])), (1, .ptr 0 1 0), (2, .lst true true 57 []), (3, .lst true b30 57 l31), (4, .val r24), (17, .ptr 0 1 1), (18, .val (.agg [.int .i64 awhekin2, .list awheln3 awhel4, .int .i64 awhea5, .int .i64 awheb6, .int .i64 awheperfro7, .int .i64 awheperto9, .int .i64 awheperday10, .list awhetexn11 awhetex12])), (19, .val r24), (27, .val (.list b26 l27)), (28, .ptr 0 1 9), (29, .val (.list acomn13 acom14)), (30, .val r28), (31, .val (.list (b26 && p29.2.isEmpty) (l27 ++ p29.2)))], [bx 95 [(1, some [.val (.int .i64 anum1), .val (.int .i64 awhekin2), .val (.list awheln3 awhel4), .val (.int .i64 awhea5), .val (.int .i64 awheb6), .val (.int .i64 awheperfro7), .val (.int .i64 awheperto9), .val (.int .i64 awheperday10), .val (.list awhetexn11 awhetex12), .val (.list acomn13 acom14), .val (.int .i64 amin15), .val (.int .i64 amax17), .val (.int .i64 acha18), .val (.int .i64 aref19), .val (.list apern20 aper21)])]], KK⟩)

noncomputable def r21_Check_J4 (lb : Nat) (n : Nat) (anum1 : Int) (awhekin2 : Int) (awheln3 : Bool) (awhel4 : List (List CV)) (awhea5 : Int) (awheb6 : Int) (awheperfro7 : Int) (awheperto9 : Int) (awheperday10 : Int) (awhetexn11 : Bool) (awhetex12 : List (List CV)) (acomn13 : Bool) (acom14 : List (List CV)) (amin15 : Int) (amax17 : Int) (acha18 : Int) (aref19 : Int) (apern20 : Bool) (aper21 : List (List CV)) (r24 : CV) (b26 : Bool) (l27 : List (List CV)) (r28 : CV) (p29 : Bool × List (List CV)) (b33 : Bool) (l34 : List (List CV)) : Option CV :=
  hold (E0 lb n 0 992 (sub (B F_r21_Check) [1, 1, 1, 1, 1, 1, 1, 1]) (retK Tryz.prog (R F_r21_Check) 0 (outK (tightF Tryz.prog F_r21_Check))) ⟨fr 95 [(0, .val (.agg [.int .i64 anum1, .int .i64 awhekin2, .list awheln3 awhel4, .int .i64 awhea5, .int .i64 awheb6, .int .i64 awheperfro7, .int .i64 awheperto9, .int .i64 awheperday10, .list awhetexn11 awhetex12, .list acomn13 acom14, .int .i64 amin15, .int .i64 amax17, .int .i64 acha18, .int .i64 aref19, .list apern20 aper21])), (1, .ptr 0 1 0), (2, .lst true true 57 []), (3, .lst true b33 57 l34), (4, .val r24), (17, .ptr 0 1 1), (18, .val (.agg [.int .i64 awhekin2, .list awheln3 awhel4, .int .i64 awhea5, .int .i64 awheb6, .int .i64 awheperfro7, .int .i64 awheperto9, .int .i64 awheperday10, .list awhetexn11 awhetex12])), (19, .val r24), (27, .val (.list b26 l27)), (28, .ptr 0 1 9), (29, .val (.list acomn13 acom14)), (30, .val r28), (31, .val (.list (b26 && p29.2.isEmpty) (l27 ++ p29.2)))], [bx 95 [(1, some [.val (.int .i64 anum1), .val (.int .i64 awhekin2), .val (.list awheln3 awhel4), .val (.int .i64 awhea5), .val (.int .i64 awheb6), .val (.int .i64 awheperfro7), .val (.int .i64 awheperto9), .val (.int .i64 awheperday10), .val (.list awhetexn11 awhetex12), .val (.list acomn13 acom14), .val (.int .i64 amin15), .val (.int .i64 amax17), .val (.int .i64 acha18), .val (.int .i64 aref19), .val (.list apern20 aper21)])]], KK⟩)

theorem r21_Check_J4_eq (lb : Nat) (n : Nat) (anum1 : Int) (awhekin2 : Int) (awheln3 : Bool) (awhel4 : List (List CV)) (awhea5 : Int) (awheb6 : Int) (awheperfro7 : Int) (awheperto9 : Int) (awheperday10 : Int) (awhetexn11 : Bool) (awhetex12 : List (List CV)) (acomn13 : Bool) (acom14 : List (List CV)) (amin15 : Int) (amax17 : Int) (acha18 : Int) (aref19 : Int) (apern20 : Bool) (aper21 : List (List CV)) (r24 : CV) (b26 : Bool) (l27 : List (List CV)) (r28 : CV) (p29 : Bool × List (List CV)) (b33 : Bool) (l34 : List (List CV)) :
  r21_Check_J4 lb n anum1 awhekin2 awheln3 awhel4 awhea5 awheb6 awheperfro7 awheperto9 awheperday10 awhetexn11 awhetex12 acomn13 acom14 amin15 amax17 acha18 aref19 apern20 aper21 r24 b26 l27 r28 p29 b33 l34 =
 bif (decide (acha18 < (-1))) then
 (chkO (room (l34.length + 1) 24) (
 optO (C lb n F_r21_percents [.list apern20 aper21]) fun r35 =>
 optO (CV.asL r35) fun p36 =>
 chkO (p36.2.all (·.length == 2)) (
 chkO (room ((l34 ++ [[CV.int .i64 2, CV.str [102, 101, 101, 115]]]).length + p36.2.length) 24) (
 some (.list ((b33 && false) && p36.2.isEmpty) ((l34 ++ [[CV.int .i64 2, CV.str [102, 101, 101, 115]]]) ++ p36.2))))))
 else
 (bif (decide (acha18 > 1099511627776)) then
 (chkO (room (l34.length + 1) 24) (
 optO (C lb n F_r21_percents [.list apern20 aper21]) fun r37 =>
 optO (CV.asL r37) fun p38 =>
 chkO (p38.2.all (·.length == 2)) (
 chkO (room ((l34 ++ [[CV.int .i64 2, CV.str [102, 101, 101, 115]]]).length + p38.2.length) 24) (
 some (.list ((b33 && false) && p38.2.isEmpty) ((l34 ++ [[CV.int .i64 2, CV.str [102, 101, 101, 115]]]) ++ p38.2))))))
 else
 (bif (decide (aref19 < (-1))) then
 (chkO (room (l34.length + 1) 24) (
 optO (C lb n F_r21_percents [.list apern20 aper21]) fun r39 =>
 optO (CV.asL r39) fun p40 =>
 chkO (p40.2.all (·.length == 2)) (
 chkO (room ((l34 ++ [[CV.int .i64 2, CV.str [102, 101, 101, 115]]]).length + p40.2.length) 24) (
 some (.list ((b33 && false) && p40.2.isEmpty) ((l34 ++ [[CV.int .i64 2, CV.str [102, 101, 101, 115]]]) ++ p40.2))))))
 else
 (bif (decide (aref19 > 1099511627776)) then
 (chkO (room (l34.length + 1) 24) (
 optO (C lb n F_r21_percents [.list apern20 aper21]) fun r41 =>
 optO (CV.asL r41) fun p42 =>
 chkO (p42.2.all (·.length == 2)) (
 chkO (room ((l34 ++ [[CV.int .i64 2, CV.str [102, 101, 101, 115]]]).length + p42.2.length) 24) (
 some (.list ((b33 && false) && p42.2.isEmpty) ((l34 ++ [[CV.int .i64 2, CV.str [102, 101, 101, 115]]]) ++ p42.2))))))
 else
 (optO (C lb n F_r21_percents [.list apern20 aper21]) fun r43 =>
 optO (CV.asL r43) fun p44 =>
 chkO (p44.2.all (·.length == 2)) (
 chkO (room (l34.length + p44.2.length) 24) (
 some (.list (b33 && p44.2.isEmpty) (l34 ++ p44.2)))))))) := (hold_eq _).trans (by kernel_rfl)

theorem r21_Check_J3_eq (lb : Nat) (n : Nat) (anum1 : Int) (awhekin2 : Int) (awheln3 : Bool) (awhel4 : List (List CV)) (awhea5 : Int) (awheb6 : Int) (awheperfro7 : Int) (awheperto9 : Int) (awheperday10 : Int) (awhetexn11 : Bool) (awhetex12 : List (List CV)) (acomn13 : Bool) (acom14 : List (List CV)) (amin15 : Int) (amax17 : Int) (acha18 : Int) (aref19 : Int) (apern20 : Bool) (aper21 : List (List CV)) (r24 : CV) (b26 : Bool) (l27 : List (List CV)) (r28 : CV) (p29 : Bool × List (List CV)) (b30 : Bool) (l31 : List (List CV)) :
  r21_Check_J3 lb n anum1 awhekin2 awheln3 awhel4 awhea5 awheb6 awheperfro7 awheperto9 awheperday10 awhetexn11 awhetex12 acomn13 acom14 amin15 amax17 acha18 aref19 apern20 aper21 r24 b26 l27 r28 p29 b30 l31 =
 bif (decide (amax17 > 0)) then
 (bif (decide (amax17 < amin15)) then
 (chkO (room (l31.length + 1) 24) (
 r21_Check_J4 lb n anum1 awhekin2 awheln3 awhel4 awhea5 awheb6 awheperfro7 awheperto9 awheperday10 awhetexn11 awhetex12 acomn13 acom14 amin15 amax17 acha18 aref19 apern20 aper21 r24 b26 l27 r28 p29 (b30 && false) (l31 ++ [[CV.int .i64 24, CV.str [115, 116, 97, 121]]])))
 else
 (r21_Check_J4 lb n anum1 awhekin2 awheln3 awhel4 awhea5 awheb6 awheperfro7 awheperto9 awheperday10 awhetexn11 awhetex12 acomn13 acom14 amin15 amax17 acha18 aref19 apern20 aper21 r24 b26 l27 r28 p29 b30 l31))
 else
 (r21_Check_J4 lb n anum1 awhekin2 awheln3 awhel4 awhea5 awheb6 awheperfro7 awheperto9 awheperday10 awhetexn11 awhetex12 acomn13 acom14 amin15 amax17 acha18 aref19 apern20 aper21 r24 b26 l27 r28 p29 b30 l31) := (hold_eq _).trans (by kernel_rfl)

theorem r21_Check_J2_eq (lb : Nat) (n : Nat) (anum1 : Int) (awhekin2 : Int) (awheln3 : Bool) (awhel4 : List (List CV)) (awhea5 : Int) (awheb6 : Int) (awheperfro7 : Int) (awheperto9 : Int) (awheperday10 : Int) (awhetexn11 : Bool) (awhetex12 : List (List CV)) (acomn13 : Bool) (acom14 : List (List CV)) (amin15 : Int) (amax17 : Int) (acha18 : Int) (aref19 : Int) (apern20 : Bool) (aper21 : List (List CV)) (r24 : CV) (b26 : Bool) (l27 : List (List CV)) :
  r21_Check_J2 lb n anum1 awhekin2 awheln3 awhel4 awhea5 awheb6 awheperfro7 awheperto9 awheperday10 awhetexn11 awhetex12 acomn13 acom14 amin15 amax17 acha18 aref19 apern20 aper21 r24 b26 l27 =
 optO (C lb n F_r21_list [.list acomn13 acom14]) fun r28 =>
 optO (CV.asL r28) fun p29 =>
 chkO (p29.2.all (·.length == 2)) (
 chkO (room (l27.length + p29.2.length) 24) (
 bif (decide (amin15 < 0)) then
 (chkO (room ((l27 ++ p29.2).length + 1) 24) (
 r21_Check_J3 lb n anum1 awhekin2 awheln3 awhel4 awhea5 awheb6 awheperfro7 awheperto9 awheperday10 awhetexn11 awhetex12 acomn13 acom14 amin15 amax17 acha18 aref19 apern20 aper21 r24 b26 l27 r28 p29 ((b26 && p29.2.isEmpty) && false) ((l27 ++ p29.2) ++ [[CV.int .i64 2, CV.str [115, 116, 97, 121]]])))
 else
 (bif (decide (amin15 > 400)) then
 (chkO (room ((l27 ++ p29.2).length + 1) 24) (
 r21_Check_J3 lb n anum1 awhekin2 awheln3 awhel4 awhea5 awheb6 awheperfro7 awheperto9 awheperday10 awhetexn11 awhetex12 acomn13 acom14 amin15 amax17 acha18 aref19 apern20 aper21 r24 b26 l27 r28 p29 ((b26 && p29.2.isEmpty) && false) ((l27 ++ p29.2) ++ [[CV.int .i64 2, CV.str [115, 116, 97, 121]]])))
 else
 (bif (decide (amax17 < 0)) then
 (chkO (room ((l27 ++ p29.2).length + 1) 24) (
 r21_Check_J3 lb n anum1 awhekin2 awheln3 awhel4 awhea5 awheb6 awheperfro7 awheperto9 awheperday10 awhetexn11 awhetex12 acomn13 acom14 amin15 amax17 acha18 aref19 apern20 aper21 r24 b26 l27 r28 p29 ((b26 && p29.2.isEmpty) && false) ((l27 ++ p29.2) ++ [[CV.int .i64 2, CV.str [115, 116, 97, 121]]])))
 else
 (bif (decide (amax17 > 400)) then
 (chkO (room ((l27 ++ p29.2).length + 1) 24) (
 r21_Check_J3 lb n anum1 awhekin2 awheln3 awhel4 awhea5 awheb6 awheperfro7 awheperto9 awheperday10 awhetexn11 awhetex12 acomn13 acom14 amin15 amax17 acha18 aref19 apern20 aper21 r24 b26 l27 r28 p29 ((b26 && p29.2.isEmpty) && false) ((l27 ++ p29.2) ++ [[CV.int .i64 2, CV.str [115, 116, 97, 121]]])))
 else
 (r21_Check_J3 lb n anum1 awhekin2 awheln3 awhel4 awhea5 awheb6 awheperfro7 awheperto9 awheperday10 awhetexn11 awhetex12 acomn13 acom14 amin15 amax17 acha18 aref19 apern20 aper21 r24 b26 l27 r28 p29 (b26 && p29.2.isEmpty) (l27 ++ p29.2))))))) := (hold_eq _).trans (by kernel_rfl)

theorem r21_Check_J1_eq (lb : Nat) (n : Nat) (anum1 : Int) (awhekin2 : Int) (awheln3 : Bool) (awhel4 : List (List CV)) (awhea5 : Int) (awheb6 : Int) (awheperfro7 : Int) (awheperto9 : Int) (awheperday10 : Int) (awhetexn11 : Bool) (awhetex12 : List (List CV)) (acomn13 : Bool) (acom14 : List (List CV)) (amin15 : Int) (amax17 : Int) (acha18 : Int) (aref19 : Int) (apern20 : Bool) (aper21 : List (List CV)) (b22 : Bool) (l23 : List (List CV)) :
  r21_Check_J1 lb n anum1 awhekin2 awheln3 awhel4 awhea5 awheb6 awheperfro7 awheperto9 awheperday10 awhetexn11 awhetex12 acomn13 acom14 amin15 amax17 acha18 aref19 apern20 aper21 b22 l23 =
 optO (C lb n F_r20_Check [.agg [.int .i64 awhekin2, .list awheln3 awhel4, .int .i64 awhea5, .int .i64 awheb6, .int .i64 awheperfro7, .int .i64 awheperto9, .int .i64 awheperday10, .list awhetexn11 awhetex12]]) fun r24 =>
 optO (CV.asI .i64 r24) fun i25 =>
 bif (i25 != 0) then
 (chkO (CV.isCell r24) (
 chkO (room (l23.length + 1) 24) (
 r21_Check_J2 lb n anum1 awhekin2 awheln3 awhel4 awhea5 awheb6 awheperfro7 awheperto9 awheperday10 awhetexn11 awhetex12 acomn13 acom14 amin15 amax17 acha18 aref19 apern20 aper21 r24 (b22 && false) (l23 ++ [[r24, CV.str [119, 104, 101, 110]]]))))
 else
 (r21_Check_J2 lb n anum1 awhekin2 awheln3 awhel4 awhea5 awheb6 awheperfro7 awheperto9 awheperday10 awhetexn11 awhetex12 acomn13 acom14 amin15 amax17 acha18 aref19 apern20 aper21 r24 b22 l23) := (hold_eq _).trans (by kernel_rfl)

theorem r21_Check_eq (lb : Nat) (n : Nat) (anum1 : Int) (awhekin2 : Int) (awheln3 : Bool) (awhel4 : List (List CV)) (awhea5 : Int) (awheb6 : Int) (awheperfro7 : Int) (awheperto9 : Int) (awheperday10 : Int) (awhetexn11 : Bool) (awhetex12 : List (List CV)) (acomn13 : Bool) (acom14 : List (List CV)) (amin15 : Int) (amax17 : Int) (acha18 : Int) (aref19 : Int) (apern20 : Bool) (aper21 : List (List CV)) :
  top lb n F_r21_Check [.agg [.int .i64 anum1, .int .i64 awhekin2, .list awheln3 awhel4, .int .i64 awhea5, .int .i64 awheb6, .int .i64 awheperfro7, .int .i64 awheperto9, .int .i64 awheperday10, .list awhetexn11 awhetex12, .list acomn13 acom14, .int .i64 amin15, .int .i64 amax17, .int .i64 acha18, .int .i64 aref19, .list apern20 aper21]] =
 bif (decide (anum1 < 1)) then
 (r21_Check_J1 lb n anum1 awhekin2 awheln3 awhel4 awhea5 awheb6 awheperfro7 awheperto9 awheperday10 awhetexn11 awhetex12 acomn13 acom14 amin15 amax17 acha18 aref19 apern20 aper21 false [[CV.int .i64 2, CV.str [110, 117, 109, 98, 101, 114]]])
 else
 (bif (decide (anum1 > 9999)) then
 (r21_Check_J1 lb n anum1 awhekin2 awheln3 awhel4 awhea5 awheb6 awheperfro7 awheperto9 awheperday10 awhetexn11 awhetex12 acomn13 acom14 amin15 amax17 acha18 aref19 apern20 aper21 false [[CV.int .i64 2, CV.str [110, 117, 109, 98, 101, 114]]])
 else
 (r21_Check_J1 lb n anum1 awhekin2 awheln3 awhel4 awhea5 awheb6 awheperfro7 awheperto9 awheperday10 awhetexn11 awhetex12 acomn13 acom14 amin15 amax17 acha18 aref19 apern20 aper21 true [])) := by kernel_rfl

/-! airline/airlineref21.list -/
noncomputable def r21_list_L1 (lb : Nat) (n : Nat) (k51 : Nat) (an1 : Bool) (a2 : List (List CV)) (b19 : Bool) (l20 : List (List CV)) (i21 : Int) : Option CV :=
  hold (loopC (E0 lb n 0 994) 0 (loopTemps (sub (B F_r21_list) [1, 1, 0, 1, 0, 0]) ++ [5, 6, 7, 6, 7]) [] (sub (B F_r21_list) [1, 1, 0, 1, 0, 0]) (blockK 0 (seqK (E0 lb n 0 997) (sub (B F_r21_list) [1, 1, 0]) (sub (B F_r21_list) [1, 1, 1]) (retK Tryz.prog (R F_r21_list) 0 (outK (tightF Tryz.prog F_r21_list))))) k51 ⟨fr 58 [(0, .val (.list an1 a2)), (2, .lst true true 57 []), (3, .lst true b19 57 l20), (4, .val (.int .i64 i21))], [bx 58 []], KK⟩)

noncomputable def r21_list_L2 (lb : Nat) (n : Nat) (k69 : Nat) (k51 : Nat) (an1 : Bool) (a2 : List (List CV)) (b19 : Bool) (l20 : List (List CV)) (i21 : Int) (s53 : List UInt8) (r52 : CV) (b60 : Bool) (i61 : Int) : Option CV :=
  hold (loopC (E0 lb n 0 986) 0 (loopTemps (sub (B F_r21_list) [1, 1, 0, 1, 0, 0, 1, 0, 0, 1, 0, 1, 0, 0]) ++ []) [] (sub (B F_r21_list) [1, 1, 0, 1, 0, 0, 1, 0, 0, 1, 0, 1, 0, 0]) (blockK 2 (seqK (E0 lb n 0 989) (sub (B F_r21_list) [1, 1, 0, 1, 0, 0, 1, 0, 0, 1, 0]) (sub (B F_r21_list) [1, 1, 0, 1, 0, 0, 1, 0, 0, 1, 1]) (blockK 1 (seqK (E0 lb n 0 992) (sub (B F_r21_list) [1, 1, 0, 1, 0, 0, 1, 0]) (sub (B F_r21_list) [1, 1, 0, 1, 0, 0, 1, 1]) (loopK 0 (loopTemps (sub (B F_r21_list) [1, 1, 0, 1, 0, 0]) ++ [5, 6, 7, 6, 7]) [] (loopC (E0 lb n 0 994) 0 (loopTemps (sub (B F_r21_list) [1, 1, 0, 1, 0, 0]) ++ [5, 6, 7, 6, 7]) [] (sub (B F_r21_list) [1, 1, 0, 1, 0, 0]) (blockK 0 (seqK (E0 lb n 0 997) (sub (B F_r21_list) [1, 1, 0]) (sub (B F_r21_list) [1, 1, 1]) (retK Tryz.prog (R F_r21_list) 0 (outK (tightF Tryz.prog F_r21_list))))) k51) (blockK 0 (seqK (E0 lb n 0 997) (sub (B F_r21_list) [1, 1, 0]) (sub (B F_r21_list) [1, 1, 1]) (retK Tryz.prog (R F_r21_list) 0 (outK (tightF Tryz.prog F_r21_list)))))))))) k69 ⟨fr 58 [(0, .val (.list an1 a2)), (2, .lst true true 57 []), (3, .lst true b19 57 l20), (4, .val (.int .i64 i21)), (5, .val (.str (([99, 111, 109, 98, 105, 110, 101, 32] : List UInt8) ++ s53))), (6, .val (.bool b60)), (7, .val (.int .i64 i61)), (14, .val (.int .i64 i21)), (15, .val r52), (16, .val (.str (([99, 111, 109, 98, 105, 110, 101, 32] : List UInt8) ++ s53)))], [bx 58 []], KK⟩)

noncomputable def r21_list_J3 (lb : Nat) (n : Nat) (k51 : Nat) (an1 : Bool) (a2 : List (List CV)) (b19 : Bool) (l20 : List (List CV)) (i21 : Int) (s53 : List UInt8) (r52 : CV) (b76 : Bool) (i77 : Int) : Option CV :=
  hold (E0 lb n 0 989 (sub (B F_r21_list) [1, 1, 0, 1, 0, 0, 1, 0, 0, 1, 1]) (blockK 1 (seqK (E0 lb n 0 992) (sub (B F_r21_list) [1, 1, 0, 1, 0, 0, 1, 0]) (sub (B F_r21_list) [1, 1, 0, 1, 0, 0, 1, 1]) (loopK 0 (loopTemps (sub (B F_r21_list) [1, 1, 0, 1, 0, 0]) ++ [5, 6, 7, 6, 7]) [] (loopC (E0 lb n 0 994) 0 (loopTemps (sub (B F_r21_list) [1, 1, 0, 1, 0, 0]) ++ [5, 6, 7, 6, 7]) [] (sub (B F_r21_list) [1, 1, 0, 1, 0, 0]) (blockK 0 (seqK (E0 lb n 0 997) (sub (B F_r21_list) [1, 1, 0]) (sub (B F_r21_list) [1, 1, 1]) (retK Tryz.prog (R F_r21_list) 0 (outK (tightF Tryz.prog F_r21_list))))) k51) (blockK 0 (seqK (E0 lb n 0 997) (sub (B F_r21_list) [1, 1, 0]) (sub (B F_r21_list) [1, 1, 1]) (retK Tryz.prog (R F_r21_list) 0 (outK (tightF Tryz.prog F_r21_list)))))))) ⟨fr 58 [(0, .val (.list an1 a2)), (2, .lst true true 57 []), (3, .lst true b19 57 l20), (4, .val (.int .i64 i21)), (5, .val (.str (([99, 111, 109, 98, 105, 110, 101, 32] : List UInt8) ++ s53))), (6, .val (.bool b76)), (7, .val (.int .i64 i77)), (14, .val (.int .i64 i21)), (15, .val r52), (16, .val (.str (([99, 111, 109, 98, 105, 110, 101, 32] : List UInt8) ++ s53)))], [bx 58 []], KK⟩)

noncomputable def r21_list_J4 (lb : Nat) (n : Nat) (k51 : Nat) (an1 : Bool) (a2 : List (List CV)) (i21 : Int) (b81 : Bool) (l82 : List (List CV)) (s83 : List UInt8) (b84 : Bool) (i85 : Int) : Option CV :=
  hold (E0 lb n 0 992 (sub (B F_r21_list) [1, 1, 0, 1, 0, 0, 1, 1]) (loopK 0 (loopTemps (sub (B F_r21_list) [1, 1, 0, 1, 0, 0]) ++ [5, 6, 7, 6, 7]) [] (loopC (E0 lb n 0 994) 0 (loopTemps (sub (B F_r21_list) [1, 1, 0, 1, 0, 0]) ++ [5, 6, 7, 6, 7]) [] (sub (B F_r21_list) [1, 1, 0, 1, 0, 0]) (blockK 0 (seqK (E0 lb n 0 997) (sub (B F_r21_list) [1, 1, 0]) (sub (B F_r21_list) [1, 1, 1]) (retK Tryz.prog (R F_r21_list) 0 (outK (tightF Tryz.prog F_r21_list))))) k51) (blockK 0 (seqK (E0 lb n 0 997) (sub (B F_r21_list) [1, 1, 0]) (sub (B F_r21_list) [1, 1, 1]) (retK Tryz.prog (R F_r21_list) 0 (outK (tightF Tryz.prog F_r21_list)))))) ⟨fr 58 [(0, .val (.list an1 a2)), (2, .lst true true 57 []), (3, .lst true b81 57 l82), (4, .val (.int .i64 i21)), (5, .val (.str s83)), (6, .val (.bool b84)), (7, .val (.int .i64 i85))], [bx 58 []], KK⟩)

theorem r21_list_J4_eq (lb : Nat) (n : Nat) (k51 : Nat) (an1 : Bool) (a2 : List (List CV)) (i21 : Int) (b81 : Bool) (l82 : List (List CV)) (s83 : List UInt8) (b84 : Bool) (i85 : Int) :
  r21_list_J4 lb n k51 an1 a2 i21 b81 l82 s83 b84 i85 =
 r21_list_L1 lb n k51 an1 a2 b81 l82 (IntKind.wrap .i64 (i21 + 1)) := (hold_eq _).trans (by kernel_rfl)

theorem r21_list_J3_eq (lb : Nat) (n : Nat) (k51 : Nat) (an1 : Bool) (a2 : List (List CV)) (b19 : Bool) (l20 : List (List CV)) (i21 : Int) (s53 : List UInt8) (r52 : CV) (b76 : Bool) (i77 : Int) :
  r21_list_J3 lb n k51 an1 a2 b19 l20 i21 s53 r52 b76 i77 =
 optO (atL a2 i21) fun c78 =>
 chkO (c78.length == 1) (
 optO (c78[0]?) fun x79 =>
 optO (CV.asI .i64 x79) fun i80 =>
 bif (decide (i80 < 1)) then
 (chkO (room (l20.length + 1) 24) (
 bif b76 then
 (chkO (room ((l20 ++ [[CV.int .i64 2, CV.str (([99, 111, 109, 98, 105, 110, 101, 32] : List UInt8) ++ s53)]]).length + 1) 24) (
 r21_list_J4 lb n k51 an1 a2 i21 ((b19 && false) && false) ((l20 ++ [[CV.int .i64 2, CV.str (([99, 111, 109, 98, 105, 110, 101, 32] : List UInt8) ++ s53)]]) ++ [[CV.int .i64 6, CV.str (([99, 111, 109, 98, 105, 110, 101, 32] : List UInt8) ++ s53)]]) (([99, 111, 109, 98, 105, 110, 101, 32] : List UInt8) ++ s53) b76 i77))
 else
 (r21_list_J4 lb n k51 an1 a2 i21 (b19 && false) (l20 ++ [[CV.int .i64 2, CV.str (([99, 111, 109, 98, 105, 110, 101, 32] : List UInt8) ++ s53)]]) (([99, 111, 109, 98, 105, 110, 101, 32] : List UInt8) ++ s53) b76 i77)))
 else
 (optO (atL a2 i21) fun c86 =>
 chkO (c86.length == 1) (
 optO (c86[0]?) fun x87 =>
 optO (CV.asI .i64 x87) fun i88 =>
 bif (decide (i88 > 9999)) then
 (chkO (room (l20.length + 1) 24) (
 bif b76 then
 (chkO (room ((l20 ++ [[CV.int .i64 2, CV.str (([99, 111, 109, 98, 105, 110, 101, 32] : List UInt8) ++ s53)]]).length + 1) 24) (
 r21_list_J4 lb n k51 an1 a2 i21 ((b19 && false) && false) ((l20 ++ [[CV.int .i64 2, CV.str (([99, 111, 109, 98, 105, 110, 101, 32] : List UInt8) ++ s53)]]) ++ [[CV.int .i64 6, CV.str (([99, 111, 109, 98, 105, 110, 101, 32] : List UInt8) ++ s53)]]) (([99, 111, 109, 98, 105, 110, 101, 32] : List UInt8) ++ s53) b76 i77))
 else
 (r21_list_J4 lb n k51 an1 a2 i21 (b19 && false) (l20 ++ [[CV.int .i64 2, CV.str (([99, 111, 109, 98, 105, 110, 101, 32] : List UInt8) ++ s53)]]) (([99, 111, 109, 98, 105, 110, 101, 32] : List UInt8) ++ s53) b76 i77)))
 else
 (bif b76 then
 (chkO (room (l20.length + 1) 24) (
 r21_list_J4 lb n k51 an1 a2 i21 (b19 && false) (l20 ++ [[CV.int .i64 6, CV.str (([99, 111, 109, 98, 105, 110, 101, 32] : List UInt8) ++ s53)]]) (([99, 111, 109, 98, 105, 110, 101, 32] : List UInt8) ++ s53) b76 i77))
 else
 (r21_list_J4 lb n k51 an1 a2 i21 b19 l20 (([99, 111, 109, 98, 105, 110, 101, 32] : List UInt8) ++ s53) b76 i77))))) := (hold_eq _).trans (by kernel_rfl)

theorem r21_list_L2_succ (lb : Nat) (n k69 : Nat) (k51 : Nat) (an1 : Bool) (a2 : List (List CV)) (b19 : Bool) (l20 : List (List CV)) (i21 : Int) (s53 : List UInt8) (r52 : CV) (b60 : Bool) (i61 : Int) :
  r21_list_L2 lb n (k69 + 1) k51 an1 a2 b19 l20 i21 s53 r52 b60 i61 =
 bif (decide (i61 < i21)) then
 (bif b60 then
 (r21_list_L2 lb n k69 k51 an1 a2 b19 l20 i21 s53 r52 true (IntKind.wrap .i64 (i61 + 1)))
 else
 (optO (atL a2 i61) fun c70 =>
 chkO (c70.length == 1) (
 optO (c70[0]?) fun x71 =>
 optO (atL a2 i21) fun c72 =>
 chkO (c72.length == 1) (
 optO (c72[0]?) fun x73 =>
 optO (CV.asI .i64 x71) fun i74 =>
 optO (CV.asI .i64 x73) fun i75 =>
 r21_list_L2 lb n k69 k51 an1 a2 b19 l20 i21 s53 r52 (i74 == i75) (IntKind.wrap .i64 (i61 + 1))))))
 else
 (r21_list_J3 lb n k51 an1 a2 b19 l20 i21 s53 r52 b60 i61) := (hold_eq _).trans (by kernel_rfl)

theorem r21_list_L2_zero (lb : Nat) (n : Nat) (k51 : Nat) (an1 : Bool) (a2 : List (List CV)) (b19 : Bool) (l20 : List (List CV)) (i21 : Int) (s53 : List UInt8) (r52 : CV) (b60 : Bool) (i61 : Int) :
  r21_list_L2 lb n 0 k51 an1 a2 b19 l20 i21 s53 r52 b60 i61 =
 none := (hold_eq _).trans (by kernel_rfl)

noncomputable def r21_list_J5 (lb : Nat) (n : Nat) (an1 : Bool) (a2 : List (List CV)) (b89 : Bool) (l90 : List (List CV)) (i91 : Int) : Option CV :=
  hold (E0 lb n 0 997 (sub (B F_r21_list) [1, 1, 1]) (retK Tryz.prog (R F_r21_list) 0 (outK (tightF Tryz.prog F_r21_list))) ⟨fr 58 [(0, .val (.list an1 a2)), (2, .lst true true 57 []), (3, .lst true b89 57 l90), (4, .val (.int .i64 i91))], [bx 58 []], KK⟩)

theorem r21_list_J5_eq (lb : Nat) (n : Nat) (an1 : Bool) (a2 : List (List CV)) (b89 : Bool) (l90 : List (List CV)) (i91 : Int) :
  r21_list_J5 lb n an1 a2 b89 l90 i91 =
 some (.list b89 l90) := (hold_eq _).trans (by kernel_rfl)

theorem r21_list_L1_succ (lb : Nat) (n k51 : Nat) (an1 : Bool) (a2 : List (List CV)) (b19 : Bool) (l20 : List (List CV)) (i21 : Int) :
  r21_list_L1 lb n (k51 + 1) an1 a2 b19 l20 i21 =
 bif (decide (i21 < (a2.length : Int))) then
 (optO (C lb n F_r01_Decimal [.int .i64 i21]) fun r52 =>
 optO (CV.asS r52) fun s53 =>
 chkO (decide (([99, 111, 109, 98, 105, 110, 101, 32] : List UInt8).length + s53.length ≤ 9223372036854775807)) (
 r21_list_L2 lb n n k51 an1 a2 b19 l20 i21 s53 r52 false 0))
 else
 (r21_list_J5 lb n an1 a2 b19 l20 i21) := (hold_eq _).trans (by kernel_rfl)

theorem r21_list_L1_zero (lb : Nat) (n : Nat) (an1 : Bool) (a2 : List (List CV)) (b19 : Bool) (l20 : List (List CV)) (i21 : Int) :
  r21_list_L1 lb n 0 an1 a2 b19 l20 i21 =
 none := (hold_eq _).trans (by kernel_rfl)

theorem r21_list_eq (lb : Nat) (n : Nat) (an1 : Bool) (a2 : List (List CV)) :
  top lb n F_r21_list [.list an1 a2] =
 r21_list_L1 lb n n an1 a2 true [] 0 := by kernel_rfl

/-! airline/airlineref21.percents -/
noncomputable def r21_percents_L1 (lb : Nat) (n : Nat) (k93 : Nat) (an1 : Bool) (a2 : List (List CV)) (b39 : Bool) (l40 : List (List CV)) (i41 : Int) : Option CV :=
  hold (loopC (E0 lb n 0 994) 0 (loopTemps (sub (B F_r21_percents) [1, 1, 0, 1, 0, 0]) ++ [5, 6, 7, 6, 7]) [] (sub (B F_r21_percents) [1, 1, 0, 1, 0, 0]) (blockK 0 (seqK (E0 lb n 0 997) (sub (B F_r21_percents) [1, 1, 0]) (sub (B F_r21_percents) [1, 1, 1]) (retK Tryz.prog (R F_r21_percents) 0 (outK (tightF Tryz.prog F_r21_percents))))) k93 ⟨fr 74 [(0, .val (.list an1 a2)), (2, .lst true true 57 []), (3, .lst true b39 57 l40), (4, .val (.int .i64 i41))], [bx 74 []], KK⟩)

noncomputable def r21_percents_L2 (lb : Nat) (n : Nat) (k110 : Nat) (k93 : Nat) (an1 : Bool) (a2 : List (List CV)) (b39 : Bool) (l40 : List (List CV)) (i41 : Int) (s95 : List UInt8) (r94 : CV) (b102 : Bool) (i103 : Int) : Option CV :=
  hold (loopC (E0 lb n 0 986) 0 (loopTemps (sub (B F_r21_percents) [1, 1, 0, 1, 0, 0, 1, 0, 0, 1, 0, 1, 0, 0]) ++ []) [] (sub (B F_r21_percents) [1, 1, 0, 1, 0, 0, 1, 0, 0, 1, 0, 1, 0, 0]) (blockK 2 (seqK (E0 lb n 0 989) (sub (B F_r21_percents) [1, 1, 0, 1, 0, 0, 1, 0, 0, 1, 0]) (sub (B F_r21_percents) [1, 1, 0, 1, 0, 0, 1, 0, 0, 1, 1]) (blockK 1 (seqK (E0 lb n 0 992) (sub (B F_r21_percents) [1, 1, 0, 1, 0, 0, 1, 0]) (sub (B F_r21_percents) [1, 1, 0, 1, 0, 0, 1, 1]) (loopK 0 (loopTemps (sub (B F_r21_percents) [1, 1, 0, 1, 0, 0]) ++ [5, 6, 7, 6, 7]) [] (loopC (E0 lb n 0 994) 0 (loopTemps (sub (B F_r21_percents) [1, 1, 0, 1, 0, 0]) ++ [5, 6, 7, 6, 7]) [] (sub (B F_r21_percents) [1, 1, 0, 1, 0, 0]) (blockK 0 (seqK (E0 lb n 0 997) (sub (B F_r21_percents) [1, 1, 0]) (sub (B F_r21_percents) [1, 1, 1]) (retK Tryz.prog (R F_r21_percents) 0 (outK (tightF Tryz.prog F_r21_percents))))) k93) (blockK 0 (seqK (E0 lb n 0 997) (sub (B F_r21_percents) [1, 1, 0]) (sub (B F_r21_percents) [1, 1, 1]) (retK Tryz.prog (R F_r21_percents) 0 (outK (tightF Tryz.prog F_r21_percents)))))))))) k110 ⟨fr 74 [(0, .val (.list an1 a2)), (2, .lst true true 57 []), (3, .lst true b39 57 l40), (4, .val (.int .i64 i41)), (5, .val (.str (([112, 101, 114, 99, 101, 110, 116, 32] : List UInt8) ++ s95))), (6, .val (.bool b102)), (7, .val (.int .i64 i103)), (14, .val (.int .i64 i41)), (15, .val r94), (16, .val (.str (([112, 101, 114, 99, 101, 110, 116, 32] : List UInt8) ++ s95)))], [bx 74 []], KK⟩)

noncomputable def r21_percents_J3 (lb : Nat) (n : Nat) (k93 : Nat) (an1 : Bool) (a2 : List (List CV)) (b39 : Bool) (l40 : List (List CV)) (i41 : Int) (s95 : List UInt8) (r94 : CV) (b117 : Bool) (i118 : Int) : Option CV :=
  hold (E0 lb n 0 989 (sub (B F_r21_percents) [1, 1, 0, 1, 0, 0, 1, 0, 0, 1, 1]) (blockK 1 (seqK (E0 lb n 0 992) (sub (B F_r21_percents) [1, 1, 0, 1, 0, 0, 1, 0]) (sub (B F_r21_percents) [1, 1, 0, 1, 0, 0, 1, 1]) (loopK 0 (loopTemps (sub (B F_r21_percents) [1, 1, 0, 1, 0, 0]) ++ [5, 6, 7, 6, 7]) [] (loopC (E0 lb n 0 994) 0 (loopTemps (sub (B F_r21_percents) [1, 1, 0, 1, 0, 0]) ++ [5, 6, 7, 6, 7]) [] (sub (B F_r21_percents) [1, 1, 0, 1, 0, 0]) (blockK 0 (seqK (E0 lb n 0 997) (sub (B F_r21_percents) [1, 1, 0]) (sub (B F_r21_percents) [1, 1, 1]) (retK Tryz.prog (R F_r21_percents) 0 (outK (tightF Tryz.prog F_r21_percents))))) k93) (blockK 0 (seqK (E0 lb n 0 997) (sub (B F_r21_percents) [1, 1, 0]) (sub (B F_r21_percents) [1, 1, 1]) (retK Tryz.prog (R F_r21_percents) 0 (outK (tightF Tryz.prog F_r21_percents)))))))) ⟨fr 74 [(0, .val (.list an1 a2)), (2, .lst true true 57 []), (3, .lst true b39 57 l40), (4, .val (.int .i64 i41)), (5, .val (.str (([112, 101, 114, 99, 101, 110, 116, 32] : List UInt8) ++ s95))), (6, .val (.bool b117)), (7, .val (.int .i64 i118)), (14, .val (.int .i64 i41)), (15, .val r94), (16, .val (.str (([112, 101, 114, 99, 101, 110, 116, 32] : List UInt8) ++ s95)))], [bx 74 []], KK⟩)

noncomputable def r21_percents_J4 (lb : Nat) (n : Nat) (k93 : Nat) (an1 : Bool) (a2 : List (List CV)) (i41 : Int) (s95 : List UInt8) (b117 : Bool) (i118 : Int) (r94 : CV) (b123 : Bool) (l124 : List (List CV)) : Option CV :=
  hold (E0 lb n 0 988 (sub (B F_r21_percents) [1, 1, 0, 1, 0, 0, 1, 0, 0, 1, 1, 1]) (blockK 1 (seqK (E0 lb n 0 992) (sub (B F_r21_percents) [1, 1, 0, 1, 0, 0, 1, 0]) (sub (B F_r21_percents) [1, 1, 0, 1, 0, 0, 1, 1]) (loopK 0 (loopTemps (sub (B F_r21_percents) [1, 1, 0, 1, 0, 0]) ++ [5, 6, 7, 6, 7]) [] (loopC (E0 lb n 0 994) 0 (loopTemps (sub (B F_r21_percents) [1, 1, 0, 1, 0, 0]) ++ [5, 6, 7, 6, 7]) [] (sub (B F_r21_percents) [1, 1, 0, 1, 0, 0]) (blockK 0 (seqK (E0 lb n 0 997) (sub (B F_r21_percents) [1, 1, 0]) (sub (B F_r21_percents) [1, 1, 1]) (retK Tryz.prog (R F_r21_percents) 0 (outK (tightF Tryz.prog F_r21_percents))))) k93) (blockK 0 (seqK (E0 lb n 0 997) (sub (B F_r21_percents) [1, 1, 0]) (sub (B F_r21_percents) [1, 1, 1]) (retK Tryz.prog (R F_r21_percents) 0 (outK (tightF Tryz.prog F_r21_percents)))))))) ⟨fr 74 [(0, .val (.list an1 a2)), (2, .lst true true 57 []), (3, .lst true b123 57 l124), (4, .val (.int .i64 i41)), (5, .val (.str (([112, 101, 114, 99, 101, 110, 116, 32] : List UInt8) ++ s95))), (6, .val (.bool b117)), (7, .val (.int .i64 i118)), (14, .val (.int .i64 i41)), (15, .val r94), (16, .val (.str (([112, 101, 114, 99, 101, 110, 116, 32] : List UInt8) ++ s95)))], [bx 74 []], KK⟩)

noncomputable def r21_percents_J5 (lb : Nat) (n : Nat) (k93 : Nat) (an1 : Bool) (a2 : List (List CV)) (i41 : Int) (s95 : List UInt8) (b117 : Bool) (i118 : Int) (r94 : CV) (b125 : Bool) (l126 : List (List CV)) : Option CV :=
  hold (E0 lb n 0 987 (sub (B F_r21_percents) [1, 1, 0, 1, 0, 0, 1, 0, 0, 1, 1, 1, 1]) (blockK 1 (seqK (E0 lb n 0 992) (sub (B F_r21_percents) [1, 1, 0, 1, 0, 0, 1, 0]) (sub (B F_r21_percents) [1, 1, 0, 1, 0, 0, 1, 1]) (loopK 0 (loopTemps (sub (B F_r21_percents) [1, 1, 0, 1, 0, 0]) ++ [5, 6, 7, 6, 7]) [] (loopC (E0 lb n 0 994) 0 (loopTemps (sub (B F_r21_percents) [1, 1, 0, 1, 0, 0]) ++ [5, 6, 7, 6, 7]) [] (sub (B F_r21_percents) [1, 1, 0, 1, 0, 0]) (blockK 0 (seqK (E0 lb n 0 997) (sub (B F_r21_percents) [1, 1, 0]) (sub (B F_r21_percents) [1, 1, 1]) (retK Tryz.prog (R F_r21_percents) 0 (outK (tightF Tryz.prog F_r21_percents))))) k93) (blockK 0 (seqK (E0 lb n 0 997) (sub (B F_r21_percents) [1, 1, 0]) (sub (B F_r21_percents) [1, 1, 1]) (retK Tryz.prog (R F_r21_percents) 0 (outK (tightF Tryz.prog F_r21_percents)))))))) ⟨fr 74 [(0, .val (.list an1 a2)), (2, .lst true true 57 []), (3, .lst true b125 57 l126), (4, .val (.int .i64 i41)), (5, .val (.str (([112, 101, 114, 99, 101, 110, 116, 32] : List UInt8) ++ s95))), (6, .val (.bool b117)), (7, .val (.int .i64 i118)), (14, .val (.int .i64 i41)), (15, .val r94), (16, .val (.str (([112, 101, 114, 99, 101, 110, 116, 32] : List UInt8) ++ s95)))], [bx 74 []], KK⟩)

noncomputable def r21_percents_J6 (lb : Nat) (n : Nat) (k93 : Nat) (an1 : Bool) (a2 : List (List CV)) (i41 : Int) (b130 : Bool) (l131 : List (List CV)) (s132 : List UInt8) (b133 : Bool) (i134 : Int) : Option CV :=
  hold (E0 lb n 0 992 (sub (B F_r21_percents) [1, 1, 0, 1, 0, 0, 1, 1]) (loopK 0 (loopTemps (sub (B F_r21_percents) [1, 1, 0, 1, 0, 0]) ++ [5, 6, 7, 6, 7]) [] (loopC (E0 lb n 0 994) 0 (loopTemps (sub (B F_r21_percents) [1, 1, 0, 1, 0, 0]) ++ [5, 6, 7, 6, 7]) [] (sub (B F_r21_percents) [1, 1, 0, 1, 0, 0]) (blockK 0 (seqK (E0 lb n 0 997) (sub (B F_r21_percents) [1, 1, 0]) (sub (B F_r21_percents) [1, 1, 1]) (retK Tryz.prog (R F_r21_percents) 0 (outK (tightF Tryz.prog F_r21_percents))))) k93) (blockK 0 (seqK (E0 lb n 0 997) (sub (B F_r21_percents) [1, 1, 0]) (sub (B F_r21_percents) [1, 1, 1]) (retK Tryz.prog (R F_r21_percents) 0 (outK (tightF Tryz.prog F_r21_percents)))))) ⟨fr 74 [(0, .val (.list an1 a2)), (2, .lst true true 57 []), (3, .lst true b130 57 l131), (4, .val (.int .i64 i41)), (5, .val (.str s132)), (6, .val (.bool b133)), (7, .val (.int .i64 i134))], [bx 74 []], KK⟩)

theorem r21_percents_J6_eq (lb : Nat) (n : Nat) (k93 : Nat) (an1 : Bool) (a2 : List (List CV)) (i41 : Int) (b130 : Bool) (l131 : List (List CV)) (s132 : List UInt8) (b133 : Bool) (i134 : Int) :
  r21_percents_J6 lb n k93 an1 a2 i41 b130 l131 s132 b133 i134 =
 r21_percents_L1 lb n k93 an1 a2 b130 l131 (IntKind.wrap .i64 (i41 + 1)) := (hold_eq _).trans (by kernel_rfl)

theorem r21_percents_J5_eq (lb : Nat) (n : Nat) (k93 : Nat) (an1 : Bool) (a2 : List (List CV)) (i41 : Int) (s95 : List UInt8) (b117 : Bool) (i118 : Int) (r94 : CV) (b125 : Bool) (l126 : List (List CV)) :
  r21_percents_J5 lb n k93 an1 a2 i41 s95 b117 i118 r94 b125 l126 =
 optO (atL a2 i41) fun c127 =>
 chkO (c127.length == 2) (
 optO (c127[1]?) fun x128 =>
 optO (CV.asI .i64 x128) fun i129 =>
 bif (decide (i129 < 0)) then
 (chkO (room (l126.length + 1) 24) (
 r21_percents_J6 lb n k93 an1 a2 i41 (b125 && false) (l126 ++ [[CV.int .i64 2, CV.str (([112, 101, 114, 99, 101, 110, 116, 32] : List UInt8) ++ s95)]]) (([112, 101, 114, 99, 101, 110, 116, 32] : List UInt8) ++ s95) b117 i118))
 else
 (optO (atL a2 i41) fun c135 =>
 chkO (c135.length == 2) (
 optO (c135[1]?) fun x136 =>
 optO (CV.asI .i64 x136) fun i137 =>
 bif (decide (i137 > 1000)) then
 (chkO (room (l126.length + 1) 24) (
 r21_percents_J6 lb n k93 an1 a2 i41 (b125 && false) (l126 ++ [[CV.int .i64 2, CV.str (([112, 101, 114, 99, 101, 110, 116, 32] : List UInt8) ++ s95)]]) (([112, 101, 114, 99, 101, 110, 116, 32] : List UInt8) ++ s95) b117 i118))
 else
 (r21_percents_J6 lb n k93 an1 a2 i41 b125 l126 (([112, 101, 114, 99, 101, 110, 116, 32] : List UInt8) ++ s95) b117 i118)))) := (hold_eq _).trans (by kernel_rfl)

theorem r21_percents_J4_eq (lb : Nat) (n : Nat) (k93 : Nat) (an1 : Bool) (a2 : List (List CV)) (i41 : Int) (s95 : List UInt8) (b117 : Bool) (i118 : Int) (r94 : CV) (b123 : Bool) (l124 : List (List CV)) :
  r21_percents_J4 lb n k93 an1 a2 i41 s95 b117 i118 r94 b123 l124 =
 bif b117 then
 (chkO (room (l124.length + 1) 24) (
 r21_percents_J5 lb n k93 an1 a2 i41 s95 b117 i118 r94 (b123 && false) (l124 ++ [[CV.int .i64 6, CV.str (([112, 101, 114, 99, 101, 110, 116, 32] : List UInt8) ++ s95)]])))
 else
 (r21_percents_J5 lb n k93 an1 a2 i41 s95 b117 i118 r94 b123 l124) := (hold_eq _).trans (by kernel_rfl)

theorem r21_percents_J3_eq (lb : Nat) (n : Nat) (k93 : Nat) (an1 : Bool) (a2 : List (List CV)) (b39 : Bool) (l40 : List (List CV)) (i41 : Int) (s95 : List UInt8) (r94 : CV) (b117 : Bool) (i118 : Int) :
  r21_percents_J3 lb n k93 an1 a2 b39 l40 i41 s95 r94 b117 i118 =
 optO (atL a2 i41) fun c119 =>
 chkO (c119.length == 2) (
 optO (c119[0]?) fun x120 =>
 optO (C lb n F_r01_Code [x120, .int .i64 3, .int .i64 3]) fun r121 =>
 optO (CV.asB r121) fun b122 =>
 bif (!b122) then
 (chkO (room (l40.length + 1) 24) (
 r21_percents_J4 lb n k93 an1 a2 i41 s95 b117 i118 r94 (b39 && false) (l40 ++ [[CV.int .i64 5, CV.str (([112, 101, 114, 99, 101, 110, 116, 32] : List UInt8) ++ s95)]])))
 else
 (r21_percents_J4 lb n k93 an1 a2 i41 s95 b117 i118 r94 b39 l40)) := (hold_eq _).trans (by kernel_rfl)

theorem r21_percents_L2_succ (lb : Nat) (n k110 : Nat) (k93 : Nat) (an1 : Bool) (a2 : List (List CV)) (b39 : Bool) (l40 : List (List CV)) (i41 : Int) (s95 : List UInt8) (r94 : CV) (b102 : Bool) (i103 : Int) :
  r21_percents_L2 lb n (k110 + 1) k93 an1 a2 b39 l40 i41 s95 r94 b102 i103 =
 bif (decide (i103 < i41)) then
 (bif b102 then
 (r21_percents_L2 lb n k110 k93 an1 a2 b39 l40 i41 s95 r94 true (IntKind.wrap .i64 (i103 + 1)))
 else
 (optO (atL a2 i103) fun c111 =>
 chkO (c111.length == 2) (
 optO (c111[0]?) fun x112 =>
 optO (atL a2 i41) fun c113 =>
 chkO (c113.length == 2) (
 optO (c113[0]?) fun x114 =>
 optO (CV.asS x112) fun s115 =>
 optO (CV.asS x114) fun s116 =>
 r21_percents_L2 lb n k110 k93 an1 a2 b39 l40 i41 s95 r94 (s115 == s116) (IntKind.wrap .i64 (i103 + 1))))))
 else
 (r21_percents_J3 lb n k93 an1 a2 b39 l40 i41 s95 r94 b102 i103) := (hold_eq _).trans (by kernel_rfl)

theorem r21_percents_L2_zero (lb : Nat) (n : Nat) (k93 : Nat) (an1 : Bool) (a2 : List (List CV)) (b39 : Bool) (l40 : List (List CV)) (i41 : Int) (s95 : List UInt8) (r94 : CV) (b102 : Bool) (i103 : Int) :
  r21_percents_L2 lb n 0 k93 an1 a2 b39 l40 i41 s95 r94 b102 i103 =
 none := (hold_eq _).trans (by kernel_rfl)

noncomputable def r21_percents_J7 (lb : Nat) (n : Nat) (an1 : Bool) (a2 : List (List CV)) (b138 : Bool) (l139 : List (List CV)) (i140 : Int) : Option CV :=
  hold (E0 lb n 0 997 (sub (B F_r21_percents) [1, 1, 1]) (retK Tryz.prog (R F_r21_percents) 0 (outK (tightF Tryz.prog F_r21_percents))) ⟨fr 74 [(0, .val (.list an1 a2)), (2, .lst true true 57 []), (3, .lst true b138 57 l139), (4, .val (.int .i64 i140))], [bx 74 []], KK⟩)

theorem r21_percents_J7_eq (lb : Nat) (n : Nat) (an1 : Bool) (a2 : List (List CV)) (b138 : Bool) (l139 : List (List CV)) (i140 : Int) :
  r21_percents_J7 lb n an1 a2 b138 l139 i140 =
 some (.list b138 l139) := (hold_eq _).trans (by kernel_rfl)

theorem r21_percents_L1_succ (lb : Nat) (n k93 : Nat) (an1 : Bool) (a2 : List (List CV)) (b39 : Bool) (l40 : List (List CV)) (i41 : Int) :
  r21_percents_L1 lb n (k93 + 1) an1 a2 b39 l40 i41 =
 bif (decide (i41 < (a2.length : Int))) then
 (optO (C lb n F_r01_Decimal [.int .i64 i41]) fun r94 =>
 optO (CV.asS r94) fun s95 =>
 chkO (decide (([112, 101, 114, 99, 101, 110, 116, 32] : List UInt8).length + s95.length ≤ 9223372036854775807)) (
 r21_percents_L2 lb n n k93 an1 a2 b39 l40 i41 s95 r94 false 0))
 else
 (r21_percents_J7 lb n an1 a2 b39 l40 i41) := (hold_eq _).trans (by kernel_rfl)

theorem r21_percents_L1_zero (lb : Nat) (n : Nat) (an1 : Bool) (a2 : List (List CV)) (b39 : Bool) (l40 : List (List CV)) (i41 : Int) :
  r21_percents_L1 lb n 0 an1 a2 b39 l40 i41 =
 none := (hold_eq _).trans (by kernel_rfl)

theorem r21_percents_eq (lb : Nat) (n : Nat) (an1 : Bool) (a2 : List (List CV)) :
  top lb n F_r21_percents [.list an1 a2] =
 r21_percents_L1 lb n n an1 a2 true [] 0 := by kernel_rfl

/-! airline/airlinelaw06.SameFaults -/
noncomputable def l06_SameFaults_L1 (lb : Nat) (n : Nat) (k28 : Nat) (an1 : Bool) (a2 : List (List CV)) (bn3 : Bool) (b4 : List (List CV)) (i17 : Int) : Option CV :=
  hold (loopC (E0 lb n 0 994) 0 (loopTemps (sub (B F_l06_SameFaults) [1, 1, 0, 1, 0, 0]) ++ []) [] (sub (B F_l06_SameFaults) [1, 1, 0, 1, 0, 0]) (blockK 0 (seqK (E0 lb n 0 997) (sub (B F_l06_SameFaults) [1, 1, 0]) (sub (B F_l06_SameFaults) [1, 1, 1]) (retK Tryz.prog (R F_l06_SameFaults) 0 (outK (tightF Tryz.prog F_l06_SameFaults))))) k28 ⟨fr 26 [(0, .val (.list an1 a2)), (1, .val (.list bn3 b4)), (4, .val (.bool false)), (5, .val (.int .i64 i17))], [bx 26 []], KK⟩)

noncomputable def l06_SameFaults_J2 (lb : Nat) (n : Nat) (an1 : Bool) (a2 : List (List CV)) (bn3 : Bool) (b4 : List (List CV)) (i40 : Int) : Option CV :=
  hold (E0 lb n 0 997 (sub (B F_l06_SameFaults) [1, 1, 1]) (retK Tryz.prog (R F_l06_SameFaults) 0 (outK (tightF Tryz.prog F_l06_SameFaults))) ⟨fr 26 [(0, .val (.list an1 a2)), (1, .val (.list bn3 b4)), (4, .val (.bool false)), (5, .val (.int .i64 i40))], [bx 26 []], KK⟩)

theorem l06_SameFaults_J2_eq (lb : Nat) (n : Nat) (an1 : Bool) (a2 : List (List CV)) (bn3 : Bool) (b4 : List (List CV)) (i40 : Int) :
  l06_SameFaults_J2 lb n an1 a2 bn3 b4 i40 =
 some (.bool true) := (hold_eq _).trans (by kernel_rfl)

theorem l06_SameFaults_L1_succ (lb : Nat) (n k28 : Nat) (an1 : Bool) (a2 : List (List CV)) (bn3 : Bool) (b4 : List (List CV)) (i17 : Int) :
  l06_SameFaults_L1 lb n (k28 + 1) an1 a2 bn3 b4 i17 =
 bif (decide (i17 < (a2.length : Int))) then
 (optO (atL a2 i17) fun c29 =>
 chkO (c29.length == 2) (
 optO (c29[0]?) fun x30 =>
 optO (c29[1]?) fun x31 =>
 optO (atL b4 i17) fun c33 =>
 chkO (c33.length == 2) (
 optO (c33[0]?) fun x34 =>
 optO (c33[1]?) fun x35 =>
 optO (CV.asI .i64 x30) fun i36 =>
 optO (CV.asI .i64 x34) fun i37 =>
 optO (CV.asS x31) fun s38 =>
 optO (CV.asS x35) fun s39 =>
 bif (!((i36 == i37) && ((s38 == s39) && true))) then
 (some (.bool false))
 else
 (l06_SameFaults_L1 lb n k28 an1 a2 bn3 b4 (IntKind.wrap .i64 (i17 + 1))))))
 else
 (l06_SameFaults_J2 lb n an1 a2 bn3 b4 i17) := (hold_eq _).trans (by kernel_rfl)

theorem l06_SameFaults_L1_zero (lb : Nat) (n : Nat) (an1 : Bool) (a2 : List (List CV)) (bn3 : Bool) (b4 : List (List CV)) (i17 : Int) :
  l06_SameFaults_L1 lb n 0 an1 a2 bn3 b4 i17 =
 none := (hold_eq _).trans (by kernel_rfl)

theorem l06_SameFaults_eq (lb : Nat) (n : Nat) (an1 : Bool) (a2 : List (List CV)) (bn3 : Bool) (b4 : List (List CV)) :
  top lb n F_l06_SameFaults [.list an1 a2, .list bn3 b4] =
 bif ((a2.length : Int) != (b4.length : Int)) then
 (some (.bool false))
 else
 (l06_SameFaults_L1 lb n n an1 a2 bn3 b4 0) := by kernel_rfl

/-! airline/airlinelaw21.RuleStays -/
theorem l21_RuleStays_eq (lb : Nat) (n : Nat) (anum1 : Int) (awhekin2 : Int) (awheln3 : Bool) (awhel4 : List (List CV)) (awhea5 : Int) (awheb6 : Int) (awheperfro7 : Int) (awheperto9 : Int) (awheperday10 : Int) (awhetexn11 : Bool) (awhetex12 : List (List CV)) (acomn13 : Bool) (acom14 : List (List CV)) (amin15 : Int) (amax17 : Int) (acha18 : Int) (aref19 : Int) (apern20 : Bool) (aper21 : List (List CV)) (b22 : Int) (c23 : Int) :
  top lb n F_l21_RuleStays [.agg [.int .i64 anum1, .int .i64 awhekin2, .list awheln3 awhel4, .int .i64 awhea5, .int .i64 awheb6, .int .i64 awheperfro7, .int .i64 awheperto9, .int .i64 awheperday10, .list awhetexn11 awhetex12, .list acomn13 acom14, .int .i64 amin15, .int .i64 amax17, .int .i64 acha18, .int .i64 aref19, .list apern20 aper21], .int .i64 b22, .int .i64 c23] =
 optO (C lb n F_l21_Small [.agg [.int .i64 anum1, .int .i64 awhekin2, .list awheln3 awhel4, .int .i64 awhea5, .int .i64 awheb6, .int .i64 awheperfro7, .int .i64 awheperto9, .int .i64 awheperday10, .list awhetexn11 awhetex12, .list acomn13 acom14, .int .i64 amin15, .int .i64 amax17, .int .i64 acha18, .int .i64 aref19, .list apern20 aper21]]) fun r24 =>
 optO (CV.asB r24) fun b25 =>
 bif (!b25) then
 (optO (C lb n F_l21_awake []) fun r26 =>
 some (r26))
 else
 (optO (C lb n F_r21_Check [.agg [.int .i64 anum1, .int .i64 awhekin2, .list awheln3 awhel4, .int .i64 awhea5, .int .i64 awheb6, .int .i64 awheperfro7, .int .i64 awheperto9, .int .i64 awheperday10, .list awhetexn11 awhetex12, .list acomn13 acom14, .int .i64 amin15, .int .i64 amax17, .int .i64 acha18, .int .i64 aref19, .list apern20 aper21]]) fun r27 =>
 optO (CV.asL r27) fun p28 =>
 bif (decide ((p28.2.length : Int) > 0)) then
 (optO (C lb n F_l21_awake []) fun r29 =>
 some (r29))
 else
 (optO (C lb n F_rule_Stay [.agg [.int .i64 anum1, .int .i64 awhekin2, .list awheln3 awhel4, .int .i64 awhea5, .int .i64 awheb6, .int .i64 awheperfro7, .int .i64 awheperto9, .int .i64 awheperday10, .list awhetexn11 awhetex12, .list acomn13 acom14, .int .i64 amin15, .int .i64 amax17, .int .i64 acha18, .int .i64 aref19, .list apern20 aper21], .int .i64 b22, .int .i64 c23]) fun r30 =>
 optO (C lb n F_r21_Stay [.agg [.int .i64 anum1, .int .i64 awhekin2, .list awheln3 awhel4, .int .i64 awhea5, .int .i64 awheb6, .int .i64 awheperfro7, .int .i64 awheperto9, .int .i64 awheperday10, .list awhetexn11 awhetex12, .list acomn13 acom14, .int .i64 amin15, .int .i64 amax17, .int .i64 acha18, .int .i64 aref19, .list apern20 aper21], .int .i64 b22, .int .i64 c23]) fun r31 =>
 optO (CV.asI .i64 r30) fun i33 =>
 optO (CV.asI .i64 r31) fun i34 =>
 bif (i33 == i34) then
 (optO (C lb n F_l21_awake []) fun r35 =>
 some (r35))
 else
 (some (.bool false)))) := by kernel_rfl

/-! airline/airlinelaw21.RuleAllows -/
theorem l21_RuleAllows_eq (lb : Nat) (n : Nat) (anum1 : Int) (awhekin2 : Int) (awheln3 : Bool) (awhel4 : List (List CV)) (awhea5 : Int) (awheb6 : Int) (awheperfro7 : Int) (awheperto9 : Int) (awheperday10 : Int) (awhetexn11 : Bool) (awhetex12 : List (List CV)) (acomn13 : Bool) (acom14 : List (List CV)) (amin15 : Int) (amax17 : Int) (acha18 : Int) (aref19 : Int) (apern20 : Bool) (aper21 : List (List CV)) (btyp22 : List UInt8) (bsal23 : Int) (bday24 : Int) (bmin25 : Int) (bsto26 : Int) (btra27 : Int) (bcarn28 : Bool) (bcar29 : List (List CV)) (bnumn30 : Bool) (bnum31 : List (List CV)) (bvian33 : Bool) (bvia34 : List (List CV)) :
  top lb n F_l21_RuleAllows [.agg [.int .i64 anum1, .int .i64 awhekin2, .list awheln3 awhel4, .int .i64 awhea5, .int .i64 awheb6, .int .i64 awheperfro7, .int .i64 awheperto9, .int .i64 awheperday10, .list awhetexn11 awhetex12, .list acomn13 acom14, .int .i64 amin15, .int .i64 amax17, .int .i64 acha18, .int .i64 aref19, .list apern20 aper21], .agg [.str btyp22, .int .i64 bsal23, .int .i64 bday24, .int .i64 bmin25, .int .i64 bsto26, .int .i64 btra27, .list bcarn28 bcar29, .list bnumn30 bnum31, .list bvian33 bvia34]] =
 optO (C lb n F_l21_Small [.agg [.int .i64 anum1, .int .i64 awhekin2, .list awheln3 awhel4, .int .i64 awhea5, .int .i64 awheb6, .int .i64 awheperfro7, .int .i64 awheperto9, .int .i64 awheperday10, .list awhetexn11 awhetex12, .list acomn13 acom14, .int .i64 amin15, .int .i64 amax17, .int .i64 acha18, .int .i64 aref19, .list apern20 aper21]]) fun r35 =>
 optO (CV.asB r35) fun b36 =>
 bif (!b36) then
 (optO (C lb n F_l21_awake []) fun r37 =>
 some (r37))
 else
 (optO (C lb n F_r21_Check [.agg [.int .i64 anum1, .int .i64 awhekin2, .list awheln3 awhel4, .int .i64 awhea5, .int .i64 awheb6, .int .i64 awheperfro7, .int .i64 awheperto9, .int .i64 awheperday10, .list awhetexn11 awhetex12, .list acomn13 acom14, .int .i64 amin15, .int .i64 amax17, .int .i64 acha18, .int .i64 aref19, .list apern20 aper21]]) fun r38 =>
 optO (CV.asL r38) fun p39 =>
 bif (decide ((p39.2.length : Int) > 0)) then
 (optO (C lb n F_l21_awake []) fun r40 =>
 some (r40))
 else
 (bif (decide ((bcar29.length : Int) > 20)) then
 (optO (C lb n F_l21_awake []) fun r41 =>
 some (r41))
 else
 (bif (decide ((bnum31.length : Int) > 20)) then
 (optO (C lb n F_l21_awake []) fun r42 =>
 some (r42))
 else
 (bif (decide ((bvia34.length : Int) > 20)) then
 (optO (C lb n F_l21_awake []) fun r43 =>
 some (r43))
 else
 (optO (C lb n F_l21_near [.int .i64 bday24]) fun r44 =>
 optO (CV.asB r44) fun b45 =>
 bif (!b45) then
 (optO (C lb n F_l21_awake []) fun r46 =>
 some (r46))
 else
 (optO (C lb n F_l21_near [.int .i64 bsal23]) fun r47 =>
 optO (CV.asB r47) fun b48 =>
 bif (!b48) then
 (optO (C lb n F_l21_awake []) fun r49 =>
 some (r49))
 else
 (optO (C lb n F_rule_Allows [.agg [.int .i64 anum1, .int .i64 awhekin2, .list awheln3 awhel4, .int .i64 awhea5, .int .i64 awheb6, .int .i64 awheperfro7, .int .i64 awheperto9, .int .i64 awheperday10, .list awhetexn11 awhetex12, .list acomn13 acom14, .int .i64 amin15, .int .i64 amax17, .int .i64 acha18, .int .i64 aref19, .list apern20 aper21], .agg [.str btyp22, .int .i64 bsal23, .int .i64 bday24, .int .i64 bmin25, .int .i64 bsto26, .int .i64 btra27, .list bcarn28 bcar29, .list bnumn30 bnum31, .list bvian33 bvia34]]) fun r50 =>
 optO (C lb n F_r21_Allows [.agg [.int .i64 anum1, .int .i64 awhekin2, .list awheln3 awhel4, .int .i64 awhea5, .int .i64 awheb6, .int .i64 awheperfro7, .int .i64 awheperto9, .int .i64 awheperday10, .list awhetexn11 awhetex12, .list acomn13 acom14, .int .i64 amin15, .int .i64 amax17, .int .i64 acha18, .int .i64 aref19, .list apern20 aper21], .agg [.str btyp22, .int .i64 bsal23, .int .i64 bday24, .int .i64 bmin25, .int .i64 bsto26, .int .i64 btra27, .list bcarn28 bcar29, .list bnumn30 bnum31, .list bvian33 bvia34]]) fun r51 =>
 optO (CV.asI .i64 r50) fun i52 =>
 optO (CV.asI .i64 r51) fun i53 =>
 bif (i52 == i53) then
 (optO (CV.asI .i64 r50) fun i54 =>
 optO (C lb n F_r20_Holds [.agg [.int .i64 awhekin2, .list awheln3 awhel4, .int .i64 awhea5, .int .i64 awheb6, .int .i64 awheperfro7, .int .i64 awheperto9, .int .i64 awheperday10, .list awhetexn11 awhetex12], .agg [.str btyp22, .int .i64 bsal23, .int .i64 bday24, .int .i64 bmin25, .int .i64 bsto26, .int .i64 btra27, .list bcarn28 bcar29, .list bnumn30 bnum31, .list bvian33 bvia34]]) fun r55 =>
 optO (CV.asB r55) fun b56 =>
 bif ((i54 == 0) == b56) then
 (optO (C lb n F_l21_awake []) fun r57 =>
 some (r57))
 else
 (some (.bool false)))
 else
 (some (.bool false))))))))) := by kernel_rfl

/-! airline/airlinelaw21.RuleChecks -/
theorem l21_RuleChecks_eq (lb : Nat) (n : Nat) (anum1 : Int) (awhekin2 : Int) (awheln3 : Bool) (awhel4 : List (List CV)) (awhea5 : Int) (awheb6 : Int) (awheperfro7 : Int) (awheperto9 : Int) (awheperday10 : Int) (awhetexn11 : Bool) (awhetex12 : List (List CV)) (acomn13 : Bool) (acom14 : List (List CV)) (amin15 : Int) (amax17 : Int) (acha18 : Int) (aref19 : Int) (apern20 : Bool) (aper21 : List (List CV)) :
  top lb n F_l21_RuleChecks [.agg [.int .i64 anum1, .int .i64 awhekin2, .list awheln3 awhel4, .int .i64 awhea5, .int .i64 awheb6, .int .i64 awheperfro7, .int .i64 awheperto9, .int .i64 awheperday10, .list awhetexn11 awhetex12, .list acomn13 acom14, .int .i64 amin15, .int .i64 amax17, .int .i64 acha18, .int .i64 aref19, .list apern20 aper21]] =
 optO (C lb n F_l21_Small [.agg [.int .i64 anum1, .int .i64 awhekin2, .list awheln3 awhel4, .int .i64 awhea5, .int .i64 awheb6, .int .i64 awheperfro7, .int .i64 awheperto9, .int .i64 awheperday10, .list awhetexn11 awhetex12, .list acomn13 acom14, .int .i64 amin15, .int .i64 amax17, .int .i64 acha18, .int .i64 aref19, .list apern20 aper21]]) fun r22 =>
 optO (CV.asB r22) fun b23 =>
 bif (!b23) then
 (some (.bool true))
 else
 (optO (C lb n F_rule_Check [.agg [.int .i64 anum1, .int .i64 awhekin2, .list awheln3 awhel4, .int .i64 awhea5, .int .i64 awheb6, .int .i64 awheperfro7, .int .i64 awheperto9, .int .i64 awheperday10, .list awhetexn11 awhetex12, .list acomn13 acom14, .int .i64 amin15, .int .i64 amax17, .int .i64 acha18, .int .i64 aref19, .list apern20 aper21]]) fun r24 =>
 optO (C lb n F_r21_Check [.agg [.int .i64 anum1, .int .i64 awhekin2, .list awheln3 awhel4, .int .i64 awhea5, .int .i64 awheb6, .int .i64 awheperfro7, .int .i64 awheperto9, .int .i64 awheperday10, .list awhetexn11 awhetex12, .list acomn13 acom14, .int .i64 amin15, .int .i64 amax17, .int .i64 acha18, .int .i64 aref19, .list apern20 aper21]]) fun r25 =>
 optO (C lb n F_l06_SameFaults [r24, r25]) fun r26 =>
 optO (CV.asB r26) fun b27 =>
 bif b27 then
 (optO (C lb n F_l21_awake []) fun r28 =>
 some (r28))
 else
 (some (.bool false))) := by kernel_rfl

end Go.Proofs
