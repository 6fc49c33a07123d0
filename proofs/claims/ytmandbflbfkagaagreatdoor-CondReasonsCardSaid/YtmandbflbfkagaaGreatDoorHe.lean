/- Equations of functions, printed by program. Conditions: none. -/
import Derived.Test.YtmandbflbfkagaaGreatDoorEv
namespace Go.Proofs
open Go.Am
set_option maxRecDepth 100000
set_option linter.unusedVariables false
/-! airline/cond.among -/
noncomputable def cond_among_L1 (lb : Nat) (n : Nat) (k15 : Nat) (an1 : Bool) (a2 : List (List CV)) (bn3 : Bool) (b4 : List (List CV)) (i10 : Int) : Option CV :=
  hold (loopC (E2 lb n 2 995) 2 (loopTemps (sub (B F_slices_IndexFunc_string) [1, 0, 1, 0, 0]) ++ [5]) [] (sub (B F_slices_IndexFunc_string) [1, 0, 1, 0, 0]) (blockK 0 (seqK (E2 lb n 2 998) (sub (B F_slices_IndexFunc_string) [1, 0]) (sub (B F_slices_IndexFunc_string) [1, 1]) (retK Tryz.prog (R F_slices_IndexFunc_string) 2 (inlK (opAt (opsOf (sub (B F_slices_ContainsFunc_string) [1, 0])) 2) ⟨fr 9 [(0, .val (.list an1 a2)), (1, .clo F_cond_among_1 [.ptr 0 3 0]), (4, .val (.bool false)), (5, .val (.list an1 a2)), (6, .clo F_cond_among_1 [.ptr 0 3 0])], [bx 9 [(3, some [.val (.list bn3 b4)])], bx 9 []], KK⟩ (opsK Tryz.prog (C lb n) (I8 lb n) 1 (opsOf (sub (B F_slices_ContainsFunc_string) [1, 0])) ((opsOf (sub (B F_slices_ContainsFunc_string) [1, 0])).drop 3) ((seqK (E1 lb n 1 998) (sub (B F_slices_ContainsFunc_string) [1, 0]) (sub (B F_slices_ContainsFunc_string) [1, 1]) (retK Tryz.prog (R F_slices_ContainsFunc_string) 1 (inlK (opAt (opsOf (sub (B F_cond_among) [1, 0])) 2) ⟨fr 9 [(0, .val (.list an1 a2)), (1, .val (.list bn3 b4)), (3, .ptr 0 3 0), (4, .val (.bool false)), (5, .val (.list an1 a2)), (6, .clo F_cond_among_1 [.ptr 0 3 0])], [bx 9 [(3, some [.val (.list bn3 b4)])]], KK⟩ (opsK Tryz.prog (C lb n) (I9 lb n) 0 (opsOf (sub (B F_cond_among) [1, 0])) ((opsOf (sub (B F_cond_among) [1, 0])).drop 3) ((seqK (E0 lb n 0 998) (sub (B F_cond_among) [1, 0]) (sub (B F_cond_among) [1, 1]) (retK Tryz.prog (R F_cond_among) 0 (outK (tightF Tryz.prog F_cond_among)))) .normal))))) .normal)))))) k15 ⟨fr 19 [(0, .val (.list an1 a2)), (1, .clo F_cond_among_1 [.ptr 0 3 0]), (4, .val (.int .i64 0)), (6, .val (.list an1 a2)), (7, .val (.int .i64 (a2.length : Int))), (8, .val (.int .i64 i10))], [bx 9 [(3, some [.val (.list bn3 b4)])], bx 9 [], bx 19 []], KK⟩)

noncomputable def cond_among_J2 (lb : Nat) (n : Nat) (an1 : Bool) (a2 : List (List CV)) (bn3 : Bool) (b4 : List (List CV)) : Option CV :=
  hold (E2 lb n 2 998 (sub (B F_slices_IndexFunc_string) [1, 1]) (retK Tryz.prog (R F_slices_IndexFunc_string) 2 (inlK (opAt (opsOf (sub (B F_slices_ContainsFunc_string) [1, 0])) 2) ⟨fr 9 [(0, .val (.list an1 a2)), (1, .clo F_cond_among_1 [.ptr 0 3 0]), (4, .val (.bool false)), (5, .val (.list an1 a2)), (6, .clo F_cond_among_1 [.ptr 0 3 0])], [bx 9 [(3, some [.val (.list bn3 b4)])], bx 9 []], KK⟩ (opsK Tryz.prog (C lb n) (I8 lb n) 1 (opsOf (sub (B F_slices_ContainsFunc_string) [1, 0])) ((opsOf (sub (B F_slices_ContainsFunc_string) [1, 0])).drop 3) ((seqK (E1 lb n 1 998) (sub (B F_slices_ContainsFunc_string) [1, 0]) (sub (B F_slices_ContainsFunc_string) [1, 1]) (retK Tryz.prog (R F_slices_ContainsFunc_string) 1 (inlK (opAt (opsOf (sub (B F_cond_among) [1, 0])) 2) ⟨fr 9 [(0, .val (.list an1 a2)), (1, .val (.list bn3 b4)), (3, .ptr 0 3 0), (4, .val (.bool false)), (5, .val (.list an1 a2)), (6, .clo F_cond_among_1 [.ptr 0 3 0])], [bx 9 [(3, some [.val (.list bn3 b4)])]], KK⟩ (opsK Tryz.prog (C lb n) (I9 lb n) 0 (opsOf (sub (B F_cond_among) [1, 0])) ((opsOf (sub (B F_cond_among) [1, 0])).drop 3) ((seqK (E0 lb n 0 998) (sub (B F_cond_among) [1, 0]) (sub (B F_cond_among) [1, 1]) (retK Tryz.prog (R F_cond_among) 0 (outK (tightF Tryz.prog F_cond_among)))) .normal))))) .normal)))) ⟨fr 19 [(0, .val (.list an1 a2)), (1, .clo F_cond_among_1 [.ptr 0 3 0]), (4, .val (.int .i64 0))], [bx 9 [(3, some [.val (.list bn3 b4)])], bx 9 [], bx 19 []], KK⟩)

theorem cond_among_J2_eq (lb : Nat) (n : Nat) (an1 : Bool) (a2 : List (List CV)) (bn3 : Bool) (b4 : List (List CV)) :
  cond_among_J2 lb n an1 a2 bn3 b4 =
 some (.bool true) := (hold_eq _).trans (by kernel_rfl)

theorem cond_among_L1_succ (lb : Nat) (n k15 : Nat) (an1 : Bool) (a2 : List (List CV)) (bn3 : Bool) (b4 : List (List CV)) (i10 : Int) :
  cond_among_L1 lb n (k15 + 1) an1 a2 bn3 b4 i10 =
 bif (decide (i10 < (a2.length : Int))) then
 (optO (atL a2 i10) fun c17 =>
 chkO (c17.length == 1) (
 optO (c17[0]?) fun x18 =>
 optO (C lb n F_slices_Contains_string [.list bn3 b4, x18]) fun r19 =>
 optO (CV.asB r19) fun b20 =>
 bif (!b20) then
 (some (.bool (!(decide (i10 ≥ 0)))))
 else
 (cond_among_L1 lb n k15 an1 a2 bn3 b4 (IntKind.wrap .i64 (i10 + 1)))))
 else
 (cond_among_J2 lb n an1 a2 bn3 b4 ) := (hold_eq _).trans (by kernel_rfl)

theorem cond_among_L1_zero (lb : Nat) (n : Nat) (an1 : Bool) (a2 : List (List CV)) (bn3 : Bool) (b4 : List (List CV)) (i10 : Int) :
  cond_among_L1 lb n 0 an1 a2 bn3 b4 i10 =
 none := (hold_eq _).trans (by kernel_rfl)

theorem cond_among_eq (lb : Nat) (n : Nat) (an1 : Bool) (a2 : List (List CV)) (bn3 : Bool) (b4 : List (List CV)) :
  top lb n F_cond_among [.list an1 a2, .list bn3 b4] =
 cond_among_L1 lb n n an1 a2 bn3 b4 0 := by kernel_rfl

/-! airline/cond.Holds -/
noncomputable def cond_Holds_L1 (lb : Nat) (n : Nat) (k49 : Nat) (aln2 : Bool) (al3 : List (List CV)) (akin1 : Int) (aa4 : Int) (ab5 : Int) (aperfro6 : Int) (aperto7 : Int) (aperday9 : Int) (atexn10 : Bool) (atex11 : List (List CV)) (btyp12 : List UInt8) (bsal13 : Int) (bday14 : Int) (bmin15 : Int) (bsto17 : Int) (btra18 : Int) (bcarn19 : Bool) (bcar20 : List (List CV)) (bnumn21 : Bool) (bnum22 : List (List CV)) (bvian23 : Bool) (bvia24 : List (List CV)) (i37 : Int) : Option CV :=
  hold (loopC (E2 lb n 2 995) 2 (loopTemps (sub (B F_slices_IndexFunc_api_Cond) [1, 0, 1, 0, 0]) ++ [5]) [] (sub (B F_slices_IndexFunc_api_Cond) [1, 0, 1, 0, 0]) (blockK 0 (seqK (E2 lb n 2 998) (sub (B F_slices_IndexFunc_api_Cond) [1, 0]) (sub (B F_slices_IndexFunc_api_Cond) [1, 1]) (retK Tryz.prog (R F_slices_IndexFunc_api_Cond) 2 (inlK (opAt (opsOf (sub (B F_slices_ContainsFunc_api_Cond) [1, 0])) 2) ⟨fr 9 [(0, .val (.list aln2 al3)), (1, .clo F_cond_Holds_2 [.ptr 0 3 0]), (4, .val (.bool false)), (5, .val (.list aln2 al3)), (6, .clo F_cond_Holds_2 [.ptr 0 3 0])], [bx 129 [(2, some [.val (.int .i64 akin1), .val (.list aln2 al3), .val (.int .i64 aa4), .val (.int .i64 ab5), .val (.int .i64 aperfro6), .val (.int .i64 aperto7), .val (.int .i64 aperday9), .val (.list atexn10 atex11)]), (3, some [.val (.str btyp12), .val (.int .i64 bsal13), .val (.int .i64 bday14), .val (.int .i64 bmin15), .val (.int .i64 bsto17), .val (.int .i64 btra18), .val (.list bcarn19 bcar20), .val (.list bnumn21 bnum22), .val (.list bvian23 bvia24)])], bx 9 []], KK⟩ (opsK Tryz.prog (C lb n) (I8 lb n) 1 (opsOf (sub (B F_slices_ContainsFunc_api_Cond) [1, 0])) ((opsOf (sub (B F_slices_ContainsFunc_api_Cond) [1, 0])).drop 3) ((seqK (E1 lb n 1 998) (sub (B F_slices_ContainsFunc_api_Cond) [1, 0]) (sub (B F_slices_ContainsFunc_api_Cond) [1, 1]) (retK Tryz.prog (R F_slices_ContainsFunc_api_Cond) 1 (inlK (opAt (opsOf (sub (B F_cond_Holds) [1, 1, 1, 0, 1, 0, 1, 1, 1, 0, 0])) 3) ⟨fr 129 [(0, .val (.agg [.int .i64 akin1, .list aln2 al3, .int .i64 aa4, .int .i64 ab5, .int .i64 aperfro6, .int .i64 aperto7, .int .i64 aperday9, .list atexn10 atex11])), (1, .val (.agg [.str btyp12, .int .i64 bsal13, .int .i64 bday14, .int .i64 bmin15, .int .i64 bsto17, .int .i64 btra18, .list bcarn19 bcar20, .list bnumn21 bnum22, .list bvian23 bvia24])), (2, .ptr 0 2 0), (3, .ptr 0 3 0), (4, .val (.bool false)), (5, .clo F_cond_Holds_1 [.ptr 0 3 0]), (6, .clo F_cond_Holds_2 [.ptr 0 3 0]), (7, .clo F_cond_Holds_1 [.ptr 0 3 0]), (8, .clo F_cond_Holds_2 [.ptr 0 3 0]), (9, .ptr 0 2 0), (10, .val (.int .i64 akin1)), (11, .val (.bool (akin1 == 1))), (12, .val (.bool (akin1 == 1))), (13, .val (.bool (akin1 == 2))), (14, .val (.bool (akin1 == 2))), (15, .ptr 0 2 1), (16, .val (.list aln2 al3)), (17, .clo F_cond_Holds_2 [.ptr 0 3 0])], [bx 129 [(2, some [.val (.int .i64 akin1), .val (.list aln2 al3), .val (.int .i64 aa4), .val (.int .i64 ab5), .val (.int .i64 aperfro6), .val (.int .i64 aperto7), .val (.int .i64 aperday9), .val (.list atexn10 atex11)]), (3, some [.val (.str btyp12), .val (.int .i64 bsal13), .val (.int .i64 bday14), .val (.int .i64 bmin15), .val (.int .i64 bsto17), .val (.int .i64 btra18), .val (.list bcarn19 bcar20), .val (.list bnumn21 bnum22), .val (.list bvian23 bvia24)])]], KK⟩ (opsK Tryz.prog (C lb n) (I9 lb n) 0 (opsOf (sub (B F_cond_Holds) [1, 1, 1, 0, 1, 0, 1, 1, 1, 0, 0])) ((opsOf (sub (B F_cond_Holds) [1, 1, 1, 0, 1, 0, 1, 1, 1, 0, 0])).drop 4) ((seqK (E0 lb n 0 989) (sub (B F_cond_Holds) [1, 1, 1, 0, 1, 0, 1, 1, 1, 0, 0]) (sub (B F_cond_Holds) [1, 1, 1, 0, 1, 0, 1, 1, 1, 0, 1]) (condK (sub (B F_cond_Holds) [1, 1, 1, 0, 1, 0, 1, 1, 1, 0]) (sub (B F_cond_Holds) [1, 1, 1, 0, 1, 0, 1, 1, 1, 1]) (condK (sub (B F_cond_Holds) [1, 1, 1, 0, 1, 0, 1, 0]) (sub (B F_cond_Holds) [1, 1, 1, 0, 1, 0, 1, 1]) (blockK 0 (seqK (E0 lb n 0 996) (sub (B F_cond_Holds) [1, 1, 1, 0]) (sub (B F_cond_Holds) [1, 1, 1, 1]) (retK Tryz.prog (R F_cond_Holds) 0 (outK (tightF Tryz.prog F_cond_Holds)))))))) .normal))))) .normal)))))) k49 ⟨fr 19 [(0, .val (.list aln2 al3)), (1, .clo F_cond_Holds_2 [.ptr 0 3 0]), (4, .val (.int .i64 0)), (6, .val (.list aln2 al3)), (7, .val (.int .i64 (al3.length : Int))), (8, .val (.int .i64 i37))], [bx 129 [(2, some [.val (.int .i64 akin1), .val (.list aln2 al3), .val (.int .i64 aa4), .val (.int .i64 ab5), .val (.int .i64 aperfro6), .val (.int .i64 aperto7), .val (.int .i64 aperday9), .val (.list atexn10 atex11)]), (3, some [.val (.str btyp12), .val (.int .i64 bsal13), .val (.int .i64 bday14), .val (.int .i64 bmin15), .val (.int .i64 bsto17), .val (.int .i64 btra18), .val (.list bcarn19 bcar20), .val (.list bnumn21 bnum22), .val (.list bvian23 bvia24)])], bx 9 [], bx 19 []], KK⟩)

noncomputable def cond_Holds_J2 (lb : Nat) (n : Nat) (aln2 : Bool) (al3 : List (List CV)) (akin1 : Int) (aa4 : Int) (ab5 : Int) (aperfro6 : Int) (aperto7 : Int) (aperday9 : Int) (atexn10 : Bool) (atex11 : List (List CV)) (btyp12 : List UInt8) (bsal13 : Int) (bday14 : Int) (bmin15 : Int) (bsto17 : Int) (btra18 : Int) (bcarn19 : Bool) (bcar20 : List (List CV)) (bnumn21 : Bool) (bnum22 : List (List CV)) (bvian23 : Bool) (bvia24 : List (List CV)) : Option CV :=
  hold (E2 lb n 2 998 (sub (B F_slices_IndexFunc_api_Cond) [1, 1]) (retK Tryz.prog (R F_slices_IndexFunc_api_Cond) 2 (inlK (opAt (opsOf (sub (B F_slices_ContainsFunc_api_Cond) [1, 0])) 2) ⟨fr 9 [(0, .val (.list aln2 al3)), (1, .clo F_cond_Holds_2 [.ptr 0 3 0]), (4, .val (.bool false)), (5, .val (.list aln2 al3)), (6, .clo F_cond_Holds_2 [.ptr 0 3 0])], [bx 129 [(2, some [.val (.int .i64 akin1), .val (.list aln2 al3), .val (.int .i64 aa4), .val (.int .i64 ab5), .val (.int .i64 aperfro6), .val (.int .i64 aperto7), .val (.int .i64 aperday9), .val (.list atexn10 atex11)]), (3, some [.val (.str btyp12), .val (.int .i64 bsal13), .val (.int .i64 bday14), .val (.int .i64 bmin15), .val (.int .i64 bsto17), .val (.int .i64 btra18), .val (.list bcarn19 bcar20), .val (.list bnumn21 bnum22), .val (.list bvian23 bvia24)])], bx 9 []], KK⟩ (opsK Tryz.prog (C lb n) (I8 lb n) 1 (opsOf (sub (B F_slices_ContainsFunc_api_Cond) [1, 0])) ((opsOf (sub (B F_slices_ContainsFunc_api_Cond) [1, 0])).drop 3) ((seqK (E1 lb n 1 998) (sub (B F_slices_ContainsFunc_api_Cond) [1, 0]) (sub (B F_slices_ContainsFunc_api_Cond) [1, 1]) (retK Tryz.prog (R F_slices_ContainsFunc_api_Cond) 1 (inlK (opAt (opsOf (sub (B F_cond_Holds) [1, 1, 1, 0, 1, 0, 1, 1, 1, 0, 0])) 3) ⟨fr 129 [(0, .val (.agg [.int .i64 akin1, .list aln2 al3, .int .i64 aa4, .int .i64 ab5, .int .i64 aperfro6, .int .i64 aperto7, .int .i64 aperday9, .list atexn10 atex11])), (1, .val (.agg [.str btyp12, .int .i64 bsal13, .int .i64 bday14, .int .i64 bmin15, .int .i64 bsto17, .int .i64 btra18, .list bcarn19 bcar20, .list bnumn21 bnum22, .list bvian23 bvia24])), (2, .ptr 0 2 0), (3, .ptr 0 3 0), (4, .val (.bool false)), (5, .clo F_cond_Holds_1 [.ptr 0 3 0]), (6, .clo F_cond_Holds_2 [.ptr 0 3 0]), (7, .clo F_cond_Holds_1 [.ptr 0 3 0]), (8, .clo F_cond_Holds_2 [.ptr 0 3 0]), (9, .ptr 0 2 0), (10, .val (.int .i64 akin1)), (11, .val (.bool (akin1 == 1))), (12, .val (.bool (akin1 == 1))), (13, .val (.bool (akin1 == 2))), (14, .val (.bool (akin1 == 2))), (15, .ptr 0 2 1), (16, .val (.list aln2 al3)), (17, .clo F_cond_Holds_2 [.ptr 0 3 0])], [bx 129 [(2, some [.val (.int .i64 akin1), .val (.list aln2 al3), .val (.int .i64 aa4), .val (.int .i64 ab5), .val (.int .i64 aperfro6), .val (.int .i64 aperto7), .val (.int .i64 aperday9), .val (.list atexn10 atex11)]), (3, some [.val (.str btyp12), .val (.int .i64 bsal13), .val (.int .i64 bday14), .val (.int .i64 bmin15), .val (.int .i64 bsto17), .val (.int .i64 btra18), .val (.list bcarn19 bcar20), .val (.list bnumn21 bnum22), .val (.list bvian23 bvia24)])]], KK⟩ (opsK Tryz.prog (C lb n) (I9 lb n) 0 (opsOf (sub (B F_cond_Holds) [1, 1, 1, 0, 1, 0, 1, 1, 1, 0, 0])) ((opsOf (sub (B F_cond_Holds) [1, 1, 1, 0, 1, 0, 1, 1, 1, 0, 0])).drop 4) ((seqK (E0 lb n 0 989) (sub (B F_cond_Holds) [1, 1, 1, 0, 1, 0, 1, 1, 1, 0, 0]) (sub (B F_cond_Holds) [1, 1, 1, 0, 1, 0, 1, 1, 1, 0, 1]) (condK (sub (B F_cond_Holds) [1, 1, 1, 0, 1, 0, 1, 1, 1, 0]) (sub (B F_cond_Holds) [1, 1, 1, 0, 1, 0, 1, 1, 1, 1]) (condK (sub (B F_cond_Holds) [1, 1, 1, 0, 1, 0, 1, 0]) (sub (B F_cond_Holds) [1, 1, 1, 0, 1, 0, 1, 1]) (blockK 0 (seqK (E0 lb n 0 996) (sub (B F_cond_Holds) [1, 1, 1, 0]) (sub (B F_cond_Holds) [1, 1, 1, 1]) (retK Tryz.prog (R F_cond_Holds) 0 (outK (tightF Tryz.prog F_cond_Holds)))))))) .normal))))) .normal)))) ⟨fr 19 [(0, .val (.list aln2 al3)), (1, .clo F_cond_Holds_2 [.ptr 0 3 0]), (4, .val (.int .i64 0))], [bx 129 [(2, some [.val (.int .i64 akin1), .val (.list aln2 al3), .val (.int .i64 aa4), .val (.int .i64 ab5), .val (.int .i64 aperfro6), .val (.int .i64 aperto7), .val (.int .i64 aperday9), .val (.list atexn10 atex11)]), (3, some [.val (.str btyp12), .val (.int .i64 bsal13), .val (.int .i64 bday14), .val (.int .i64 bmin15), .val (.int .i64 bsto17), .val (.int .i64 btra18), .val (.list bcarn19 bcar20), .val (.list bnumn21 bnum22), .val (.list bvian23 bvia24)])], bx 9 [], bx 19 []], KK⟩)

theorem cond_Holds_J2_eq (lb : Nat) (n : Nat) (aln2 : Bool) (al3 : List (List CV)) (akin1 : Int) (aa4 : Int) (ab5 : Int) (aperfro6 : Int) (aperto7 : Int) (aperday9 : Int) (atexn10 : Bool) (atex11 : List (List CV)) (btyp12 : List UInt8) (bsal13 : Int) (bday14 : Int) (bmin15 : Int) (bsto17 : Int) (btra18 : Int) (bcarn19 : Bool) (bcar20 : List (List CV)) (bnumn21 : Bool) (bnum22 : List (List CV)) (bvian23 : Bool) (bvia24 : List (List CV)) :
  cond_Holds_J2 lb n aln2 al3 akin1 aa4 ab5 aperfro6 aperto7 aperday9 atexn10 atex11 btyp12 bsal13 bday14 bmin15 bsto17 btra18 bcarn19 bcar20 bnumn21 bnum22 bvian23 bvia24 =
 some (.bool true) := (hold_eq _).trans (by kernel_rfl)

theorem cond_Holds_L1_succ (lb : Nat) (n k49 : Nat) (aln2 : Bool) (al3 : List (List CV)) (akin1 : Int) (aa4 : Int) (ab5 : Int) (aperfro6 : Int) (aperto7 : Int) (aperday9 : Int) (atexn10 : Bool) (atex11 : List (List CV)) (btyp12 : List UInt8) (bsal13 : Int) (bday14 : Int) (bmin15 : Int) (bsto17 : Int) (btra18 : Int) (bcarn19 : Bool) (bcar20 : List (List CV)) (bnumn21 : Bool) (bnum22 : List (List CV)) (bvian23 : Bool) (bvia24 : List (List CV)) (i37 : Int) :
  cond_Holds_L1 lb n (k49 + 1) aln2 al3 akin1 aa4 ab5 aperfro6 aperto7 aperday9 atexn10 atex11 btyp12 bsal13 bday14 bmin15 bsto17 btra18 bcarn19 bcar20 bnumn21 bnum22 bvian23 bvia24 i37 =
 bif (decide (i37 < (al3.length : Int))) then
 (optO (atL al3 i37) fun c50 =>
 chkO (c50.length == 8) (
 optO (c50[0]?) fun x51 =>
 optO (c50[1]?) fun x52 =>
 optO (c50[2]?) fun x53 =>
 optO (c50[3]?) fun x54 =>
 optO (c50[4]?) fun x55 =>
 optO (c50[5]?) fun x56 =>
 optO (c50[6]?) fun x57 =>
 optO (c50[7]?) fun x58 =>
 optO (C lb n F_cond_Holds [.agg [x51, x52, x53, x54, x55, x56, x57, x58], .agg [.str btyp12, .int .i64 bsal13, .int .i64 bday14, .int .i64 bmin15, .int .i64 bsto17, .int .i64 btra18, .list bcarn19 bcar20, .list bnumn21 bnum22, .list bvian23 bvia24]]) fun r59 =>
 optO (CV.asB r59) fun b60 =>
 bif (!b60) then
 (some (.bool (!(decide (i37 ≥ 0)))))
 else
 (cond_Holds_L1 lb n k49 aln2 al3 akin1 aa4 ab5 aperfro6 aperto7 aperday9 atexn10 atex11 btyp12 bsal13 bday14 bmin15 bsto17 btra18 bcarn19 bcar20 bnumn21 bnum22 bvian23 bvia24 (IntKind.wrap .i64 (i37 + 1)))))
 else
 (cond_Holds_J2 lb n aln2 al3 akin1 aa4 ab5 aperfro6 aperto7 aperday9 atexn10 atex11 btyp12 bsal13 bday14 bmin15 bsto17 btra18 bcarn19 bcar20 bnumn21 bnum22 bvian23 bvia24 ) := (hold_eq _).trans (by kernel_rfl)

theorem cond_Holds_L1_zero (lb : Nat) (n : Nat) (aln2 : Bool) (al3 : List (List CV)) (akin1 : Int) (aa4 : Int) (ab5 : Int) (aperfro6 : Int) (aperto7 : Int) (aperday9 : Int) (atexn10 : Bool) (atex11 : List (List CV)) (btyp12 : List UInt8) (bsal13 : Int) (bday14 : Int) (bmin15 : Int) (bsto17 : Int) (btra18 : Int) (bcarn19 : Bool) (bcar20 : List (List CV)) (bnumn21 : Bool) (bnum22 : List (List CV)) (bvian23 : Bool) (bvia24 : List (List CV)) (i37 : Int) :
  cond_Holds_L1 lb n 0 aln2 al3 akin1 aa4 ab5 aperfro6 aperto7 aperday9 atexn10 atex11 btyp12 bsal13 bday14 bmin15 bsto17 btra18 bcarn19 bcar20 bnumn21 bnum22 bvian23 bvia24 i37 =
 none := (hold_eq _).trans (by kernel_rfl)

noncomputable def cond_Holds_L3 (lb : Nat) (n : Nat) (k85 : Nat) (aln2 : Bool) (al3 : List (List CV)) (akin1 : Int) (aa4 : Int) (ab5 : Int) (aperfro6 : Int) (aperto7 : Int) (aperday9 : Int) (atexn10 : Bool) (atex11 : List (List CV)) (btyp12 : List UInt8) (bsal13 : Int) (bday14 : Int) (bmin15 : Int) (bsto17 : Int) (btra18 : Int) (bcarn19 : Bool) (bcar20 : List (List CV)) (bnumn21 : Bool) (bnum22 : List (List CV)) (bvian23 : Bool) (bvia24 : List (List CV)) (i73 : Int) : Option CV :=
  hold (loopC (E2 lb n 2 995) 2 (loopTemps (sub (B F_slices_IndexFunc_api_Cond) [1, 0, 1, 0, 0]) ++ [5]) [] (sub (B F_slices_IndexFunc_api_Cond) [1, 0, 1, 0, 0]) (blockK 0 (seqK (E2 lb n 2 998) (sub (B F_slices_IndexFunc_api_Cond) [1, 0]) (sub (B F_slices_IndexFunc_api_Cond) [1, 1]) (retK Tryz.prog (R F_slices_IndexFunc_api_Cond) 2 (inlK (opAt (opsOf (sub (B F_slices_ContainsFunc_api_Cond) [1, 0])) 2) ⟨fr 9 [(0, .val (.list aln2 al3)), (1, .clo F_cond_Holds_1 [.ptr 0 3 0]), (4, .val (.bool false)), (5, .val (.list aln2 al3)), (6, .clo F_cond_Holds_1 [.ptr 0 3 0])], [bx 129 [(2, some [.val (.int .i64 akin1), .val (.list aln2 al3), .val (.int .i64 aa4), .val (.int .i64 ab5), .val (.int .i64 aperfro6), .val (.int .i64 aperto7), .val (.int .i64 aperday9), .val (.list atexn10 atex11)]), (3, some [.val (.str btyp12), .val (.int .i64 bsal13), .val (.int .i64 bday14), .val (.int .i64 bmin15), .val (.int .i64 bsto17), .val (.int .i64 btra18), .val (.list bcarn19 bcar20), .val (.list bnumn21 bnum22), .val (.list bvian23 bvia24)])], bx 9 []], KK⟩ (opsK Tryz.prog (C lb n) (I8 lb n) 1 (opsOf (sub (B F_slices_ContainsFunc_api_Cond) [1, 0])) ((opsOf (sub (B F_slices_ContainsFunc_api_Cond) [1, 0])).drop 3) ((seqK (E1 lb n 1 998) (sub (B F_slices_ContainsFunc_api_Cond) [1, 0]) (sub (B F_slices_ContainsFunc_api_Cond) [1, 1]) (retK Tryz.prog (R F_slices_ContainsFunc_api_Cond) 1 (inlK (opAt (opsOf (sub (B F_cond_Holds) [1, 1, 1, 0, 1, 0, 1, 1, 1, 1, 1, 0, 0])) 3) ⟨fr 129 [(0, .val (.agg [.int .i64 akin1, .list aln2 al3, .int .i64 aa4, .int .i64 ab5, .int .i64 aperfro6, .int .i64 aperto7, .int .i64 aperday9, .list atexn10 atex11])), (1, .val (.agg [.str btyp12, .int .i64 bsal13, .int .i64 bday14, .int .i64 bmin15, .int .i64 bsto17, .int .i64 btra18, .list bcarn19 bcar20, .list bnumn21 bnum22, .list bvian23 bvia24])), (2, .ptr 0 2 0), (3, .ptr 0 3 0), (4, .val (.bool false)), (5, .clo F_cond_Holds_1 [.ptr 0 3 0]), (6, .clo F_cond_Holds_2 [.ptr 0 3 0]), (7, .clo F_cond_Holds_1 [.ptr 0 3 0]), (8, .clo F_cond_Holds_2 [.ptr 0 3 0]), (9, .ptr 0 2 0), (10, .val (.int .i64 akin1)), (11, .val (.bool (akin1 == 1))), (12, .val (.bool (akin1 == 1))), (13, .val (.bool (akin1 == 2))), (14, .val (.bool (akin1 == 2))), (20, .val (.bool (akin1 == 3))), (21, .val (.bool (akin1 == 3))), (22, .ptr 0 2 1), (23, .val (.list aln2 al3)), (24, .clo F_cond_Holds_1 [.ptr 0 3 0])], [bx 129 [(2, some [.val (.int .i64 akin1), .val (.list aln2 al3), .val (.int .i64 aa4), .val (.int .i64 ab5), .val (.int .i64 aperfro6), .val (.int .i64 aperto7), .val (.int .i64 aperday9), .val (.list atexn10 atex11)]), (3, some [.val (.str btyp12), .val (.int .i64 bsal13), .val (.int .i64 bday14), .val (.int .i64 bmin15), .val (.int .i64 bsto17), .val (.int .i64 btra18), .val (.list bcarn19 bcar20), .val (.list bnumn21 bnum22), .val (.list bvian23 bvia24)])]], KK⟩ (opsK Tryz.prog (C lb n) (I9 lb n) 0 (opsOf (sub (B F_cond_Holds) [1, 1, 1, 0, 1, 0, 1, 1, 1, 1, 1, 0, 0])) ((opsOf (sub (B F_cond_Holds) [1, 1, 1, 0, 1, 0, 1, 1, 1, 1, 1, 0, 0])).drop 4) ((seqK (E0 lb n 0 987) (sub (B F_cond_Holds) [1, 1, 1, 0, 1, 0, 1, 1, 1, 1, 1, 0, 0]) (sub (B F_cond_Holds) [1, 1, 1, 0, 1, 0, 1, 1, 1, 1, 1, 0, 1]) (condK (sub (B F_cond_Holds) [1, 1, 1, 0, 1, 0, 1, 1, 1, 1, 1, 0]) (sub (B F_cond_Holds) [1, 1, 1, 0, 1, 0, 1, 1, 1, 1, 1, 1]) (condK (sub (B F_cond_Holds) [1, 1, 1, 0, 1, 0, 1, 1, 1, 0]) (sub (B F_cond_Holds) [1, 1, 1, 0, 1, 0, 1, 1, 1, 1]) (condK (sub (B F_cond_Holds) [1, 1, 1, 0, 1, 0, 1, 0]) (sub (B F_cond_Holds) [1, 1, 1, 0, 1, 0, 1, 1]) (blockK 0 (seqK (E0 lb n 0 996) (sub (B F_cond_Holds) [1, 1, 1, 0]) (sub (B F_cond_Holds) [1, 1, 1, 1]) (retK Tryz.prog (R F_cond_Holds) 0 (outK (tightF Tryz.prog F_cond_Holds))))))))) .normal))))) .normal)))))) k85 ⟨fr 19 [(0, .val (.list aln2 al3)), (1, .clo F_cond_Holds_1 [.ptr 0 3 0]), (4, .val (.int .i64 0)), (6, .val (.list aln2 al3)), (7, .val (.int .i64 (al3.length : Int))), (8, .val (.int .i64 i73))], [bx 129 [(2, some [.val (.int .i64 akin1), .val (.list aln2 al3), .val (.int .i64 aa4), .val (.int .i64 ab5), .val (.int .i64 aperfro6), .val (.int .i64 aperto7), .val (.int .i64 aperday9), .val (.list atexn10 atex11)]), (3, some [.val (.str btyp12), .val (.int .i64 bsal13), .val (.int .i64 bday14), .val (.int .i64 bmin15), .val (.int .i64 bsto17), .val (.int .i64 btra18), .val (.list bcarn19 bcar20), .val (.list bnumn21 bnum22), .val (.list bvian23 bvia24)])], bx 9 [], bx 19 []], KK⟩)

noncomputable def cond_Holds_J4 (lb : Nat) (n : Nat) (aln2 : Bool) (al3 : List (List CV)) (akin1 : Int) (aa4 : Int) (ab5 : Int) (aperfro6 : Int) (aperto7 : Int) (aperday9 : Int) (atexn10 : Bool) (atex11 : List (List CV)) (btyp12 : List UInt8) (bsal13 : Int) (bday14 : Int) (bmin15 : Int) (bsto17 : Int) (btra18 : Int) (bcarn19 : Bool) (bcar20 : List (List CV)) (bnumn21 : Bool) (bnum22 : List (List CV)) (bvian23 : Bool) (bvia24 : List (List CV)) : Option CV :=
  hold (E2 lb n 2 998 (sub (B F_slices_IndexFunc_api_Cond) [1, 1]) (retK Tryz.prog (R F_slices_IndexFunc_api_Cond) 2 (inlK (opAt (opsOf (sub (B F_slices_ContainsFunc_api_Cond) [1, 0])) 2) ⟨fr 9 [(0, .val (.list aln2 al3)), (1, .clo F_cond_Holds_1 [.ptr 0 3 0]), (4, .val (.bool false)), (5, .val (.list aln2 al3)), (6, .clo F_cond_Holds_1 [.ptr 0 3 0])], [bx 129 [(2, some [.val (.int .i64 akin1), .val (.list aln2 al3), .val (.int .i64 aa4), .val (.int .i64 ab5), .val (.int .i64 aperfro6), .val (.int .i64 aperto7), .val (.int .i64 aperday9), .val (.list atexn10 atex11)]), (3, some [.val (.str btyp12), .val (.int .i64 bsal13), .val (.int .i64 bday14), .val (.int .i64 bmin15), .val (.int .i64 bsto17), .val (.int .i64 btra18), .val (.list bcarn19 bcar20), .val (.list bnumn21 bnum22), .val (.list bvian23 bvia24)])], bx 9 []], KK⟩ (opsK Tryz.prog (C lb n) (I8 lb n) 1 (opsOf (sub (B F_slices_ContainsFunc_api_Cond) [1, 0])) ((opsOf (sub (B F_slices_ContainsFunc_api_Cond) [1, 0])).drop 3) ((seqK (E1 lb n 1 998) (sub (B F_slices_ContainsFunc_api_Cond) [1, 0]) (sub (B F_slices_ContainsFunc_api_Cond) [1, 1]) (retK Tryz.prog (R F_slices_ContainsFunc_api_Cond) 1 (inlK (opAt (opsOf (sub (B F_cond_Holds) [1, 1, 1, 0, 1, 0, 1, 1, 1, 1, 1, 0, 0])) 3) ⟨fr 129 [(0, .val (.agg [.int .i64 akin1, .list aln2 al3, .int .i64 aa4, .int .i64 ab5, .int .i64 aperfro6, .int .i64 aperto7, .int .i64 aperday9, .list atexn10 atex11])), (1, .val (.agg [.str btyp12, .int .i64 bsal13, .int .i64 bday14, .int .i64 bmin15, .int .i64 bsto17, .int .i64 btra18, .list bcarn19 bcar20, .list bnumn21 bnum22, .list bvian23 bvia24])), (2, .ptr 0 2 0), (3, .ptr 0 3 0), (4, .val (.bool false)), (5, .clo F_cond_Holds_1 [.ptr 0 3 0]), (6, .clo F_cond_Holds_2 [.ptr 0 3 0]), (7, .clo F_cond_Holds_1 [.ptr 0 3 0]), (8, .clo F_cond_Holds_2 [.ptr 0 3 0]), (9, .ptr 0 2 0), (10, .val (.int .i64 akin1)), (11, .val (.bool (akin1 == 1))), (12, .val (.bool (akin1 == 1))), (13, .val (.bool (akin1 == 2))), (14, .val (.bool (akin1 == 2))), (20, .val (.bool (akin1 == 3))), (21, .val (.bool (akin1 == 3))), (22, .ptr 0 2 1), (23, .val (.list aln2 al3)), (24, .clo F_cond_Holds_1 [.ptr 0 3 0])], [bx 129 [(2, some [.val (.int .i64 akin1), .val (.list aln2 al3), .val (.int .i64 aa4), .val (.int .i64 ab5), .val (.int .i64 aperfro6), .val (.int .i64 aperto7), .val (.int .i64 aperday9), .val (.list atexn10 atex11)]), (3, some [.val (.str btyp12), .val (.int .i64 bsal13), .val (.int .i64 bday14), .val (.int .i64 bmin15), .val (.int .i64 bsto17), .val (.int .i64 btra18), .val (.list bcarn19 bcar20), .val (.list bnumn21 bnum22), .val (.list bvian23 bvia24)])]], KK⟩ (opsK Tryz.prog (C lb n) (I9 lb n) 0 (opsOf (sub (B F_cond_Holds) [1, 1, 1, 0, 1, 0, 1, 1, 1, 1, 1, 0, 0])) ((opsOf (sub (B F_cond_Holds) [1, 1, 1, 0, 1, 0, 1, 1, 1, 1, 1, 0, 0])).drop 4) ((seqK (E0 lb n 0 987) (sub (B F_cond_Holds) [1, 1, 1, 0, 1, 0, 1, 1, 1, 1, 1, 0, 0]) (sub (B F_cond_Holds) [1, 1, 1, 0, 1, 0, 1, 1, 1, 1, 1, 0, 1]) (condK (sub (B F_cond_Holds) [1, 1, 1, 0, 1, 0, 1, 1, 1, 1, 1, 0]) (sub (B F_cond_Holds) [1, 1, 1, 0, 1, 0, 1, 1, 1, 1, 1, 1]) (condK (sub (B F_cond_Holds) [1, 1, 1, 0, 1, 0, 1, 1, 1, 0]) (sub (B F_cond_Holds) [1, 1, 1, 0, 1, 0, 1, 1, 1, 1]) (condK (sub (B F_cond_Holds) [1, 1, 1, 0, 1, 0, 1, 0]) (sub (B F_cond_Holds) [1, 1, 1, 0, 1, 0, 1, 1]) (blockK 0 (seqK (E0 lb n 0 996) (sub (B F_cond_Holds) [1, 1, 1, 0]) (sub (B F_cond_Holds) [1, 1, 1, 1]) (retK Tryz.prog (R F_cond_Holds) 0 (outK (tightF Tryz.prog F_cond_Holds))))))))) .normal))))) .normal)))) ⟨fr 19 [(0, .val (.list aln2 al3)), (1, .clo F_cond_Holds_1 [.ptr 0 3 0]), (4, .val (.int .i64 0))], [bx 129 [(2, some [.val (.int .i64 akin1), .val (.list aln2 al3), .val (.int .i64 aa4), .val (.int .i64 ab5), .val (.int .i64 aperfro6), .val (.int .i64 aperto7), .val (.int .i64 aperday9), .val (.list atexn10 atex11)]), (3, some [.val (.str btyp12), .val (.int .i64 bsal13), .val (.int .i64 bday14), .val (.int .i64 bmin15), .val (.int .i64 bsto17), .val (.int .i64 btra18), .val (.list bcarn19 bcar20), .val (.list bnumn21 bnum22), .val (.list bvian23 bvia24)])], bx 9 [], bx 19 []], KK⟩)

theorem cond_Holds_J4_eq (lb : Nat) (n : Nat) (aln2 : Bool) (al3 : List (List CV)) (akin1 : Int) (aa4 : Int) (ab5 : Int) (aperfro6 : Int) (aperto7 : Int) (aperday9 : Int) (atexn10 : Bool) (atex11 : List (List CV)) (btyp12 : List UInt8) (bsal13 : Int) (bday14 : Int) (bmin15 : Int) (bsto17 : Int) (btra18 : Int) (bcarn19 : Bool) (bcar20 : List (List CV)) (bnumn21 : Bool) (bnum22 : List (List CV)) (bvian23 : Bool) (bvia24 : List (List CV)) :
  cond_Holds_J4 lb n aln2 al3 akin1 aa4 ab5 aperfro6 aperto7 aperday9 atexn10 atex11 btyp12 bsal13 bday14 bmin15 bsto17 btra18 bcarn19 bcar20 bnumn21 bnum22 bvian23 bvia24 =
 some (.bool false) := (hold_eq _).trans (by kernel_rfl)

theorem cond_Holds_L3_succ (lb : Nat) (n k85 : Nat) (aln2 : Bool) (al3 : List (List CV)) (akin1 : Int) (aa4 : Int) (ab5 : Int) (aperfro6 : Int) (aperto7 : Int) (aperday9 : Int) (atexn10 : Bool) (atex11 : List (List CV)) (btyp12 : List UInt8) (bsal13 : Int) (bday14 : Int) (bmin15 : Int) (bsto17 : Int) (btra18 : Int) (bcarn19 : Bool) (bcar20 : List (List CV)) (bnumn21 : Bool) (bnum22 : List (List CV)) (bvian23 : Bool) (bvia24 : List (List CV)) (i73 : Int) :
  cond_Holds_L3 lb n (k85 + 1) aln2 al3 akin1 aa4 ab5 aperfro6 aperto7 aperday9 atexn10 atex11 btyp12 bsal13 bday14 bmin15 bsto17 btra18 bcarn19 bcar20 bnumn21 bnum22 bvian23 bvia24 i73 =
 bif (decide (i73 < (al3.length : Int))) then
 (optO (atL al3 i73) fun c86 =>
 chkO (c86.length == 8) (
 optO (c86[0]?) fun x87 =>
 optO (c86[1]?) fun x88 =>
 optO (c86[2]?) fun x89 =>
 optO (c86[3]?) fun x90 =>
 optO (c86[4]?) fun x91 =>
 optO (c86[5]?) fun x92 =>
 optO (c86[6]?) fun x93 =>
 optO (c86[7]?) fun x94 =>
 optO (C lb n F_cond_Holds [.agg [x87, x88, x89, x90, x91, x92, x93, x94], .agg [.str btyp12, .int .i64 bsal13, .int .i64 bday14, .int .i64 bmin15, .int .i64 bsto17, .int .i64 btra18, .list bcarn19 bcar20, .list bnumn21 bnum22, .list bvian23 bvia24]]) fun r95 =>
 optO (CV.asB r95) fun b96 =>
 bif b96 then
 (some (.bool (decide (i73 ≥ 0))))
 else
 (cond_Holds_L3 lb n k85 aln2 al3 akin1 aa4 ab5 aperfro6 aperto7 aperday9 atexn10 atex11 btyp12 bsal13 bday14 bmin15 bsto17 btra18 bcarn19 bcar20 bnumn21 bnum22 bvian23 bvia24 (IntKind.wrap .i64 (i73 + 1)))))
 else
 (cond_Holds_J4 lb n aln2 al3 akin1 aa4 ab5 aperfro6 aperto7 aperday9 atexn10 atex11 btyp12 bsal13 bday14 bmin15 bsto17 btra18 bcarn19 bcar20 bnumn21 bnum22 bvian23 bvia24 ) := (hold_eq _).trans (by kernel_rfl)

theorem cond_Holds_L3_zero (lb : Nat) (n : Nat) (aln2 : Bool) (al3 : List (List CV)) (akin1 : Int) (aa4 : Int) (ab5 : Int) (aperfro6 : Int) (aperto7 : Int) (aperday9 : Int) (atexn10 : Bool) (atex11 : List (List CV)) (btyp12 : List UInt8) (bsal13 : Int) (bday14 : Int) (bmin15 : Int) (bsto17 : Int) (btra18 : Int) (bcarn19 : Bool) (bcar20 : List (List CV)) (bnumn21 : Bool) (bnum22 : List (List CV)) (bvian23 : Bool) (bvia24 : List (List CV)) (i73 : Int) :
  cond_Holds_L3 lb n 0 aln2 al3 akin1 aa4 ab5 aperfro6 aperto7 aperday9 atexn10 atex11 btyp12 bsal13 bday14 bmin15 bsto17 btra18 bcarn19 bcar20 bnumn21 bnum22 bvian23 bvia24 i73 =
 none := (hold_eq _).trans (by kernel_rfl)

noncomputable def cond_Holds_L5 (lb : Nat) (n : Nat) (k120 : Nat) (aln2 : Bool) (al3 : List (List CV)) (akin1 : Int) (aa4 : Int) (ab5 : Int) (aperfro6 : Int) (aperto7 : Int) (aperday9 : Int) (atexn10 : Bool) (atex11 : List (List CV)) (btyp12 : List UInt8) (bsal13 : Int) (bday14 : Int) (bmin15 : Int) (bsto17 : Int) (btra18 : Int) (bcarn19 : Bool) (bcar20 : List (List CV)) (bnumn21 : Bool) (bnum22 : List (List CV)) (bvian23 : Bool) (bvia24 : List (List CV)) (i108 : Int) : Option CV :=
  hold (loopC (E2 lb n 2 995) 2 (loopTemps (sub (B F_slices_IndexFunc_api_Cond) [1, 0, 1, 0, 0]) ++ [5]) [] (sub (B F_slices_IndexFunc_api_Cond) [1, 0, 1, 0, 0]) (blockK 0 (seqK (E2 lb n 2 998) (sub (B F_slices_IndexFunc_api_Cond) [1, 0]) (sub (B F_slices_IndexFunc_api_Cond) [1, 1]) (retK Tryz.prog (R F_slices_IndexFunc_api_Cond) 2 (inlK (opAt (opsOf (sub (B F_slices_ContainsFunc_api_Cond) [1, 0])) 2) ⟨fr 9 [(0, .val (.list aln2 al3)), (1, .clo F_cond_Holds_2 [.ptr 0 3 0]), (4, .val (.bool false)), (5, .val (.list aln2 al3)), (6, .clo F_cond_Holds_2 [.ptr 0 3 0])], [bx 129 [(2, some [.val (.int .i64 akin1), .val (.list aln2 al3), .val (.int .i64 aa4), .val (.int .i64 ab5), .val (.int .i64 aperfro6), .val (.int .i64 aperto7), .val (.int .i64 aperday9), .val (.list atexn10 atex11)]), (3, some [.val (.str btyp12), .val (.int .i64 bsal13), .val (.int .i64 bday14), .val (.int .i64 bmin15), .val (.int .i64 bsto17), .val (.int .i64 btra18), .val (.list bcarn19 bcar20), .val (.list bnumn21 bnum22), .val (.list bvian23 bvia24)])], bx 9 []], KK⟩ (opsK Tryz.prog (C lb n) (I8 lb n) 1 (opsOf (sub (B F_slices_ContainsFunc_api_Cond) [1, 0])) ((opsOf (sub (B F_slices_ContainsFunc_api_Cond) [1, 0])).drop 3) ((seqK (E1 lb n 1 998) (sub (B F_slices_ContainsFunc_api_Cond) [1, 0]) (sub (B F_slices_ContainsFunc_api_Cond) [1, 1]) (retK Tryz.prog (R F_slices_ContainsFunc_api_Cond) 1 (inlK (opAt (opsOf (sub (B F_cond_Holds) [1, 1, 1, 0, 1, 0, 1, 1, 1, 1, 1, 1, 1, 0, 0])) 3) ⟨fr 129 [(0, .val (.agg [.int .i64 akin1, .list aln2 al3, .int .i64 aa4, .int .i64 ab5, .int .i64 aperfro6, .int .i64 aperto7, .int .i64 aperday9, .list atexn10 atex11])), (1, .val (.agg [.str btyp12, .int .i64 bsal13, .int .i64 bday14, .int .i64 bmin15, .int .i64 bsto17, .int .i64 btra18, .list bcarn19 bcar20, .list bnumn21 bnum22, .list bvian23 bvia24])), (2, .ptr 0 2 0), (3, .ptr 0 3 0), (4, .val (.bool false)), (5, .clo F_cond_Holds_1 [.ptr 0 3 0]), (6, .clo F_cond_Holds_2 [.ptr 0 3 0]), (7, .clo F_cond_Holds_1 [.ptr 0 3 0]), (8, .clo F_cond_Holds_2 [.ptr 0 3 0]), (9, .ptr 0 2 0), (10, .val (.int .i64 akin1)), (11, .val (.bool (akin1 == 1))), (12, .val (.bool (akin1 == 1))), (13, .val (.bool (akin1 == 2))), (14, .val (.bool (akin1 == 2))), (20, .val (.bool (akin1 == 3))), (21, .val (.bool (akin1 == 3))), (26, .val (.bool (akin1 == 4))), (27, .val (.bool (akin1 == 4))), (28, .ptr 0 2 1), (29, .val (.list aln2 al3)), (30, .clo F_cond_Holds_2 [.ptr 0 3 0])], [bx 129 [(2, some [.val (.int .i64 akin1), .val (.list aln2 al3), .val (.int .i64 aa4), .val (.int .i64 ab5), .val (.int .i64 aperfro6), .val (.int .i64 aperto7), .val (.int .i64 aperday9), .val (.list atexn10 atex11)]), (3, some [.val (.str btyp12), .val (.int .i64 bsal13), .val (.int .i64 bday14), .val (.int .i64 bmin15), .val (.int .i64 bsto17), .val (.int .i64 btra18), .val (.list bcarn19 bcar20), .val (.list bnumn21 bnum22), .val (.list bvian23 bvia24)])]], KK⟩ (opsK Tryz.prog (C lb n) (I9 lb n) 0 (opsOf (sub (B F_cond_Holds) [1, 1, 1, 0, 1, 0, 1, 1, 1, 1, 1, 1, 1, 0, 0])) ((opsOf (sub (B F_cond_Holds) [1, 1, 1, 0, 1, 0, 1, 1, 1, 1, 1, 1, 1, 0, 0])).drop 4) ((seqK (E0 lb n 0 985) (sub (B F_cond_Holds) [1, 1, 1, 0, 1, 0, 1, 1, 1, 1, 1, 1, 1, 0, 0]) (sub (B F_cond_Holds) [1, 1, 1, 0, 1, 0, 1, 1, 1, 1, 1, 1, 1, 0, 1]) (condK (sub (B F_cond_Holds) [1, 1, 1, 0, 1, 0, 1, 1, 1, 1, 1, 1, 1, 0]) (sub (B F_cond_Holds) [1, 1, 1, 0, 1, 0, 1, 1, 1, 1, 1, 1, 1, 1]) (condK (sub (B F_cond_Holds) [1, 1, 1, 0, 1, 0, 1, 1, 1, 1, 1, 0]) (sub (B F_cond_Holds) [1, 1, 1, 0, 1, 0, 1, 1, 1, 1, 1, 1]) (condK (sub (B F_cond_Holds) [1, 1, 1, 0, 1, 0, 1, 1, 1, 0]) (sub (B F_cond_Holds) [1, 1, 1, 0, 1, 0, 1, 1, 1, 1]) (condK (sub (B F_cond_Holds) [1, 1, 1, 0, 1, 0, 1, 0]) (sub (B F_cond_Holds) [1, 1, 1, 0, 1, 0, 1, 1]) (blockK 0 (seqK (E0 lb n 0 996) (sub (B F_cond_Holds) [1, 1, 1, 0]) (sub (B F_cond_Holds) [1, 1, 1, 1]) (retK Tryz.prog (R F_cond_Holds) 0 (outK (tightF Tryz.prog F_cond_Holds)))))))))) .normal))))) .normal)))))) k120 ⟨fr 19 [(0, .val (.list aln2 al3)), (1, .clo F_cond_Holds_2 [.ptr 0 3 0]), (4, .val (.int .i64 0)), (6, .val (.list aln2 al3)), (7, .val (.int .i64 (al3.length : Int))), (8, .val (.int .i64 i108))], [bx 129 [(2, some [.val (.int .i64 akin1), .val (.list aln2 al3), .val (.int .i64 aa4), .val (.int .i64 ab5), .val (.int .i64 aperfro6), .val (.int .i64 aperto7), .val (.int .i64 aperday9), .val (.list atexn10 atex11)]), (3, some [.val (.str btyp12), .val (.int .i64 bsal13), .val (.int .i64 bday14), .val (.int .i64 bmin15), .val (.int .i64 bsto17), .val (.int .i64 btra18), .val (.list bcarn19 bcar20), .val (.list bnumn21 bnum22), .val (.list bvian23 bvia24)])], bx 9 [], bx 19 []], KK⟩)

noncomputable def cond_Holds_J6 (lb : Nat) (n : Nat) (aln2 : Bool) (al3 : List (List CV)) (akin1 : Int) (aa4 : Int) (ab5 : Int) (aperfro6 : Int) (aperto7 : Int) (aperday9 : Int) (atexn10 : Bool) (atex11 : List (List CV)) (btyp12 : List UInt8) (bsal13 : Int) (bday14 : Int) (bmin15 : Int) (bsto17 : Int) (btra18 : Int) (bcarn19 : Bool) (bcar20 : List (List CV)) (bnumn21 : Bool) (bnum22 : List (List CV)) (bvian23 : Bool) (bvia24 : List (List CV)) : Option CV :=
  hold (E2 lb n 2 998 (sub (B F_slices_IndexFunc_api_Cond) [1, 1]) (retK Tryz.prog (R F_slices_IndexFunc_api_Cond) 2 (inlK (opAt (opsOf (sub (B F_slices_ContainsFunc_api_Cond) [1, 0])) 2) ⟨fr 9 [(0, .val (.list aln2 al3)), (1, .clo F_cond_Holds_2 [.ptr 0 3 0]), (4, .val (.bool false)), (5, .val (.list aln2 al3)), (6, .clo F_cond_Holds_2 [.ptr 0 3 0])], [bx 129 [(2, some [.val (.int .i64 akin1), .val (.list aln2 al3), .val (.int .i64 aa4), .val (.int .i64 ab5), .val (.int .i64 aperfro6), .val (.int .i64 aperto7), .val (.int .i64 aperday9), .val (.list atexn10 atex11)]), (3, some [.val (.str btyp12), .val (.int .i64 bsal13), .val (.int .i64 bday14), .val (.int .i64 bmin15), .val (.int .i64 bsto17), .val (.int .i64 btra18), .val (.list bcarn19 bcar20), .val (.list bnumn21 bnum22), .val (.list bvian23 bvia24)])], bx 9 []], KK⟩ (opsK Tryz.prog (C lb n) (I8 lb n) 1 (opsOf (sub (B F_slices_ContainsFunc_api_Cond) [1, 0])) ((opsOf (sub (B F_slices_ContainsFunc_api_Cond) [1, 0])).drop 3) ((seqK (E1 lb n 1 998) (sub (B F_slices_ContainsFunc_api_Cond) [1, 0]) (sub (B F_slices_ContainsFunc_api_Cond) [1, 1]) (retK Tryz.prog (R F_slices_ContainsFunc_api_Cond) 1 (inlK (opAt (opsOf (sub (B F_cond_Holds) [1, 1, 1, 0, 1, 0, 1, 1, 1, 1, 1, 1, 1, 0, 0])) 3) ⟨fr 129 [(0, .val (.agg [.int .i64 akin1, .list aln2 al3, .int .i64 aa4, .int .i64 ab5, .int .i64 aperfro6, .int .i64 aperto7, .int .i64 aperday9, .list atexn10 atex11])), (1, .val (.agg [.str btyp12, .int .i64 bsal13, .int .i64 bday14, .int .i64 bmin15, .int .i64 bsto17, .int .i64 btra18, .list bcarn19 bcar20, .list bnumn21 bnum22, .list bvian23 bvia24])), (2, .ptr 0 2 0), (3, .ptr 0 3 0), (4, .val (.bool false)), (5, .clo F_cond_Holds_1 [.ptr 0 3 0]), (6, .clo F_cond_Holds_2 [.ptr 0 3 0]), (7, .clo F_cond_Holds_1 [.ptr 0 3 0]), (8, .clo F_cond_Holds_2 [.ptr 0 3 0]), (9, .ptr 0 2 0), (10, .val (.int .i64 akin1)), (11, .val (.bool (akin1 == 1))), (12, .val (.bool (akin1 == 1))), (13, .val (.bool (akin1 == 2))), (14, .val (.bool (akin1 == 2))), (20, .val (.bool (akin1 == 3))), (21, .val (.bool (akin1 == 3))), (26, .val (.bool (akin1 == 4))), (27, .val (.bool (akin1 == 4))), (28, .ptr 0 2 1), (29, .val (.list aln2 al3)), (30, .clo F_cond_Holds_2 [.ptr 0 3 0])], [bx 129 [(2, some [.val (.int .i64 akin1), .val (.list aln2 al3), .val (.int .i64 aa4), .val (.int .i64 ab5), .val (.int .i64 aperfro6), .val (.int .i64 aperto7), .val (.int .i64 aperday9), .val (.list atexn10 atex11)]), (3, some [.val (.str btyp12), .val (.int .i64 bsal13), .val (.int .i64 bday14), .val (.int .i64 bmin15), .val (.int .i64 bsto17), .val (.int .i64 btra18), .val (.list bcarn19 bcar20), .val (.list bnumn21 bnum22), .val (.list bvian23 bvia24)])]], KK⟩ (opsK Tryz.prog (C lb n) (I9 lb n) 0 (opsOf (sub (B F_cond_Holds) [1, 1, 1, 0, 1, 0, 1, 1, 1, 1, 1, 1, 1, 0, 0])) ((opsOf (sub (B F_cond_Holds) [1, 1, 1, 0, 1, 0, 1, 1, 1, 1, 1, 1, 1, 0, 0])).drop 4) ((seqK (E0 lb n 0 985) (sub (B F_cond_Holds) [1, 1, 1, 0, 1, 0, 1, 1, 1, 1, 1, 1, 1, 0, 0]) (sub (B F_cond_Holds) [1, 1, 1, 0, 1, 0, 1, 1, 1, 1, 1, 1, 1, 0, 1]) (condK (sub (B F_cond_Holds) [1, 1, 1, 0, 1, 0, 1, 1, 1, 1, 1, 1, 1, 0]) (sub (B F_cond_Holds) [1, 1, 1, 0, 1, 0, 1, 1, 1, 1, 1, 1, 1, 1]) (condK (sub (B F_cond_Holds) [1, 1, 1, 0, 1, 0, 1, 1, 1, 1, 1, 0]) (sub (B F_cond_Holds) [1, 1, 1, 0, 1, 0, 1, 1, 1, 1, 1, 1]) (condK (sub (B F_cond_Holds) [1, 1, 1, 0, 1, 0, 1, 1, 1, 0]) (sub (B F_cond_Holds) [1, 1, 1, 0, 1, 0, 1, 1, 1, 1]) (condK (sub (B F_cond_Holds) [1, 1, 1, 0, 1, 0, 1, 0]) (sub (B F_cond_Holds) [1, 1, 1, 0, 1, 0, 1, 1]) (blockK 0 (seqK (E0 lb n 0 996) (sub (B F_cond_Holds) [1, 1, 1, 0]) (sub (B F_cond_Holds) [1, 1, 1, 1]) (retK Tryz.prog (R F_cond_Holds) 0 (outK (tightF Tryz.prog F_cond_Holds)))))))))) .normal))))) .normal)))) ⟨fr 19 [(0, .val (.list aln2 al3)), (1, .clo F_cond_Holds_2 [.ptr 0 3 0]), (4, .val (.int .i64 0))], [bx 129 [(2, some [.val (.int .i64 akin1), .val (.list aln2 al3), .val (.int .i64 aa4), .val (.int .i64 ab5), .val (.int .i64 aperfro6), .val (.int .i64 aperto7), .val (.int .i64 aperday9), .val (.list atexn10 atex11)]), (3, some [.val (.str btyp12), .val (.int .i64 bsal13), .val (.int .i64 bday14), .val (.int .i64 bmin15), .val (.int .i64 bsto17), .val (.int .i64 btra18), .val (.list bcarn19 bcar20), .val (.list bnumn21 bnum22), .val (.list bvian23 bvia24)])], bx 9 [], bx 19 []], KK⟩)

theorem cond_Holds_J6_eq (lb : Nat) (n : Nat) (aln2 : Bool) (al3 : List (List CV)) (akin1 : Int) (aa4 : Int) (ab5 : Int) (aperfro6 : Int) (aperto7 : Int) (aperday9 : Int) (atexn10 : Bool) (atex11 : List (List CV)) (btyp12 : List UInt8) (bsal13 : Int) (bday14 : Int) (bmin15 : Int) (bsto17 : Int) (btra18 : Int) (bcarn19 : Bool) (bcar20 : List (List CV)) (bnumn21 : Bool) (bnum22 : List (List CV)) (bvian23 : Bool) (bvia24 : List (List CV)) :
  cond_Holds_J6 lb n aln2 al3 akin1 aa4 ab5 aperfro6 aperto7 aperday9 atexn10 atex11 btyp12 bsal13 bday14 bmin15 bsto17 btra18 bcarn19 bcar20 bnumn21 bnum22 bvian23 bvia24 =
 some (.bool false) := (hold_eq _).trans (by kernel_rfl)

theorem cond_Holds_L5_succ (lb : Nat) (n k120 : Nat) (aln2 : Bool) (al3 : List (List CV)) (akin1 : Int) (aa4 : Int) (ab5 : Int) (aperfro6 : Int) (aperto7 : Int) (aperday9 : Int) (atexn10 : Bool) (atex11 : List (List CV)) (btyp12 : List UInt8) (bsal13 : Int) (bday14 : Int) (bmin15 : Int) (bsto17 : Int) (btra18 : Int) (bcarn19 : Bool) (bcar20 : List (List CV)) (bnumn21 : Bool) (bnum22 : List (List CV)) (bvian23 : Bool) (bvia24 : List (List CV)) (i108 : Int) :
  cond_Holds_L5 lb n (k120 + 1) aln2 al3 akin1 aa4 ab5 aperfro6 aperto7 aperday9 atexn10 atex11 btyp12 bsal13 bday14 bmin15 bsto17 btra18 bcarn19 bcar20 bnumn21 bnum22 bvian23 bvia24 i108 =
 bif (decide (i108 < (al3.length : Int))) then
 (optO (atL al3 i108) fun c121 =>
 chkO (c121.length == 8) (
 optO (c121[0]?) fun x122 =>
 optO (c121[1]?) fun x123 =>
 optO (c121[2]?) fun x124 =>
 optO (c121[3]?) fun x125 =>
 optO (c121[4]?) fun x126 =>
 optO (c121[5]?) fun x127 =>
 optO (c121[6]?) fun x128 =>
 optO (c121[7]?) fun x129 =>
 optO (C lb n F_cond_Holds [.agg [x122, x123, x124, x125, x126, x127, x128, x129], .agg [.str btyp12, .int .i64 bsal13, .int .i64 bday14, .int .i64 bmin15, .int .i64 bsto17, .int .i64 btra18, .list bcarn19 bcar20, .list bnumn21 bnum22, .list bvian23 bvia24]]) fun r130 =>
 optO (CV.asB r130) fun b131 =>
 bif (!b131) then
 (some (.bool (decide (i108 ≥ 0))))
 else
 (cond_Holds_L5 lb n k120 aln2 al3 akin1 aa4 ab5 aperfro6 aperto7 aperday9 atexn10 atex11 btyp12 bsal13 bday14 bmin15 bsto17 btra18 bcarn19 bcar20 bnumn21 bnum22 bvian23 bvia24 (IntKind.wrap .i64 (i108 + 1)))))
 else
 (cond_Holds_J6 lb n aln2 al3 akin1 aa4 ab5 aperfro6 aperto7 aperday9 atexn10 atex11 btyp12 bsal13 bday14 bmin15 bsto17 btra18 bcarn19 bcar20 bnumn21 bnum22 bvian23 bvia24 ) := (hold_eq _).trans (by kernel_rfl)

theorem cond_Holds_L5_zero (lb : Nat) (n : Nat) (aln2 : Bool) (al3 : List (List CV)) (akin1 : Int) (aa4 : Int) (ab5 : Int) (aperfro6 : Int) (aperto7 : Int) (aperday9 : Int) (atexn10 : Bool) (atex11 : List (List CV)) (btyp12 : List UInt8) (bsal13 : Int) (bday14 : Int) (bmin15 : Int) (bsto17 : Int) (btra18 : Int) (bcarn19 : Bool) (bcar20 : List (List CV)) (bnumn21 : Bool) (bnum22 : List (List CV)) (bvian23 : Bool) (bvia24 : List (List CV)) (i108 : Int) :
  cond_Holds_L5 lb n 0 aln2 al3 akin1 aa4 ab5 aperfro6 aperto7 aperday9 atexn10 atex11 btyp12 bsal13 bday14 bmin15 bsto17 btra18 bcarn19 bcar20 bnumn21 bnum22 bvian23 bvia24 i108 =
 none := (hold_eq _).trans (by kernel_rfl)

noncomputable def cond_Holds_L7 (lb : Nat) (n : Nat) (k144 : Nat) (bnumn21 : Bool) (bnum22 : List (List CV)) (akin1 : Int) (aln2 : Bool) (al3 : List (List CV)) (aa4 : Int) (ab5 : Int) (aperfro6 : Int) (aperto7 : Int) (aperday9 : Int) (atexn10 : Bool) (atex11 : List (List CV)) (btyp12 : List UInt8) (bsal13 : Int) (bday14 : Int) (bmin15 : Int) (bsto17 : Int) (btra18 : Int) (bcarn19 : Bool) (bcar20 : List (List CV)) (bvian23 : Bool) (bvia24 : List (List CV)) (i139 : Int) : Option CV :=
  hold (loopC (E2 lb n 2 995) 2 (loopTemps (sub (B F_slices_IndexFunc_int) [1, 0, 1, 0, 0]) ++ [5]) [] (sub (B F_slices_IndexFunc_int) [1, 0, 1, 0, 0]) (blockK 0 (seqK (E2 lb n 2 998) (sub (B F_slices_IndexFunc_int) [1, 0]) (sub (B F_slices_IndexFunc_int) [1, 1]) (retK Tryz.prog (R F_slices_IndexFunc_int) 2 (inlK (opAt (opsOf (sub (B F_slices_ContainsFunc_int) [1, 0])) 2) ⟨fr 9 [(0, .val (.list bnumn21 bnum22)), (1, .clo F_cond_Holds_3 [.ptr 0 2 0]), (4, .val (.bool false)), (5, .val (.list bnumn21 bnum22)), (6, .clo F_cond_Holds_3 [.ptr 0 2 0])], [bx 129 [(2, some [.val (.int .i64 akin1), .val (.list aln2 al3), .val (.int .i64 aa4), .val (.int .i64 ab5), .val (.int .i64 aperfro6), .val (.int .i64 aperto7), .val (.int .i64 aperday9), .val (.list atexn10 atex11)]), (3, some [.val (.str btyp12), .val (.int .i64 bsal13), .val (.int .i64 bday14), .val (.int .i64 bmin15), .val (.int .i64 bsto17), .val (.int .i64 btra18), .val (.list bcarn19 bcar20), .val (.list bnumn21 bnum22), .val (.list bvian23 bvia24)])], bx 9 []], KK⟩ (opsK Tryz.prog (C lb n) (I8 lb n) 1 (opsOf (sub (B F_slices_ContainsFunc_int) [1, 0])) ((opsOf (sub (B F_slices_ContainsFunc_int) [1, 0])).drop 3) ((seqK (E1 lb n 1 998) (sub (B F_slices_ContainsFunc_int) [1, 0]) (sub (B F_slices_ContainsFunc_int) [1, 1]) (retK Tryz.prog (R F_slices_ContainsFunc_int) 1 (inlK (opAt (opsOf (sub (B F_cond_Holds) [1, 1, 1, 0, 1, 0, 1, 1, 1, 1, 1, 1, 1, 1, 1, 1, 1, 1, 1, 1, 1, 1, 1, 1, 1, 1, 1, 1, 1, 0, 0])) 3) ⟨fr 129 [(0, .val (.agg [.int .i64 akin1, .list aln2 al3, .int .i64 aa4, .int .i64 ab5, .int .i64 aperfro6, .int .i64 aperto7, .int .i64 aperday9, .list atexn10 atex11])), (1, .val (.agg [.str btyp12, .int .i64 bsal13, .int .i64 bday14, .int .i64 bmin15, .int .i64 bsto17, .int .i64 btra18, .list bcarn19 bcar20, .list bnumn21 bnum22, .list bvian23 bvia24])), (2, .ptr 0 2 0), (3, .ptr 0 3 0), (4, .val (.bool false)), (5, .clo F_cond_Holds_1 [.ptr 0 3 0]), (6, .clo F_cond_Holds_2 [.ptr 0 3 0]), (7, .clo F_cond_Holds_1 [.ptr 0 3 0]), (8, .clo F_cond_Holds_2 [.ptr 0 3 0]), (9, .ptr 0 2 0), (10, .val (.int .i64 akin1)), (11, .val (.bool (akin1 == 1))), (12, .val (.bool (akin1 == 1))), (13, .val (.bool (akin1 == 2))), (14, .val (.bool (akin1 == 2))), (20, .val (.bool (akin1 == 3))), (21, .val (.bool (akin1 == 3))), (26, .val (.bool (akin1 == 4))), (27, .val (.bool (akin1 == 4))), (32, .val (.bool (akin1 == 5))), (33, .val (.bool (akin1 == 5))), (39, .val (.bool (akin1 == 6))), (40, .val (.bool (akin1 == 6))), (46, .val (.bool (akin1 == 7))), (47, .val (.bool (akin1 == 7))), (56, .val (.bool (akin1 == 8))), (57, .val (.bool (akin1 == 8))), (87, .val (.bool (akin1 == 9))), (88, .val (.bool (akin1 == 9))), (94, .val (.bool (akin1 == 10))), (95, .val (.bool (akin1 == 10))), (101, .val (.bool (akin1 == 11))), (102, .val (.bool (akin1 == 11))), (108, .val (.bool (akin1 == 12))), (109, .val (.bool (akin1 == 12))), (110, .ptr 0 3 7), (111, .val (.list bnumn21 bnum22)), (112, .clo F_cond_Holds_3 [.ptr 0 2 0])], [bx 129 [(2, some [.val (.int .i64 akin1), .val (.list aln2 al3), .val (.int .i64 aa4), .val (.int .i64 ab5), .val (.int .i64 aperfro6), .val (.int .i64 aperto7), .val (.int .i64 aperday9), .val (.list atexn10 atex11)]), (3, some [.val (.str btyp12), .val (.int .i64 bsal13), .val (.int .i64 bday14), .val (.int .i64 bmin15), .val (.int .i64 bsto17), .val (.int .i64 btra18), .val (.list bcarn19 bcar20), .val (.list bnumn21 bnum22), .val (.list bvian23 bvia24)])]], KK⟩ (opsK Tryz.prog (C lb n) (I9 lb n) 0 (opsOf (sub (B F_cond_Holds) [1, 1, 1, 0, 1, 0, 1, 1, 1, 1, 1, 1, 1, 1, 1, 1, 1, 1, 1, 1, 1, 1, 1, 1, 1, 1, 1, 1, 1, 0, 0])) ((opsOf (sub (B F_cond_Holds) [1, 1, 1, 0, 1, 0, 1, 1, 1, 1, 1, 1, 1, 1, 1, 1, 1, 1, 1, 1, 1, 1, 1, 1, 1, 1, 1, 1, 1, 0, 0])).drop 4) ((seqK (E0 lb n 0 969) (sub (B F_cond_Holds) [1, 1, 1, 0, 1, 0, 1, 1, 1, 1, 1, 1, 1, 1, 1, 1, 1, 1, 1, 1, 1, 1, 1, 1, 1, 1, 1, 1, 1, 0, 0]) (sub (B F_cond_Holds) [1, 1, 1, 0, 1, 0, 1, 1, 1, 1, 1, 1, 1, 1, 1, 1, 1, 1, 1, 1, 1, 1, 1, 1, 1, 1, 1, 1, 1, 0, 1]) (condK (sub (B F_cond_Holds) [1, 1, 1, 0, 1, 0, 1, 1, 1, 1, 1, 1, 1, 1, 1, 1, 1, 1, 1, 1, 1, 1, 1, 1, 1, 1, 1, 1, 1, 0]) (sub (B F_cond_Holds) [1, 1, 1, 0, 1, 0, 1, 1, 1, 1, 1, 1, 1, 1, 1, 1, 1, 1, 1, 1, 1, 1, 1, 1, 1, 1, 1, 1, 1, 1]) (condK (sub (B F_cond_Holds) [1, 1, 1, 0, 1, 0, 1, 1, 1, 1, 1, 1, 1, 1, 1, 1, 1, 1, 1, 1, 1, 1, 1, 1, 1, 1, 1, 0]) (sub (B F_cond_Holds) [1, 1, 1, 0, 1, 0, 1, 1, 1, 1, 1, 1, 1, 1, 1, 1, 1, 1, 1, 1, 1, 1, 1, 1, 1, 1, 1, 1]) (condK (sub (B F_cond_Holds) [1, 1, 1, 0, 1, 0, 1, 1, 1, 1, 1, 1, 1, 1, 1, 1, 1, 1, 1, 1, 1, 1, 1, 1, 1, 0]) (sub (B F_cond_Holds) [1, 1, 1, 0, 1, 0, 1, 1, 1, 1, 1, 1, 1, 1, 1, 1, 1, 1, 1, 1, 1, 1, 1, 1, 1, 1]) (condK (sub (B F_cond_Holds) [1, 1, 1, 0, 1, 0, 1, 1, 1, 1, 1, 1, 1, 1, 1, 1, 1, 1, 1, 1, 1, 1, 1, 0]) (sub (B F_cond_Holds) [1, 1, 1, 0, 1, 0, 1, 1, 1, 1, 1, 1, 1, 1, 1, 1, 1, 1, 1, 1, 1, 1, 1, 1]) (condK (sub (B F_cond_Holds) [1, 1, 1, 0, 1, 0, 1, 1, 1, 1, 1, 1, 1, 1, 1, 1, 1, 1, 1, 1, 1, 0]) (sub (B F_cond_Holds) [1, 1, 1, 0, 1, 0, 1, 1, 1, 1, 1, 1, 1, 1, 1, 1, 1, 1, 1, 1, 1, 1]) (condK (sub (B F_cond_Holds) [1, 1, 1, 0, 1, 0, 1, 1, 1, 1, 1, 1, 1, 1, 1, 1, 1, 1, 1, 0]) (sub (B F_cond_Holds) [1, 1, 1, 0, 1, 0, 1, 1, 1, 1, 1, 1, 1, 1, 1, 1, 1, 1, 1, 1]) (condK (sub (B F_cond_Holds) [1, 1, 1, 0, 1, 0, 1, 1, 1, 1, 1, 1, 1, 1, 1, 1, 1, 0]) (sub (B F_cond_Holds) [1, 1, 1, 0, 1, 0, 1, 1, 1, 1, 1, 1, 1, 1, 1, 1, 1, 1]) (condK (sub (B F_cond_Holds) [1, 1, 1, 0, 1, 0, 1, 1, 1, 1, 1, 1, 1, 1, 1, 0]) (sub (B F_cond_Holds) [1, 1, 1, 0, 1, 0, 1, 1, 1, 1, 1, 1, 1, 1, 1, 1]) (condK (sub (B F_cond_Holds) [1, 1, 1, 0, 1, 0, 1, 1, 1, 1, 1, 1, 1, 0]) (sub (B F_cond_Holds) [1, 1, 1, 0, 1, 0, 1, 1, 1, 1, 1, 1, 1, 1]) (condK (sub (B F_cond_Holds) [1, 1, 1, 0, 1, 0, 1, 1, 1, 1, 1, 0]) (sub (B F_cond_Holds) [1, 1, 1, 0, 1, 0, 1, 1, 1, 1, 1, 1]) (condK (sub (B F_cond_Holds) [1, 1, 1, 0, 1, 0, 1, 1, 1, 0]) (sub (B F_cond_Holds) [1, 1, 1, 0, 1, 0, 1, 1, 1, 1]) (condK (sub (B F_cond_Holds) [1, 1, 1, 0, 1, 0, 1, 0]) (sub (B F_cond_Holds) [1, 1, 1, 0, 1, 0, 1, 1]) (blockK 0 (seqK (E0 lb n 0 996) (sub (B F_cond_Holds) [1, 1, 1, 0]) (sub (B F_cond_Holds) [1, 1, 1, 1]) (retK Tryz.prog (R F_cond_Holds) 0 (outK (tightF Tryz.prog F_cond_Holds)))))))))))))))))) .normal))))) .normal)))))) k144 ⟨fr 19 [(0, .val (.list bnumn21 bnum22)), (1, .clo F_cond_Holds_3 [.ptr 0 2 0]), (4, .val (.int .i64 0)), (6, .val (.list bnumn21 bnum22)), (7, .val (.int .i64 (bnum22.length : Int))), (8, .val (.int .i64 i139))], [bx 129 [(2, some [.val (.int .i64 akin1), .val (.list aln2 al3), .val (.int .i64 aa4), .val (.int .i64 ab5), .val (.int .i64 aperfro6), .val (.int .i64 aperto7), .val (.int .i64 aperday9), .val (.list atexn10 atex11)]), (3, some [.val (.str btyp12), .val (.int .i64 bsal13), .val (.int .i64 bday14), .val (.int .i64 bmin15), .val (.int .i64 bsto17), .val (.int .i64 btra18), .val (.list bcarn19 bcar20), .val (.list bnumn21 bnum22), .val (.list bvian23 bvia24)])], bx 9 [], bx 19 []], KK⟩)

noncomputable def cond_Holds_J8 (lb : Nat) (n : Nat) (bnumn21 : Bool) (bnum22 : List (List CV)) (akin1 : Int) (aln2 : Bool) (al3 : List (List CV)) (aa4 : Int) (ab5 : Int) (aperfro6 : Int) (aperto7 : Int) (aperday9 : Int) (atexn10 : Bool) (atex11 : List (List CV)) (btyp12 : List UInt8) (bsal13 : Int) (bday14 : Int) (bmin15 : Int) (bsto17 : Int) (btra18 : Int) (bcarn19 : Bool) (bcar20 : List (List CV)) (bvian23 : Bool) (bvia24 : List (List CV)) : Option CV :=
  hold (E2 lb n 2 998 (sub (B F_slices_IndexFunc_int) [1, 1]) (retK Tryz.prog (R F_slices_IndexFunc_int) 2 (inlK (opAt (opsOf (sub (B F_slices_ContainsFunc_int) [1, 0])) 2) ⟨fr 9 [(0, .val (.list bnumn21 bnum22)), (1, .clo F_cond_Holds_3 [.ptr 0 2 0]), (4, .val (.bool false)), (5, .val (.list bnumn21 bnum22)), (6, .clo F_cond_Holds_3 [.ptr 0 2 0])], [bx 129 [(2, some [.val (.int .i64 akin1), .val (.list aln2 al3), .val (.int .i64 aa4), .val (.int .i64 ab5), .val (.int .i64 aperfro6), .val (.int .i64 aperto7), .val (.int .i64 aperday9), .val (.list atexn10 atex11)]), (3, some [.val (.str btyp12), .val (.int .i64 bsal13), .val (.int .i64 bday14), .val (.int .i64 bmin15), .val (.int .i64 bsto17), .val (.int .i64 btra18), .val (.list bcarn19 bcar20), .val (.list bnumn21 bnum22), .val (.list bvian23 bvia24)])], bx 9 []], KK⟩ (opsK Tryz.prog (C lb n) (I8 lb n) 1 (opsOf (sub (B F_slices_ContainsFunc_int) [1, 0])) ((opsOf (sub (B F_slices_ContainsFunc_int) [1, 0])).drop 3) ((seqK (E1 lb n 1 998) (sub (B F_slices_ContainsFunc_int) [1, 0]) (sub (B F_slices_ContainsFunc_int) [1, 1]) (retK Tryz.prog (R F_slices_ContainsFunc_int) 1 (inlK (opAt (opsOf (sub (B F_cond_Holds) [1, 1, 1, 0, 1, 0, 1, 1, 1, 1, 1, 1, 1, 1, 1, 1, 1, 1, 1, 1, 1, 1, 1, 1, 1, 1, 1, 1, 1, 0, 0])) 3) ⟨fr 129 [(0, .val (.agg [.int .i64 akin1, .list aln2 al3, .int .i64 aa4, .int .i64 ab5, .int .i64 aperfro6, .int .i64 aperto7, .int .i64 aperday9, .list atexn10 atex11])), (1, .val (.agg [.str btyp12, .int .i64 bsal13, .int .i64 bday14, .int .i64 bmin15, .int .i64 bsto17, .int .i64 btra18, .list bcarn19 bcar20, .list bnumn21 bnum22, .list bvian23 bvia24])), (2, .ptr 0 2 0), (3, .ptr 0 3 0), (4, .val (.bool false)), (5, .clo F_cond_Holds_1 [.ptr 0 3 0]), (6, .clo F_cond_Holds_2 [.ptr 0 3 0]), (7, .clo F_cond_Holds_1 [.ptr 0 3 0]), (8, .clo F_cond_Holds_2 [.ptr 0 3 0]), (9, .ptr 0 2 0), (10, .val (.int .i64 akin1)), (11, .val (.bool (akin1 == 1))), (12, .val (.bool (akin1 == 1))), (13, .val (.bool (akin1 == 2))), (14, .val (.bool (akin1 == 2))), (20, .val (.bool (akin1 == 3))), (21, .val (.bool (akin1 == 3))), (26, .val (.bool (akin1 == 4))), (27, .val (.bool (akin1 == 4))), (32, .val (.bool (akin1 == 5))), (33, .val (.bool (akin1 == 5))), (39, .val (.bool (akin1 == 6))), (40, .val (.bool (akin1 == 6))), (46, .val (.bool (akin1 == 7))), (47, .val (.bool (akin1 == 7))), (56, .val (.bool (akin1 == 8))), (57, .val (.bool (akin1 == 8))), (87, .val (.bool (akin1 == 9))), (88, .val (.bool (akin1 == 9))), (94, .val (.bool (akin1 == 10))), (95, .val (.bool (akin1 == 10))), (101, .val (.bool (akin1 == 11))), (102, .val (.bool (akin1 == 11))), (108, .val (.bool (akin1 == 12))), (109, .val (.bool (akin1 == 12))), (110, .ptr 0 3 7), (111, .val (.list bnumn21 bnum22)), (112, .clo F_cond_Holds_3 [.ptr 0 2 0])], [bx 129 [(2, some [.val (.int .i64 akin1), .val (.list aln2 al3), .val (.int .i64 aa4), .val (.int .i64 ab5), .val (.int .i64 aperfro6), .val (.int .i64 aperto7), .val (.int .i64 aperday9), .val (.list atexn10 atex11)]), (3, some [.val (.str btyp12), .val (.int .i64 bsal13), .val (.int .i64 bday14), .val (.int .i64 bmin15), .val (.int .i64 bsto17), .val (.int .i64 btra18), .val (.list bcarn19 bcar20), .val (.list bnumn21 bnum22), .val (.list bvian23 bvia24)])]], KK⟩ (opsK Tryz.prog (C lb n) (I9 lb n) 0 (opsOf (sub (B F_cond_Holds) [1, 1, 1, 0, 1, 0, 1, 1, 1, 1, 1, 1, 1, 1, 1, 1, 1, 1, 1, 1, 1, 1, 1, 1, 1, 1, 1, 1, 1, 0, 0])) ((opsOf (sub (B F_cond_Holds) [1, 1, 1, 0, 1, 0, 1, 1, 1, 1, 1, 1, 1, 1, 1, 1, 1, 1, 1, 1, 1, 1, 1, 1, 1, 1, 1, 1, 1, 0, 0])).drop 4) ((seqK (E0 lb n 0 969) (sub (B F_cond_Holds) [1, 1, 1, 0, 1, 0, 1, 1, 1, 1, 1, 1, 1, 1, 1, 1, 1, 1, 1, 1, 1, 1, 1, 1, 1, 1, 1, 1, 1, 0, 0]) (sub (B F_cond_Holds) [1, 1, 1, 0, 1, 0, 1, 1, 1, 1, 1, 1, 1, 1, 1, 1, 1, 1, 1, 1, 1, 1, 1, 1, 1, 1, 1, 1, 1, 0, 1]) (condK (sub (B F_cond_Holds) [1, 1, 1, 0, 1, 0, 1, 1, 1, 1, 1, 1, 1, 1, 1, 1, 1, 1, 1, 1, 1, 1, 1, 1, 1, 1, 1, 1, 1, 0]) (sub (B F_cond_Holds) [1, 1, 1, 0, 1, 0, 1, 1, 1, 1, 1, 1, 1, 1, 1, 1, 1, 1, 1, 1, 1, 1, 1, 1, 1, 1, 1, 1, 1, 1]) (condK (sub (B F_cond_Holds) [1, 1, 1, 0, 1, 0, 1, 1, 1, 1, 1, 1, 1, 1, 1, 1, 1, 1, 1, 1, 1, 1, 1, 1, 1, 1, 1, 0]) (sub (B F_cond_Holds) [1, 1, 1, 0, 1, 0, 1, 1, 1, 1, 1, 1, 1, 1, 1, 1, 1, 1, 1, 1, 1, 1, 1, 1, 1, 1, 1, 1]) (condK (sub (B F_cond_Holds) [1, 1, 1, 0, 1, 0, 1, 1, 1, 1, 1, 1, 1, 1, 1, 1, 1, 1, 1, 1, 1, 1, 1, 1, 1, 0]) (sub (B F_cond_Holds) [1, 1, 1, 0, 1, 0, 1, 1, 1, 1, 1, 1, 1, 1, 1, 1, 1, 1, 1, 1, 1, 1, 1, 1, 1, 1]) (condK (sub (B F_cond_Holds) [1, 1, 1, 0, 1, 0, 1, 1, 1, 1, 1, 1, 1, 1, 1, 1, 1, 1, 1, 1, 1, 1, 1, 0]) (sub (B F_cond_Holds) [1, 1, 1, 0, 1, 0, 1, 1, 1, 1, 1, 1, 1, 1, 1, 1, 1, 1, 1, 1, 1, 1, 1, 1]) (condK (sub (B F_cond_Holds) [1, 1, 1, 0, 1, 0, 1, 1, 1, 1, 1, 1, 1, 1, 1, 1, 1, 1, 1, 1, 1, 0]) (sub (B F_cond_Holds) [1, 1, 1, 0, 1, 0, 1, 1, 1, 1, 1, 1, 1, 1, 1, 1, 1, 1, 1, 1, 1, 1]) (condK (sub (B F_cond_Holds) [1, 1, 1, 0, 1, 0, 1, 1, 1, 1, 1, 1, 1, 1, 1, 1, 1, 1, 1, 0]) (sub (B F_cond_Holds) [1, 1, 1, 0, 1, 0, 1, 1, 1, 1, 1, 1, 1, 1, 1, 1, 1, 1, 1, 1]) (condK (sub (B F_cond_Holds) [1, 1, 1, 0, 1, 0, 1, 1, 1, 1, 1, 1, 1, 1, 1, 1, 1, 0]) (sub (B F_cond_Holds) [1, 1, 1, 0, 1, 0, 1, 1, 1, 1, 1, 1, 1, 1, 1, 1, 1, 1]) (condK (sub (B F_cond_Holds) [1, 1, 1, 0, 1, 0, 1, 1, 1, 1, 1, 1, 1, 1, 1, 0]) (sub (B F_cond_Holds) [1, 1, 1, 0, 1, 0, 1, 1, 1, 1, 1, 1, 1, 1, 1, 1]) (condK (sub (B F_cond_Holds) [1, 1, 1, 0, 1, 0, 1, 1, 1, 1, 1, 1, 1, 0]) (sub (B F_cond_Holds) [1, 1, 1, 0, 1, 0, 1, 1, 1, 1, 1, 1, 1, 1]) (condK (sub (B F_cond_Holds) [1, 1, 1, 0, 1, 0, 1, 1, 1, 1, 1, 0]) (sub (B F_cond_Holds) [1, 1, 1, 0, 1, 0, 1, 1, 1, 1, 1, 1]) (condK (sub (B F_cond_Holds) [1, 1, 1, 0, 1, 0, 1, 1, 1, 0]) (sub (B F_cond_Holds) [1, 1, 1, 0, 1, 0, 1, 1, 1, 1]) (condK (sub (B F_cond_Holds) [1, 1, 1, 0, 1, 0, 1, 0]) (sub (B F_cond_Holds) [1, 1, 1, 0, 1, 0, 1, 1]) (blockK 0 (seqK (E0 lb n 0 996) (sub (B F_cond_Holds) [1, 1, 1, 0]) (sub (B F_cond_Holds) [1, 1, 1, 1]) (retK Tryz.prog (R F_cond_Holds) 0 (outK (tightF Tryz.prog F_cond_Holds)))))))))))))))))) .normal))))) .normal)))) ⟨fr 19 [(0, .val (.list bnumn21 bnum22)), (1, .clo F_cond_Holds_3 [.ptr 0 2 0]), (4, .val (.int .i64 0))], [bx 129 [(2, some [.val (.int .i64 akin1), .val (.list aln2 al3), .val (.int .i64 aa4), .val (.int .i64 ab5), .val (.int .i64 aperfro6), .val (.int .i64 aperto7), .val (.int .i64 aperday9), .val (.list atexn10 atex11)]), (3, some [.val (.str btyp12), .val (.int .i64 bsal13), .val (.int .i64 bday14), .val (.int .i64 bmin15), .val (.int .i64 bsto17), .val (.int .i64 btra18), .val (.list bcarn19 bcar20), .val (.list bnumn21 bnum22), .val (.list bvian23 bvia24)])], bx 9 [], bx 19 []], KK⟩)

theorem cond_Holds_J8_eq (lb : Nat) (n : Nat) (bnumn21 : Bool) (bnum22 : List (List CV)) (akin1 : Int) (aln2 : Bool) (al3 : List (List CV)) (aa4 : Int) (ab5 : Int) (aperfro6 : Int) (aperto7 : Int) (aperday9 : Int) (atexn10 : Bool) (atex11 : List (List CV)) (btyp12 : List UInt8) (bsal13 : Int) (bday14 : Int) (bmin15 : Int) (bsto17 : Int) (btra18 : Int) (bcarn19 : Bool) (bcar20 : List (List CV)) (bvian23 : Bool) (bvia24 : List (List CV)) :
  cond_Holds_J8 lb n bnumn21 bnum22 akin1 aln2 al3 aa4 ab5 aperfro6 aperto7 aperday9 atexn10 atex11 btyp12 bsal13 bday14 bmin15 bsto17 btra18 bcarn19 bcar20 bvian23 bvia24 =
 some (.bool true) := (hold_eq _).trans (by kernel_rfl)

theorem cond_Holds_L7_succ (lb : Nat) (n k144 : Nat) (bnumn21 : Bool) (bnum22 : List (List CV)) (akin1 : Int) (aln2 : Bool) (al3 : List (List CV)) (aa4 : Int) (ab5 : Int) (aperfro6 : Int) (aperto7 : Int) (aperday9 : Int) (atexn10 : Bool) (atex11 : List (List CV)) (btyp12 : List UInt8) (bsal13 : Int) (bday14 : Int) (bmin15 : Int) (bsto17 : Int) (btra18 : Int) (bcarn19 : Bool) (bcar20 : List (List CV)) (bvian23 : Bool) (bvia24 : List (List CV)) (i139 : Int) :
  cond_Holds_L7 lb n (k144 + 1) bnumn21 bnum22 akin1 aln2 al3 aa4 ab5 aperfro6 aperto7 aperday9 atexn10 atex11 btyp12 bsal13 bday14 bmin15 bsto17 btra18 bcarn19 bcar20 bvian23 bvia24 i139 =
 bif (decide (i139 < (bnum22.length : Int))) then
 (optO (atL bnum22 i139) fun c145 =>
 chkO (c145.length == 1) (
 optO (c145[0]?) fun x146 =>
 optO (CV.asI .i64 x146) fun i147 =>
 bif (decide (i147 < aa4)) then
 (some (.bool (!(decide (i139 ≥ 0)))))
 else
 (optO (CV.asI .i64 x146) fun i148 =>
 bif (decide (i148 > ab5)) then
 (some (.bool (!(decide (i139 ≥ 0)))))
 else
 (cond_Holds_L7 lb n k144 bnumn21 bnum22 akin1 aln2 al3 aa4 ab5 aperfro6 aperto7 aperday9 atexn10 atex11 btyp12 bsal13 bday14 bmin15 bsto17 btra18 bcarn19 bcar20 bvian23 bvia24 (IntKind.wrap .i64 (i139 + 1))))))
 else
 (cond_Holds_J8 lb n bnumn21 bnum22 akin1 aln2 al3 aa4 ab5 aperfro6 aperto7 aperday9 atexn10 atex11 btyp12 bsal13 bday14 bmin15 bsto17 btra18 bcarn19 bcar20 bvian23 bvia24 ) := (hold_eq _).trans (by kernel_rfl)

theorem cond_Holds_L7_zero (lb : Nat) (n : Nat) (bnumn21 : Bool) (bnum22 : List (List CV)) (akin1 : Int) (aln2 : Bool) (al3 : List (List CV)) (aa4 : Int) (ab5 : Int) (aperfro6 : Int) (aperto7 : Int) (aperday9 : Int) (atexn10 : Bool) (atex11 : List (List CV)) (btyp12 : List UInt8) (bsal13 : Int) (bday14 : Int) (bmin15 : Int) (bsto17 : Int) (btra18 : Int) (bcarn19 : Bool) (bcar20 : List (List CV)) (bvian23 : Bool) (bvia24 : List (List CV)) (i139 : Int) :
  cond_Holds_L7 lb n 0 bnumn21 bnum22 akin1 aln2 al3 aa4 ab5 aperfro6 aperto7 aperday9 atexn10 atex11 btyp12 bsal13 bday14 bmin15 bsto17 btra18 bcarn19 bcar20 bvian23 bvia24 i139 =
 none := (hold_eq _).trans (by kernel_rfl)

theorem cond_Holds_eq (lb : Nat) (n : Nat) (akin1 : Int) (aln2 : Bool) (al3 : List (List CV)) (aa4 : Int) (ab5 : Int) (aperfro6 : Int) (aperto7 : Int) (aperday9 : Int) (atexn10 : Bool) (atex11 : List (List CV)) (btyp12 : List UInt8) (bsal13 : Int) (bday14 : Int) (bmin15 : Int) (bsto17 : Int) (btra18 : Int) (bcarn19 : Bool) (bcar20 : List (List CV)) (bnumn21 : Bool) (bnum22 : List (List CV)) (bvian23 : Bool) (bvia24 : List (List CV)) :
  top lb n F_cond_Holds [.agg [.int .i64 akin1, .list aln2 al3, .int .i64 aa4, .int .i64 ab5, .int .i64 aperfro6, .int .i64 aperto7, .int .i64 aperday9, .list atexn10 atex11], .agg [.str btyp12, .int .i64 bsal13, .int .i64 bday14, .int .i64 bmin15, .int .i64 bsto17, .int .i64 btra18, .list bcarn19 bcar20, .list bnumn21 bnum22, .list bvian23 bvia24]] =
 bif (akin1 == 1) then
 (some (.bool true))
 else
 (bif (akin1 == 2) then
 (cond_Holds_L1 lb n n aln2 al3 akin1 aa4 ab5 aperfro6 aperto7 aperday9 atexn10 atex11 btyp12 bsal13 bday14 bmin15 bsto17 btra18 bcarn19 bcar20 bnumn21 bnum22 bvian23 bvia24 0)
 else
 (bif (akin1 == 3) then
 (cond_Holds_L3 lb n n aln2 al3 akin1 aa4 ab5 aperfro6 aperto7 aperday9 atexn10 atex11 btyp12 bsal13 bday14 bmin15 bsto17 btra18 bcarn19 bcar20 bnumn21 bnum22 bvian23 bvia24 0)
 else
 (bif (akin1 == 4) then
 (cond_Holds_L5 lb n n aln2 al3 akin1 aa4 ab5 aperfro6 aperto7 aperday9 atexn10 atex11 btyp12 bsal13 bday14 bmin15 bsto17 btra18 bcarn19 bcar20 bnumn21 bnum22 bvian23 bvia24 0)
 else
 (bif (akin1 == 5) then
 (optO (C lb n F_period_Has [.agg [.int .i64 aperfro6, .int .i64 aperto7, .int .i64 aperday9], .int .i64 bday14]) fun r132 =>
 some (r132))
 else
 (bif (akin1 == 6) then
 (optO (C lb n F_period_Has [.agg [.int .i64 aperfro6, .int .i64 aperto7, .int .i64 aperday9], .int .i64 bsal13]) fun r133 =>
 some (r133))
 else
 (bif (akin1 == 7) then
 (some (.bool (decide ((IntKind.wrap .i64 (bday14 - bsal13)) ≥ aa4))))
 else
 (bif (akin1 == 8) then
 (bif (decide (aa4 ≤ ab5)) then
 (bif (decide (bmin15 ≥ aa4)) then
 (some (.bool (decide (bmin15 ≤ ab5))))
 else
 (some (.bool false)))
 else
 (bif (decide (bmin15 ≥ aa4)) then
 (some (.bool true))
 else
 (some (.bool (decide (bmin15 ≤ ab5))))))
 else
 (bif (akin1 == 9) then
 (some (.bool (decide (bsto17 ≤ aa4))))
 else
 (bif (akin1 == 10) then
 (some (.bool (decide (btra18 ≤ aa4))))
 else
 (bif (akin1 == 11) then
 (optO (C lb n F_cond_among [.list bcarn19 bcar20, .list atexn10 atex11]) fun r134 =>
 some (r134))
 else
 (bif (akin1 == 12) then
 (cond_Holds_L7 lb n n bnumn21 bnum22 akin1 aln2 al3 aa4 ab5 aperfro6 aperto7 aperday9 atexn10 atex11 btyp12 bsal13 bday14 bmin15 bsto17 btra18 bcarn19 bcar20 bvian23 bvia24 0)
 else
 (bif (akin1 == 13) then
 (optO (C lb n F_cond_among [.list bvian23 bvia24, .list atexn10 atex11]) fun r149 =>
 some (r149))
 else
 (bif (akin1 == 14) then
 (optO (C lb n F_slices_Contains_string [.list atexn10 atex11, .str btyp12]) fun r150 =>
 some (r150))
 else
 (some (.bool false))))))))))))))) := by kernel_rfl

/-! airline/cond.Why -/
noncomputable def cond_Why_L1 (lb : Nat) (n : Nat) (k51 : Nat) (akin1 : Int) (aln2 : Bool) (al3 : List (List CV)) (aa4 : Int) (ab5 : Int) (aperfro6 : Int) (aperto7 : Int) (aperday9 : Int) (atexn10 : Bool) (atex11 : List (List CV)) (btyp12 : List UInt8) (bsal13 : Int) (bday14 : Int) (bmin15 : Int) (bsto17 : Int) (btra18 : Int) (bcarn19 : Bool) (bcar20 : List (List CV)) (bnumn21 : Bool) (bnum22 : List (List CV)) (bvian23 : Bool) (bvia24 : List (List CV)) (i39 : Int) : Option CV :=
  hold (loopC (E1 lb n 1 995) 1 (loopTemps (sub (B F_slices_IndexFunc_api_Cond) [1, 0, 1, 0, 0]) ++ [5]) [] (sub (B F_slices_IndexFunc_api_Cond) [1, 0, 1, 0, 0]) (blockK 0 (seqK (E1 lb n 1 998) (sub (B F_slices_IndexFunc_api_Cond) [1, 0]) (sub (B F_slices_IndexFunc_api_Cond) [1, 1]) (retK Tryz.prog (R F_slices_IndexFunc_api_Cond) 1 (inlK (opAt (opsOf (sub (B F_cond_Why) [1, 1, 1, 0])) 3) ⟨fr 35 [(0, .val (.agg [.int .i64 akin1, .list aln2 al3, .int .i64 aa4, .int .i64 ab5, .int .i64 aperfro6, .int .i64 aperto7, .int .i64 aperday9, .list atexn10 atex11])), (1, .val (.agg [.str btyp12, .int .i64 bsal13, .int .i64 bday14, .int .i64 bmin15, .int .i64 bsto17, .int .i64 btra18, .list bcarn19 bcar20, .list bnumn21 bnum22, .list bvian23 bvia24])), (2, .ptr 0 2 0), (3, .ptr 0 3 0), (4, .lst true true 3 []), (5, .val (.bool false)), (15, .ptr 0 2 1), (16, .val (.list aln2 al3)), (17, .clo F_cond_Why_1 [.ptr 0 3 0])], [bx 35 [(2, some [.val (.int .i64 akin1), .val (.list aln2 al3), .val (.int .i64 aa4), .val (.int .i64 ab5), .val (.int .i64 aperfro6), .val (.int .i64 aperto7), .val (.int .i64 aperday9), .val (.list atexn10 atex11)]), (3, some [.val (.str btyp12), .val (.int .i64 bsal13), .val (.int .i64 bday14), .val (.int .i64 bmin15), .val (.int .i64 bsto17), .val (.int .i64 btra18), .val (.list bcarn19 bcar20), .val (.list bnumn21 bnum22), .val (.list bvian23 bvia24)])]], KK⟩ (opsK Tryz.prog (C lb n) (I9 lb n) 0 (opsOf (sub (B F_cond_Why) [1, 1, 1, 0])) ((opsOf (sub (B F_cond_Why) [1, 1, 1, 0])).drop 4) ((seqK (E0 lb n 0 996) (sub (B F_cond_Why) [1, 1, 1, 0]) (sub (B F_cond_Why) [1, 1, 1, 1]) (retK Tryz.prog (R F_cond_Why) 0 (outK (tightF Tryz.prog F_cond_Why)))) .normal)))))) k51 ⟨fr 19 [(0, .val (.list aln2 al3)), (1, .clo F_cond_Why_1 [.ptr 0 3 0]), (4, .val (.int .i64 0)), (6, .val (.list aln2 al3)), (7, .val (.int .i64 (al3.length : Int))), (8, .val (.int .i64 i39))], [bx 35 [(2, some [.val (.int .i64 akin1), .val (.list aln2 al3), .val (.int .i64 aa4), .val (.int .i64 ab5), .val (.int .i64 aperfro6), .val (.int .i64 aperto7), .val (.int .i64 aperday9), .val (.list atexn10 atex11)]), (3, some [.val (.str btyp12), .val (.int .i64 bsal13), .val (.int .i64 bday14), .val (.int .i64 bmin15), .val (.int .i64 bsto17), .val (.int .i64 btra18), .val (.list bcarn19 bcar20), .val (.list bnumn21 bnum22), .val (.list bvian23 bvia24)])], bx 19 []], KK⟩)

noncomputable def cond_Why_J2 (lb : Nat) (n : Nat) (akin1 : Int) (aln2 : Bool) (al3 : List (List CV)) (aa4 : Int) (ab5 : Int) (aperfro6 : Int) (aperto7 : Int) (aperday9 : Int) (atexn10 : Bool) (atex11 : List (List CV)) (btyp12 : List UInt8) (bsal13 : Int) (bday14 : Int) (bmin15 : Int) (bsto17 : Int) (btra18 : Int) (bcarn19 : Bool) (bcar20 : List (List CV)) (bnumn21 : Bool) (bnum22 : List (List CV)) (bvian23 : Bool) (bvia24 : List (List CV)) : Option CV :=
  hold (E1 lb n 1 998 (sub (B F_slices_IndexFunc_api_Cond) [1, 1]) (retK Tryz.prog (R F_slices_IndexFunc_api_Cond) 1 (inlK (opAt (opsOf (sub (B F_cond_Why) [1, 1, 1, 0])) 3) ⟨fr 35 [(0, .val (.agg [.int .i64 akin1, .list aln2 al3, .int .i64 aa4, .int .i64 ab5, .int .i64 aperfro6, .int .i64 aperto7, .int .i64 aperday9, .list atexn10 atex11])), (1, .val (.agg [.str btyp12, .int .i64 bsal13, .int .i64 bday14, .int .i64 bmin15, .int .i64 bsto17, .int .i64 btra18, .list bcarn19 bcar20, .list bnumn21 bnum22, .list bvian23 bvia24])), (2, .ptr 0 2 0), (3, .ptr 0 3 0), (4, .lst true true 3 []), (5, .val (.bool false)), (15, .ptr 0 2 1), (16, .val (.list aln2 al3)), (17, .clo F_cond_Why_1 [.ptr 0 3 0])], [bx 35 [(2, some [.val (.int .i64 akin1), .val (.list aln2 al3), .val (.int .i64 aa4), .val (.int .i64 ab5), .val (.int .i64 aperfro6), .val (.int .i64 aperto7), .val (.int .i64 aperday9), .val (.list atexn10 atex11)]), (3, some [.val (.str btyp12), .val (.int .i64 bsal13), .val (.int .i64 bday14), .val (.int .i64 bmin15), .val (.int .i64 bsto17), .val (.int .i64 btra18), .val (.list bcarn19 bcar20), .val (.list bnumn21 bnum22), .val (.list bvian23 bvia24)])]], KK⟩ (opsK Tryz.prog (C lb n) (I9 lb n) 0 (opsOf (sub (B F_cond_Why) [1, 1, 1, 0])) ((opsOf (sub (B F_cond_Why) [1, 1, 1, 0])).drop 4) ((seqK (E0 lb n 0 996) (sub (B F_cond_Why) [1, 1, 1, 0]) (sub (B F_cond_Why) [1, 1, 1, 1]) (retK Tryz.prog (R F_cond_Why) 0 (outK (tightF Tryz.prog F_cond_Why)))) .normal)))) ⟨fr 19 [(0, .val (.list aln2 al3)), (1, .clo F_cond_Why_1 [.ptr 0 3 0]), (4, .val (.int .i64 0))], [bx 35 [(2, some [.val (.int .i64 akin1), .val (.list aln2 al3), .val (.int .i64 aa4), .val (.int .i64 ab5), .val (.int .i64 aperfro6), .val (.int .i64 aperto7), .val (.int .i64 aperday9), .val (.list atexn10 atex11)]), (3, some [.val (.str btyp12), .val (.int .i64 bsal13), .val (.int .i64 bday14), .val (.int .i64 bmin15), .val (.int .i64 bsto17), .val (.int .i64 btra18), .val (.list bcarn19 bcar20), .val (.list bnumn21 bnum22), .val (.list bvian23 bvia24)])], bx 19 []], KK⟩)

theorem cond_Why_J2_eq (lb : Nat) (n : Nat) (akin1 : Int) (aln2 : Bool) (al3 : List (List CV)) (aa4 : Int) (ab5 : Int) (aperfro6 : Int) (aperto7 : Int) (aperday9 : Int) (atexn10 : Bool) (atex11 : List (List CV)) (btyp12 : List UInt8) (bsal13 : Int) (bday14 : Int) (bmin15 : Int) (bsto17 : Int) (btra18 : Int) (bcarn19 : Bool) (bcar20 : List (List CV)) (bnumn21 : Bool) (bnum22 : List (List CV)) (bvian23 : Bool) (bvia24 : List (List CV)) :
  cond_Why_J2 lb n akin1 aln2 al3 aa4 ab5 aperfro6 aperto7 aperday9 atexn10 atex11 btyp12 bsal13 bday14 bmin15 bsto17 btra18 bcarn19 bcar20 bnumn21 bnum22 bvian23 bvia24 =
 some (.tup [.list true [], .bool true]) := (hold_eq _).trans (by kernel_rfl)

theorem cond_Why_L1_succ (lb : Nat) (n k51 : Nat) (akin1 : Int) (aln2 : Bool) (al3 : List (List CV)) (aa4 : Int) (ab5 : Int) (aperfro6 : Int) (aperto7 : Int) (aperday9 : Int) (atexn10 : Bool) (atex11 : List (List CV)) (btyp12 : List UInt8) (bsal13 : Int) (bday14 : Int) (bmin15 : Int) (bsto17 : Int) (btra18 : Int) (bcarn19 : Bool) (bcar20 : List (List CV)) (bnumn21 : Bool) (bnum22 : List (List CV)) (bvian23 : Bool) (bvia24 : List (List CV)) (i39 : Int) :
  cond_Why_L1 lb n (k51 + 1) akin1 aln2 al3 aa4 ab5 aperfro6 aperto7 aperday9 atexn10 atex11 btyp12 bsal13 bday14 bmin15 bsto17 btra18 bcarn19 bcar20 bnumn21 bnum22 bvian23 bvia24 i39 =
 bif (decide (i39 < (al3.length : Int))) then
 (optO (atL al3 i39) fun c52 =>
 chkO (c52.length == 8) (
 optO (c52[0]?) fun x53 =>
 optO (c52[1]?) fun x54 =>
 optO (c52[2]?) fun x55 =>
 optO (c52[3]?) fun x56 =>
 optO (c52[4]?) fun x57 =>
 optO (c52[5]?) fun x58 =>
 optO (c52[6]?) fun x59 =>
 optO (c52[7]?) fun x60 =>
 optO (C lb n F_cond_Holds [.agg [x53, x54, x55, x56, x57, x58, x59, x60], .agg [.str btyp12, .int .i64 bsal13, .int .i64 bday14, .int .i64 bmin15, .int .i64 bsto17, .int .i64 btra18, .list bcarn19 bcar20, .list bnumn21 bnum22, .list bvian23 bvia24]]) fun r61 =>
 optO (CV.asB r61) fun b62 =>
 bif (!b62) then
 (bif (decide (i39 < 0)) then
 (some (.tup [.list true [], .bool true]))
 else
 (optO (atL al3 i39) fun c63 =>
 chkO (c63.length == 8) (
 optO (c63[0]?) fun x65 =>
 optO (c63[1]?) fun x66 =>
 optO (c63[2]?) fun x67 =>
 optO (c63[3]?) fun x68 =>
 optO (c63[4]?) fun x69 =>
 optO (c63[5]?) fun x70 =>
 optO (c63[6]?) fun x71 =>
 optO (c63[7]?) fun x72 =>
 optO (C lb n F_cond_Why [.agg [x65, x66, x67, x68, x69, x70, x71, x72], .agg [.str btyp12, .int .i64 bsal13, .int .i64 bday14, .int .i64 bmin15, .int .i64 bsto17, .int .i64 btra18, .list bcarn19 bcar20, .list bnumn21 bnum22, .list bvian23 bvia24]]) fun r73 =>
 optO (CV.asT r73) fun t74 =>
 optO (t74[0]?) fun x75 =>
 optO (CV.asT r73) fun t76 =>
 optO (t76[1]?) fun x77 =>
 optO (CV.asL x75) fun p78 =>
 chkO (p78.2.all (·.length == 1)) (
 chkO (room (1 + p78.2.length) 8) (
 some (.tup [.list false ([[CV.int .i64 i39]] ++ p78.2), .bool true]))))))
 else
 (cond_Why_L1 lb n k51 akin1 aln2 al3 aa4 ab5 aperfro6 aperto7 aperday9 atexn10 atex11 btyp12 bsal13 bday14 bmin15 bsto17 btra18 bcarn19 bcar20 bnumn21 bnum22 bvian23 bvia24 (IntKind.wrap .i64 (i39 + 1)))))
 else
 (cond_Why_J2 lb n akin1 aln2 al3 aa4 ab5 aperfro6 aperto7 aperday9 atexn10 atex11 btyp12 bsal13 bday14 bmin15 bsto17 btra18 bcarn19 bcar20 bnumn21 bnum22 bvian23 bvia24 ) := (hold_eq _).trans (by kernel_rfl)

theorem cond_Why_L1_zero (lb : Nat) (n : Nat) (akin1 : Int) (aln2 : Bool) (al3 : List (List CV)) (aa4 : Int) (ab5 : Int) (aperfro6 : Int) (aperto7 : Int) (aperday9 : Int) (atexn10 : Bool) (atex11 : List (List CV)) (btyp12 : List UInt8) (bsal13 : Int) (bday14 : Int) (bmin15 : Int) (bsto17 : Int) (btra18 : Int) (bcarn19 : Bool) (bcar20 : List (List CV)) (bnumn21 : Bool) (bnum22 : List (List CV)) (bvian23 : Bool) (bvia24 : List (List CV)) (i39 : Int) :
  cond_Why_L1 lb n 0 akin1 aln2 al3 aa4 ab5 aperfro6 aperto7 aperday9 atexn10 atex11 btyp12 bsal13 bday14 bmin15 bsto17 btra18 bcarn19 bcar20 bnumn21 bnum22 bvian23 bvia24 i39 =
 none := (hold_eq _).trans (by kernel_rfl)

theorem cond_Why_eq (lb : Nat) (n : Nat) (akin1 : Int) (aln2 : Bool) (al3 : List (List CV)) (aa4 : Int) (ab5 : Int) (aperfro6 : Int) (aperto7 : Int) (aperday9 : Int) (atexn10 : Bool) (atex11 : List (List CV)) (btyp12 : List UInt8) (bsal13 : Int) (bday14 : Int) (bmin15 : Int) (bsto17 : Int) (btra18 : Int) (bcarn19 : Bool) (bcar20 : List (List CV)) (bnumn21 : Bool) (bnum22 : List (List CV)) (bvian23 : Bool) (bvia24 : List (List CV)) :
  top lb n F_cond_Why [.agg [.int .i64 akin1, .list aln2 al3, .int .i64 aa4, .int .i64 ab5, .int .i64 aperfro6, .int .i64 aperto7, .int .i64 aperday9, .list atexn10 atex11], .agg [.str btyp12, .int .i64 bsal13, .int .i64 bday14, .int .i64 bmin15, .int .i64 bsto17, .int .i64 btra18, .list bcarn19 bcar20, .list bnumn21 bnum22, .list bvian23 bvia24]] =
 optO (C lb n F_cond_Holds [.agg [.int .i64 akin1, .list aln2 al3, .int .i64 aa4, .int .i64 ab5, .int .i64 aperfro6, .int .i64 aperto7, .int .i64 aperday9, .list atexn10 atex11], .agg [.str btyp12, .int .i64 bsal13, .int .i64 bday14, .int .i64 bmin15, .int .i64 bsto17, .int .i64 btra18, .list bcarn19 bcar20, .list bnumn21 bnum22, .list bvian23 bvia24]]) fun r25 =>
 optO (CV.asB r25) fun b26 =>
 bif b26 then
 (some (.tup [.list true [], .bool false]))
 else
 (bif (akin1 != 2) then
 (some (.tup [.list true [], .bool true]))
 else
 (cond_Why_L1 lb n n akin1 aln2 al3 aa4 ab5 aperfro6 aperto7 aperday9 atexn10 atex11 btyp12 bsal13 bday14 bmin15 bsto17 btra18 bcarn19 bcar20 bnumn21 bnum22 bvian23 bvia24 0)) := by kernel_rfl

/-! airline/airlineref20.count -/
noncomputable def r20_count_L1 (lb : Nat) (n : Nat) (k44 : Nat) (an1 : Bool) (a2 : List (List CV)) (btyp3 : List UInt8) (bsal4 : Int) (bday5 : Int) (bmin6 : Int) (bsto7 : Int) (btra9 : Int) (bcarn10 : Bool) (bcar11 : List (List CV)) (bnumn12 : Bool) (bnum13 : List (List CV)) (bvian14 : Bool) (bvia15 : List (List CV)) (i30 : Int) (i31 : Int) : Option CV :=
  hold (loopC (E0 lb n 0 994) 0 (loopTemps (sub (B F_r20_count) [1, 1, 0, 1, 0, 0]) ++ []) [] (sub (B F_r20_count) [1, 1, 0, 1, 0, 0]) (blockK 0 (seqK (E0 lb n 0 997) (sub (B F_r20_count) [1, 1, 0]) (sub (B F_r20_count) [1, 1, 1]) (retK Tryz.prog (R F_r20_count) 0 (outK (tightF Tryz.prog F_r20_count))))) k44 ⟨fr 22 [(0, .val (.list an1 a2)), (1, .val (.agg [.str btyp3, .int .i64 bsal4, .int .i64 bday5, .int .i64 bmin6, .int .i64 bsto7, .int .i64 btra9, .list bcarn10 bcar11, .list bnumn12 bnum13, .list bvian14 bvia15])), (3, .ptr 0 3 0), (4, .val (.int .i64 0)), (5, .val (.int .i64 i30)), (6, .val (.int .i64 i31))], [bx 22 [(3, some [.val (.str btyp3), .val (.int .i64 bsal4), .val (.int .i64 bday5), .val (.int .i64 bmin6), .val (.int .i64 bsto7), .val (.int .i64 btra9), .val (.list bcarn10 bcar11), .val (.list bnumn12 bnum13), .val (.list bvian14 bvia15)])]], KK⟩)

noncomputable def r20_count_J2 (lb : Nat) (n : Nat) (an1 : Bool) (a2 : List (List CV)) (btyp3 : List UInt8) (bsal4 : Int) (bday5 : Int) (bmin6 : Int) (bsto7 : Int) (btra9 : Int) (bcarn10 : Bool) (bcar11 : List (List CV)) (bnumn12 : Bool) (bnum13 : List (List CV)) (bvian14 : Bool) (bvia15 : List (List CV)) (i56 : Int) (i57 : Int) : Option CV :=
  hold (E0 lb n 0 997 (sub (B F_r20_count) [1, 1, 1]) (retK Tryz.prog (R F_r20_count) 0 (outK (tightF Tryz.prog F_r20_count))) ⟨fr 22 [(0, .val (.list an1 a2)), (1, .val (.agg [.str btyp3, .int .i64 bsal4, .int .i64 bday5, .int .i64 bmin6, .int .i64 bsto7, .int .i64 btra9, .list bcarn10 bcar11, .list bnumn12 bnum13, .list bvian14 bvia15])), (3, .ptr 0 3 0), (4, .val (.int .i64 0)), (5, .val (.int .i64 i56)), (6, .val (.int .i64 i57))], [bx 22 [(3, some [.val (.str btyp3), .val (.int .i64 bsal4), .val (.int .i64 bday5), .val (.int .i64 bmin6), .val (.int .i64 bsto7), .val (.int .i64 btra9), .val (.list bcarn10 bcar11), .val (.list bnumn12 bnum13), .val (.list bvian14 bvia15)])]], KK⟩)

theorem r20_count_J2_eq (lb : Nat) (n : Nat) (an1 : Bool) (a2 : List (List CV)) (btyp3 : List UInt8) (bsal4 : Int) (bday5 : Int) (bmin6 : Int) (bsto7 : Int) (btra9 : Int) (bcarn10 : Bool) (bcar11 : List (List CV)) (bnumn12 : Bool) (bnum13 : List (List CV)) (bvian14 : Bool) (bvia15 : List (List CV)) (i56 : Int) (i57 : Int) :
  r20_count_J2 lb n an1 a2 btyp3 bsal4 bday5 bmin6 bsto7 btra9 bcarn10 bcar11 bnumn12 bnum13 bvian14 bvia15 i56 i57 =
 some (.int .i64 i56) := (hold_eq _).trans (by kernel_rfl)

theorem r20_count_L1_succ (lb : Nat) (n k44 : Nat) (an1 : Bool) (a2 : List (List CV)) (btyp3 : List UInt8) (bsal4 : Int) (bday5 : Int) (bmin6 : Int) (bsto7 : Int) (btra9 : Int) (bcarn10 : Bool) (bcar11 : List (List CV)) (bnumn12 : Bool) (bnum13 : List (List CV)) (bvian14 : Bool) (bvia15 : List (List CV)) (i30 : Int) (i31 : Int) :
  r20_count_L1 lb n (k44 + 1) an1 a2 btyp3 bsal4 bday5 bmin6 bsto7 btra9 bcarn10 bcar11 bnumn12 bnum13 bvian14 bvia15 i30 i31 =
 bif (decide (i31 < (a2.length : Int))) then
 (optO (atL a2 i31) fun c45 =>
 chkO (c45.length == 8) (
 optO (c45[0]?) fun x46 =>
 optO (c45[1]?) fun x47 =>
 optO (c45[2]?) fun x48 =>
 optO (c45[3]?) fun x49 =>
 optO (c45[4]?) fun x50 =>
 optO (c45[5]?) fun x51 =>
 optO (c45[6]?) fun x52 =>
 optO (c45[7]?) fun x53 =>
 optO (C lb n F_r20_Holds [.agg [x46, x47, x48, x49, x50, x51, x52, x53], .agg [.str btyp3, .int .i64 bsal4, .int .i64 bday5, .int .i64 bmin6, .int .i64 bsto7, .int .i64 btra9, .list bcarn10 bcar11, .list bnumn12 bnum13, .list bvian14 bvia15]]) fun r54 =>
 optO (CV.asB r54) fun b55 =>
 bif b55 then
 (r20_count_L1 lb n k44 an1 a2 btyp3 bsal4 bday5 bmin6 bsto7 btra9 bcarn10 bcar11 bnumn12 bnum13 bvian14 bvia15 (IntKind.wrap .i64 (i30 + 1)) (IntKind.wrap .i64 (i31 + 1)))
 else
 (r20_count_L1 lb n k44 an1 a2 btyp3 bsal4 bday5 bmin6 bsto7 btra9 bcarn10 bcar11 bnumn12 bnum13 bvian14 bvia15 i30 (IntKind.wrap .i64 (i31 + 1)))))
 else
 (r20_count_J2 lb n an1 a2 btyp3 bsal4 bday5 bmin6 bsto7 btra9 bcarn10 bcar11 bnumn12 bnum13 bvian14 bvia15 i30 i31) := (hold_eq _).trans (by kernel_rfl)

theorem r20_count_L1_zero (lb : Nat) (n : Nat) (an1 : Bool) (a2 : List (List CV)) (btyp3 : List UInt8) (bsal4 : Int) (bday5 : Int) (bmin6 : Int) (bsto7 : Int) (btra9 : Int) (bcarn10 : Bool) (bcar11 : List (List CV)) (bnumn12 : Bool) (bnum13 : List (List CV)) (bvian14 : Bool) (bvia15 : List (List CV)) (i30 : Int) (i31 : Int) :
  r20_count_L1 lb n 0 an1 a2 btyp3 bsal4 bday5 bmin6 bsto7 btra9 bcarn10 bcar11 bnumn12 bnum13 bvian14 bvia15 i30 i31 =
 none := (hold_eq _).trans (by kernel_rfl)

theorem r20_count_eq (lb : Nat) (n : Nat) (an1 : Bool) (a2 : List (List CV)) (btyp3 : List UInt8) (bsal4 : Int) (bday5 : Int) (bmin6 : Int) (bsto7 : Int) (btra9 : Int) (bcarn10 : Bool) (bcar11 : List (List CV)) (bnumn12 : Bool) (bnum13 : List (List CV)) (bvian14 : Bool) (bvia15 : List (List CV)) :
  top lb n F_r20_count [.list an1 a2, .agg [.str btyp3, .int .i64 bsal4, .int .i64 bday5, .int .i64 bmin6, .int .i64 bsto7, .int .i64 btra9, .list bcarn10 bcar11, .list bnumn12 bnum13, .list bvian14 bvia15]] =
 r20_count_L1 lb n n an1 a2 btyp3 bsal4 bday5 bmin6 bsto7 btra9 bcarn10 bcar11 bnumn12 bnum13 bvian14 bvia15 0 0 := by kernel_rfl

/-! airline/airlineref20.within -/
noncomputable def r20_within_L1 (lb : Nat) (n : Nat) (k15 : Nat) (an1 : Bool) (a2 : List (List CV)) (bn3 : Bool) (b4 : List (List CV)) (i10 : Int) : Option CV :=
  hold (loopC (E0 lb n 0 995) 0 (loopTemps (sub (B F_r20_within) [1, 0, 1, 0, 0]) ++ []) [] (sub (B F_r20_within) [1, 0, 1, 0, 0]) (blockK 0 (seqK (E0 lb n 0 998) (sub (B F_r20_within) [1, 0]) (sub (B F_r20_within) [1, 1]) (retK Tryz.prog (R F_r20_within) 0 (outK (tightF Tryz.prog F_r20_within))))) k15 ⟨fr 19 [(0, .val (.list an1 a2)), (1, .val (.list bn3 b4)), (4, .val (.bool false)), (5, .val (.int .i64 i10))], [bx 19 []], KK⟩)

noncomputable def r20_within_J2 (lb : Nat) (n : Nat) (an1 : Bool) (a2 : List (List CV)) (bn3 : Bool) (b4 : List (List CV)) (i21 : Int) : Option CV :=
  hold (E0 lb n 0 998 (sub (B F_r20_within) [1, 1]) (retK Tryz.prog (R F_r20_within) 0 (outK (tightF Tryz.prog F_r20_within))) ⟨fr 19 [(0, .val (.list an1 a2)), (1, .val (.list bn3 b4)), (4, .val (.bool false)), (5, .val (.int .i64 i21))], [bx 19 []], KK⟩)

theorem r20_within_J2_eq (lb : Nat) (n : Nat) (an1 : Bool) (a2 : List (List CV)) (bn3 : Bool) (b4 : List (List CV)) (i21 : Int) :
  r20_within_J2 lb n an1 a2 bn3 b4 i21 =
 some (.bool true) := (hold_eq _).trans (by kernel_rfl)

theorem r20_within_L1_succ (lb : Nat) (n k15 : Nat) (an1 : Bool) (a2 : List (List CV)) (bn3 : Bool) (b4 : List (List CV)) (i10 : Int) :
  r20_within_L1 lb n (k15 + 1) an1 a2 bn3 b4 i10 =
 bif (decide (i10 < (a2.length : Int))) then
 (optO (atL a2 i10) fun c17 =>
 chkO (c17.length == 1) (
 optO (c17[0]?) fun x18 =>
 optO (C lb n F_r20_has [.list bn3 b4, x18]) fun r19 =>
 optO (CV.asB r19) fun b20 =>
 bif (!b20) then
 (some (.bool false))
 else
 (r20_within_L1 lb n k15 an1 a2 bn3 b4 (IntKind.wrap .i64 (i10 + 1)))))
 else
 (r20_within_J2 lb n an1 a2 bn3 b4 i10) := (hold_eq _).trans (by kernel_rfl)

theorem r20_within_L1_zero (lb : Nat) (n : Nat) (an1 : Bool) (a2 : List (List CV)) (bn3 : Bool) (b4 : List (List CV)) (i10 : Int) :
  r20_within_L1 lb n 0 an1 a2 bn3 b4 i10 =
 none := (hold_eq _).trans (by kernel_rfl)

theorem r20_within_eq (lb : Nat) (n : Nat) (an1 : Bool) (a2 : List (List CV)) (bn3 : Bool) (b4 : List (List CV)) :
  top lb n F_r20_within [.list an1 a2, .list bn3 b4] =
 r20_within_L1 lb n n an1 a2 bn3 b4 0 := by kernel_rfl

/-! airline/airlineref20.between -/
noncomputable def r20_between_L1 (lb : Nat) (n : Nat) (k20 : Nat) (an1 : Bool) (a2 : List (List CV)) (b3 : Int) (c4 : Int) (i12 : Int) : Option CV :=
  hold (loopC (E0 lb n 0 995) 0 (loopTemps (sub (B F_r20_between) [1, 0, 1, 0, 0]) ++ []) [] (sub (B F_r20_between) [1, 0, 1, 0, 0]) (blockK 0 (seqK (E0 lb n 0 998) (sub (B F_r20_between) [1, 0]) (sub (B F_r20_between) [1, 1]) (retK Tryz.prog (R F_r20_between) 0 (outK (tightF Tryz.prog F_r20_between))))) k20 ⟨fr 28 [(0, .val (.list an1 a2)), (1, .val (.int .i64 b3)), (2, .val (.int .i64 c4)), (6, .val (.bool false)), (7, .val (.int .i64 i12))], [bx 28 []], KK⟩)

noncomputable def r20_between_J2 (lb : Nat) (n : Nat) (an1 : Bool) (a2 : List (List CV)) (b3 : Int) (c4 : Int) (i27 : Int) : Option CV :=
  hold (E0 lb n 0 998 (sub (B F_r20_between) [1, 1]) (retK Tryz.prog (R F_r20_between) 0 (outK (tightF Tryz.prog F_r20_between))) ⟨fr 28 [(0, .val (.list an1 a2)), (1, .val (.int .i64 b3)), (2, .val (.int .i64 c4)), (6, .val (.bool false)), (7, .val (.int .i64 i27))], [bx 28 []], KK⟩)

theorem r20_between_J2_eq (lb : Nat) (n : Nat) (an1 : Bool) (a2 : List (List CV)) (b3 : Int) (c4 : Int) (i27 : Int) :
  r20_between_J2 lb n an1 a2 b3 c4 i27 =
 some (.bool true) := (hold_eq _).trans (by kernel_rfl)

theorem r20_between_L1_succ (lb : Nat) (n k20 : Nat) (an1 : Bool) (a2 : List (List CV)) (b3 : Int) (c4 : Int) (i12 : Int) :
  r20_between_L1 lb n (k20 + 1) an1 a2 b3 c4 i12 =
 bif (decide (i12 < (a2.length : Int))) then
 (optO (atL a2 i12) fun c21 =>
 chkO (c21.length == 1) (
 optO (c21[0]?) fun x22 =>
 optO (CV.asI .i64 x22) fun i23 =>
 bif (decide (i23 < b3)) then
 (some (.bool false))
 else
 (optO (atL a2 i12) fun c24 =>
 chkO (c24.length == 1) (
 optO (c24[0]?) fun x25 =>
 optO (CV.asI .i64 x25) fun i26 =>
 bif (decide (i26 > c4)) then
 (some (.bool false))
 else
 (r20_between_L1 lb n k20 an1 a2 b3 c4 (IntKind.wrap .i64 (i12 + 1)))))))
 else
 (r20_between_J2 lb n an1 a2 b3 c4 i12) := (hold_eq _).trans (by kernel_rfl)

theorem r20_between_L1_zero (lb : Nat) (n : Nat) (an1 : Bool) (a2 : List (List CV)) (b3 : Int) (c4 : Int) (i12 : Int) :
  r20_between_L1 lb n 0 an1 a2 b3 c4 i12 =
 none := (hold_eq _).trans (by kernel_rfl)

theorem r20_between_eq (lb : Nat) (n : Nat) (an1 : Bool) (a2 : List (List CV)) (b3 : Int) (c4 : Int) :
  top lb n F_r20_between [.list an1 a2, .int .i64 b3, .int .i64 c4] =
 r20_between_L1 lb n n an1 a2 b3 c4 0 := by kernel_rfl

/-! airline/airlineref20.Holds -/
theorem r20_Holds_eq (lb : Nat) (n : Nat) (akin1 : Int) (aln2 : Bool) (al3 : List (List CV)) (aa4 : Int) (ab5 : Int) (aperfro6 : Int) (aperto7 : Int) (aperday9 : Int) (atexn10 : Bool) (atex11 : List (List CV)) (btyp12 : List UInt8) (bsal13 : Int) (bday14 : Int) (bmin15 : Int) (bsto17 : Int) (btra18 : Int) (bcarn19 : Bool) (bcar20 : List (List CV)) (bnumn21 : Bool) (bnum22 : List (List CV)) (bvian23 : Bool) (bvia24 : List (List CV)) :
  top lb n F_r20_Holds [.agg [.int .i64 akin1, .list aln2 al3, .int .i64 aa4, .int .i64 ab5, .int .i64 aperfro6, .int .i64 aperto7, .int .i64 aperday9, .list atexn10 atex11], .agg [.str btyp12, .int .i64 bsal13, .int .i64 bday14, .int .i64 bmin15, .int .i64 bsto17, .int .i64 btra18, .list bcarn19 bcar20, .list bnumn21 bnum22, .list bvian23 bvia24]] =
 bif (akin1 == 1) then
 (some (.bool true))
 else
 (bif (akin1 == 2) then
 (optO (C lb n F_r20_count [.list aln2 al3, .agg [.str btyp12, .int .i64 bsal13, .int .i64 bday14, .int .i64 bmin15, .int .i64 bsto17, .int .i64 btra18, .list bcarn19 bcar20, .list bnumn21 bnum22, .list bvian23 bvia24]]) fun r25 =>
 optO (CV.asI .i64 r25) fun i26 =>
 some (.bool (i26 == (al3.length : Int))))
 else
 (bif (akin1 == 3) then
 (optO (C lb n F_r20_count [.list aln2 al3, .agg [.str btyp12, .int .i64 bsal13, .int .i64 bday14, .int .i64 bmin15, .int .i64 bsto17, .int .i64 btra18, .list bcarn19 bcar20, .list bnumn21 bnum22, .list bvian23 bvia24]]) fun r27 =>
 optO (CV.asI .i64 r27) fun i28 =>
 some (.bool (decide (i28 > 0))))
 else
 (bif (akin1 == 4) then
 (optO (C lb n F_r20_count [.list aln2 al3, .agg [.str btyp12, .int .i64 bsal13, .int .i64 bday14, .int .i64 bmin15, .int .i64 bsto17, .int .i64 btra18, .list bcarn19 bcar20, .list bnumn21 bnum22, .list bvian23 bvia24]]) fun r29 =>
 optO (CV.asI .i64 r29) fun i30 =>
 some (.bool (i30 == 0)))
 else
 (bif (akin1 == 5) then
 (optO (C lb n F_r04_Has [.agg [.int .i64 aperfro6, .int .i64 aperto7, .int .i64 aperday9], .int .i64 bday14]) fun r31 =>
 some (r31))
 else
 (bif (akin1 == 6) then
 (optO (C lb n F_r04_Has [.agg [.int .i64 aperfro6, .int .i64 aperto7, .int .i64 aperday9], .int .i64 bsal13]) fun r33 =>
 some (r33))
 else
 (bif (akin1 == 7) then
 (some (.bool (decide ((IntKind.wrap .i64 (bday14 - bsal13)) ≥ aa4))))
 else
 (bif (akin1 == 8) then
 (bif (decide (aa4 ≤ ab5)) then
 (bif (decide (bmin15 ≥ aa4)) then
 (some (.bool (decide (bmin15 ≤ ab5))))
 else
 (some (.bool false)))
 else
 (bif (decide (bmin15 ≥ aa4)) then
 (some (.bool true))
 else
 (some (.bool (decide (bmin15 ≤ ab5))))))
 else
 (bif (akin1 == 9) then
 (some (.bool (decide (bsto17 ≤ aa4))))
 else
 (bif (akin1 == 10) then
 (some (.bool (decide (btra18 ≤ aa4))))
 else
 (bif (akin1 == 11) then
 (optO (C lb n F_r20_within [.list bcarn19 bcar20, .list atexn10 atex11]) fun r34 =>
 some (r34))
 else
 (bif (akin1 == 12) then
 (optO (C lb n F_r20_between [.list bnumn21 bnum22, .int .i64 aa4, .int .i64 ab5]) fun r35 =>
 some (r35))
 else
 (bif (akin1 == 13) then
 (optO (C lb n F_r20_within [.list bvian23 bvia24, .list atexn10 atex11]) fun r36 =>
 some (r36))
 else
 (optO (C lb n F_r20_has [.list atexn10 atex11, .str btyp12]) fun r37 =>
 some (r37)))))))))))))) := by kernel_rfl

/-! airline/airlineref20.Why -/
noncomputable def r20_Why_L1 (lb : Nat) (n : Nat) (k61 : Nat) (akin1 : Int) (aln2 : Bool) (al3 : List (List CV)) (aa4 : Int) (ab5 : Int) (aperfro6 : Int) (aperto7 : Int) (aperday9 : Int) (atexn10 : Bool) (atex11 : List (List CV)) (btyp12 : List UInt8) (bsal13 : Int) (bday14 : Int) (bmin15 : Int) (bsto17 : Int) (btra18 : Int) (bcarn19 : Bool) (bcar20 : List (List CV)) (bnumn21 : Bool) (bnum22 : List (List CV)) (bvian23 : Bool) (bvia24 : List (List CV)) (i44 : Int) : Option CV :=
  hold (loopC (E0 lb n 0 994) 0 (loopTemps (sub (B F_r20_Why) [1, 1, 0, 1, 0, 0]) ++ [7, 8]) [] (sub (B F_r20_Why) [1, 1, 0, 1, 0, 0]) (blockK 0 (seqK (E0 lb n 0 997) (sub (B F_r20_Why) [1, 1, 0]) (sub (B F_r20_Why) [1, 1, 1]) (retK Tryz.prog (R F_r20_Why) 0 (outK (tightF Tryz.prog F_r20_Why))))) k61 ⟨fr 39 [(0, .val (.agg [.int .i64 akin1, .list aln2 al3, .int .i64 aa4, .int .i64 ab5, .int .i64 aperfro6, .int .i64 aperto7, .int .i64 aperday9, .list atexn10 atex11])), (1, .val (.agg [.str btyp12, .int .i64 bsal13, .int .i64 bday14, .int .i64 bmin15, .int .i64 bsto17, .int .i64 btra18, .list bcarn19 bcar20, .list bnumn21 bnum22, .list bvian23 bvia24])), (2, .ptr 0 2 0), (3, .ptr 0 3 0), (4, .lst true true 3 []), (5, .val (.bool false)), (6, .val (.int .i64 i44))], [bx 39 [(2, some [.val (.int .i64 akin1), .val (.list aln2 al3), .val (.int .i64 aa4), .val (.int .i64 ab5), .val (.int .i64 aperfro6), .val (.int .i64 aperto7), .val (.int .i64 aperday9), .val (.list atexn10 atex11)]), (3, some [.val (.str btyp12), .val (.int .i64 bsal13), .val (.int .i64 bday14), .val (.int .i64 bmin15), .val (.int .i64 bsto17), .val (.int .i64 btra18), .val (.list bcarn19 bcar20), .val (.list bnumn21 bnum22), .val (.list bvian23 bvia24)])]], KK⟩)

noncomputable def r20_Why_J2 (lb : Nat) (n : Nat) (akin1 : Int) (aln2 : Bool) (al3 : List (List CV)) (aa4 : Int) (ab5 : Int) (aperfro6 : Int) (aperto7 : Int) (aperday9 : Int) (atexn10 : Bool) (atex11 : List (List CV)) (btyp12 : List UInt8) (bsal13 : Int) (bday14 : Int) (bmin15 : Int) (bsto17 : Int) (btra18 : Int) (bcarn19 : Bool) (bcar20 : List (List CV)) (bnumn21 : Bool) (bnum22 : List (List CV)) (bvian23 : Bool) (bvia24 : List (List CV)) (i79 : Int) : Option CV :=
  hold (E0 lb n 0 997 (sub (B F_r20_Why) [1, 1, 1]) (retK Tryz.prog (R F_r20_Why) 0 (outK (tightF Tryz.prog F_r20_Why))) ⟨fr 39 [(0, .val (.agg [.int .i64 akin1, .list aln2 al3, .int .i64 aa4, .int .i64 ab5, .int .i64 aperfro6, .int .i64 aperto7, .int .i64 aperday9, .list atexn10 atex11])), (1, .val (.agg [.str btyp12, .int .i64 bsal13, .int .i64 bday14, .int .i64 bmin15, .int .i64 bsto17, .int .i64 btra18, .list bcarn19 bcar20, .list bnumn21 bnum22, .list bvian23 bvia24])), (2, .ptr 0 2 0), (3, .ptr 0 3 0), (4, .lst true true 3 []), (5, .val (.bool false)), (6, .val (.int .i64 i79))], [bx 39 [(2, some [.val (.int .i64 akin1), .val (.list aln2 al3), .val (.int .i64 aa4), .val (.int .i64 ab5), .val (.int .i64 aperfro6), .val (.int .i64 aperto7), .val (.int .i64 aperday9), .val (.list atexn10 atex11)]), (3, some [.val (.str btyp12), .val (.int .i64 bsal13), .val (.int .i64 bday14), .val (.int .i64 bmin15), .val (.int .i64 bsto17), .val (.int .i64 btra18), .val (.list bcarn19 bcar20), .val (.list bnumn21 bnum22), .val (.list bvian23 bvia24)])]], KK⟩)

theorem r20_Why_J2_eq (lb : Nat) (n : Nat) (akin1 : Int) (aln2 : Bool) (al3 : List (List CV)) (aa4 : Int) (ab5 : Int) (aperfro6 : Int) (aperto7 : Int) (aperday9 : Int) (atexn10 : Bool) (atex11 : List (List CV)) (btyp12 : List UInt8) (bsal13 : Int) (bday14 : Int) (bmin15 : Int) (bsto17 : Int) (btra18 : Int) (bcarn19 : Bool) (bcar20 : List (List CV)) (bnumn21 : Bool) (bnum22 : List (List CV)) (bvian23 : Bool) (bvia24 : List (List CV)) (i79 : Int) :
  r20_Why_J2 lb n akin1 aln2 al3 aa4 ab5 aperfro6 aperto7 aperday9 atexn10 atex11 btyp12 bsal13 bday14 bmin15 bsto17 btra18 bcarn19 bcar20 bnumn21 bnum22 bvian23 bvia24 i79 =
 some (.tup [.list true [], .bool true]) := (hold_eq _).trans (by kernel_rfl)

theorem r20_Why_L1_succ (lb : Nat) (n k61 : Nat) (akin1 : Int) (aln2 : Bool) (al3 : List (List CV)) (aa4 : Int) (ab5 : Int) (aperfro6 : Int) (aperto7 : Int) (aperday9 : Int) (atexn10 : Bool) (atex11 : List (List CV)) (btyp12 : List UInt8) (bsal13 : Int) (bday14 : Int) (bmin15 : Int) (bsto17 : Int) (btra18 : Int) (bcarn19 : Bool) (bcar20 : List (List CV)) (bnumn21 : Bool) (bnum22 : List (List CV)) (bvian23 : Bool) (bvia24 : List (List CV)) (i44 : Int) :
  r20_Why_L1 lb n (k61 + 1) akin1 aln2 al3 aa4 ab5 aperfro6 aperto7 aperday9 atexn10 atex11 btyp12 bsal13 bday14 bmin15 bsto17 btra18 bcarn19 bcar20 bnumn21 bnum22 bvian23 bvia24 i44 =
 bif (akin1 == 2) then
 (bif (decide (i44 < (al3.length : Int))) then
 (optO (atL al3 i44) fun c62 =>
 chkO (c62.length == 8) (
 optO (c62[0]?) fun x63 =>
 optO (c62[1]?) fun x65 =>
 optO (c62[2]?) fun x66 =>
 optO (c62[3]?) fun x67 =>
 optO (c62[4]?) fun x68 =>
 optO (c62[5]?) fun x69 =>
 optO (c62[6]?) fun x70 =>
 optO (c62[7]?) fun x71 =>
 optO (C lb n F_r20_Why [.agg [x63, x65, x66, x67, x68, x69, x70, x71], .agg [.str btyp12, .int .i64 bsal13, .int .i64 bday14, .int .i64 bmin15, .int .i64 bsto17, .int .i64 btra18, .list bcarn19 bcar20, .list bnumn21 bnum22, .list bvian23 bvia24]]) fun r72 =>
 optO (CV.asT r72) fun t73 =>
 optO (t73[0]?) fun x74 =>
 optO (CV.asT r72) fun t75 =>
 optO (t75[1]?) fun x76 =>
 optO (CV.asB x76) fun b77 =>
 bif b77 then
 (optO (CV.asL x74) fun p78 =>
 chkO (p78.2.all (·.length == 1)) (
 chkO (room (1 + p78.2.length) 8) (
 some (.tup [.list false ([[CV.int .i64 i44]] ++ p78.2), .bool true]))))
 else
 (r20_Why_L1 lb n k61 akin1 aln2 al3 aa4 ab5 aperfro6 aperto7 aperday9 atexn10 atex11 btyp12 bsal13 bday14 bmin15 bsto17 btra18 bcarn19 bcar20 bnumn21 bnum22 bvian23 bvia24 (IntKind.wrap .i64 (i44 + 1)))))
 else
 (r20_Why_J2 lb n akin1 aln2 al3 aa4 ab5 aperfro6 aperto7 aperday9 atexn10 atex11 btyp12 bsal13 bday14 bmin15 bsto17 btra18 bcarn19 bcar20 bnumn21 bnum22 bvian23 bvia24 i44))
 else
 (r20_Why_J2 lb n akin1 aln2 al3 aa4 ab5 aperfro6 aperto7 aperday9 atexn10 atex11 btyp12 bsal13 bday14 bmin15 bsto17 btra18 bcarn19 bcar20 bnumn21 bnum22 bvian23 bvia24 i44) := (hold_eq _).trans (by kernel_rfl)

theorem r20_Why_L1_zero (lb : Nat) (n : Nat) (akin1 : Int) (aln2 : Bool) (al3 : List (List CV)) (aa4 : Int) (ab5 : Int) (aperfro6 : Int) (aperto7 : Int) (aperday9 : Int) (atexn10 : Bool) (atex11 : List (List CV)) (btyp12 : List UInt8) (bsal13 : Int) (bday14 : Int) (bmin15 : Int) (bsto17 : Int) (btra18 : Int) (bcarn19 : Bool) (bcar20 : List (List CV)) (bnumn21 : Bool) (bnum22 : List (List CV)) (bvian23 : Bool) (bvia24 : List (List CV)) (i44 : Int) :
  r20_Why_L1 lb n 0 akin1 aln2 al3 aa4 ab5 aperfro6 aperto7 aperday9 atexn10 atex11 btyp12 bsal13 bday14 bmin15 bsto17 btra18 bcarn19 bcar20 bnumn21 bnum22 bvian23 bvia24 i44 =
 none := (hold_eq _).trans (by kernel_rfl)

theorem r20_Why_eq (lb : Nat) (n : Nat) (akin1 : Int) (aln2 : Bool) (al3 : List (List CV)) (aa4 : Int) (ab5 : Int) (aperfro6 : Int) (aperto7 : Int) (aperday9 : Int) (atexn10 : Bool) (atex11 : List (List CV)) (btyp12 : List UInt8) (bsal13 : Int) (bday14 : Int) (bmin15 : Int) (bsto17 : Int) (btra18 : Int) (bcarn19 : Bool) (bcar20 : List (List CV)) (bnumn21 : Bool) (bnum22 : List (List CV)) (bvian23 : Bool) (bvia24 : List (List CV)) :
  top lb n F_r20_Why [.agg [.int .i64 akin1, .list aln2 al3, .int .i64 aa4, .int .i64 ab5, .int .i64 aperfro6, .int .i64 aperto7, .int .i64 aperday9, .list atexn10 atex11], .agg [.str btyp12, .int .i64 bsal13, .int .i64 bday14, .int .i64 bmin15, .int .i64 bsto17, .int .i64 btra18, .list bcarn19 bcar20, .list bnumn21 bnum22, .list bvian23 bvia24]] =
 optO (C lb n F_r20_Holds [.agg [.int .i64 akin1, .list aln2 al3, .int .i64 aa4, .int .i64 ab5, .int .i64 aperfro6, .int .i64 aperto7, .int .i64 aperday9, .list atexn10 atex11], .agg [.str btyp12, .int .i64 bsal13, .int .i64 bday14, .int .i64 bmin15, .int .i64 bsto17, .int .i64 btra18, .list bcarn19 bcar20, .list bnumn21 bnum22, .list bvian23 bvia24]]) fun r25 =>
 optO (CV.asB r25) fun b26 =>
 bif b26 then
 (some (.tup [.list true [], .bool false]))
 else
 (r20_Why_L1 lb n n akin1 aln2 al3 aa4 ab5 aperfro6 aperto7 aperday9 atexn10 atex11 btyp12 bsal13 bday14 bmin15 bsto17 btra18 bcarn19 bcar20 bnumn21 bnum22 bvian23 bvia24 0) := by kernel_rfl

end Go.Proofs
