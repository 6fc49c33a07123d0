/- Equations of functions, printed by program. Conditions: none. -/
import Derived.Test.YtmandbflbfkagaaGreatDoorEv
namespace Go.Proofs
open Go.Am
set_option maxRecDepth 100000
set_option linter.unusedVariables false
/-! airline/airlinelaw20.CondReasons -/
noncomputable def l20_CondReasons_L1 (lb : Nat) (n : Nat) (k197 : Nat) (akin1 : Int) (aln2 : Bool) (al3 : List (List CV)) (aa4 : Int) (ab5 : Int) (aperfro6 : Int) (aperto7 : Int) (aperday9 : Int) (atexn10 : Bool) (atex11 : List (List CV)) (btyp12 : List UInt8) (bsal13 : Int) (bday14 : Int) (bmin15 : Int) (bsto17 : Int) (btra18 : Int) (bcarn19 : Bool) (bcar20 : List (List CV)) (bnumn21 : Bool) (bnum22 : List (List CV)) (bvian23 : Bool) (bvia24 : List (List CV)) (x37 : CV) (x39 : CV) (r35 : CV) (i114 : Int) (v115 : CV) (v116 : CV) (v117 : CV) (v118 : CV) (v119 : CV) (v120 : CV) (v121 : CV) (v122 : CV) : Option CV :=
  hold (loopC (E0 lb n 0 991) 0 (loopTemps (sub (B F_l20_CondReasons) [1, 1, 1, 1, 1, 0, 1, 0, 0]) ++ [9, 9]) [] (sub (B F_l20_CondReasons) [1, 1, 1, 1, 1, 0, 1, 0, 0]) (blockK 0 (seqK (E0 lb n 0 994) (sub (B F_l20_CondReasons) [1, 1, 1, 1, 1, 0]) (sub (B F_l20_CondReasons) [1, 1, 1, 1, 1, 1]) (retK Tryz.prog (R F_l20_CondReasons) 0 (outK (tightF Tryz.prog F_l20_CondReasons))))) k197 ⟨fr 109 [(0, .val (.agg [.int .i64 akin1, .list aln2 al3, .int .i64 aa4, .int .i64 ab5, .int .i64 aperfro6, .int .i64 aperto7, .int .i64 aperday9, .list atexn10 atex11])), (1, .val (.agg [.str btyp12, .int .i64 bsal13, .int .i64 bday14, .int .i64 bmin15, .int .i64 bsto17, .int .i64 btra18, .list bcarn19 bcar20, .list bnumn21 bnum22, .list bvian23 bvia24])), (2, .ptr 0 2 0), (3, .ptr 0 3 0), (4, .val (.bool false)), (5, .val x37), (6, .val x39), (7, .ptr 0 7 0), (8, .val (.int .i64 i114)), (22, .val r35), (23, .val (.agg [.int .i64 akin1, .list aln2 al3, .int .i64 aa4, .int .i64 ab5, .int .i64 aperfro6, .int .i64 aperto7, .int .i64 aperday9, .list atexn10 atex11])), (24, .val (.agg [.str btyp12, .int .i64 bsal13, .int .i64 bday14, .int .i64 bmin15, .int .i64 bsto17, .int .i64 btra18, .list bcarn19 bcar20, .list bnumn21 bnum22, .list bvian23 bvia24])), (25, .val r35), (26, .val x37), (27, .val x39), (42, .val (.agg [.int .i64 akin1, .list aln2 al3, .int .i64 aa4, .int .i64 ab5, .int .i64 aperfro6, .int .i64 aperto7, .int .i64 aperday9, .list atexn10 atex11]))], [bx 109 [(2, some [.val (.int .i64 akin1), .val (.list aln2 al3), .val (.int .i64 aa4), .val (.int .i64 ab5), .val (.int .i64 aperfro6), .val (.int .i64 aperto7), .val (.int .i64 aperday9), .val (.list atexn10 atex11)]), (3, some [.val (.str btyp12), .val (.int .i64 bsal13), .val (.int .i64 bday14), .val (.int .i64 bmin15), .val (.int .i64 bsto17), .val (.int .i64 btra18), .val (.list bcarn19 bcar20), .val (.list bnumn21 bnum22), .val (.list bvian23 bvia24)]), (7, some [.val v115, .val v116, .val v117, .val v118, .val v119, .val v120, .val v121, .val v122])]], KK⟩)

noncomputable def l20_CondReasons_L2 (lb : Nat) (n : Nat) (k242 : Nat) (k197 : Nat) (akin1 : Int) (aln2 : Bool) (al3 : List (List CV)) (aa4 : Int) (ab5 : Int) (aperfro6 : Int) (aperto7 : Int) (aperday9 : Int) (atexn10 : Bool) (atex11 : List (List CV)) (btyp12 : List UInt8) (bsal13 : Int) (bday14 : Int) (bmin15 : Int) (bsto17 : Int) (btra18 : Int) (bcarn19 : Bool) (bcar20 : List (List CV)) (bnumn21 : Bool) (bnum22 : List (List CV)) (bvian23 : Bool) (bvia24 : List (List CV)) (x37 : CV) (x39 : CV) (i114 : Int) (r35 : CV) (v115 : CV) (v116 : CV) (v117 : CV) (v118 : CV) (v119 : CV) (v120 : CV) (v121 : CV) (v122 : CV) (i225 : Int) : Option CV :=
  hold (loopC (E0 lb n 0 983) 0 (loopTemps (sub (B F_l20_CondReasons) [1, 1, 1, 1, 1, 0, 1, 0, 0, 1, 0, 0, 1, 0, 1, 0, 0]) ++ []) [] (sub (B F_l20_CondReasons) [1, 1, 1, 1, 1, 0, 1, 0, 0, 1, 0, 0, 1, 0, 1, 0, 0]) (blockK 2 (seqK (E0 lb n 0 986) (sub (B F_l20_CondReasons) [1, 1, 1, 1, 1, 0, 1, 0, 0, 1, 0, 0, 1, 0]) (sub (B F_l20_CondReasons) [1, 1, 1, 1, 1, 0, 1, 0, 0, 1, 0, 0, 1, 1]) (blockK 1 (seqK (E0 lb n 0 989) (sub (B F_l20_CondReasons) [1, 1, 1, 1, 1, 0, 1, 0, 0, 1, 0]) (sub (B F_l20_CondReasons) [1, 1, 1, 1, 1, 0, 1, 0, 0, 1, 1]) (loopK 0 (loopTemps (sub (B F_l20_CondReasons) [1, 1, 1, 1, 1, 0, 1, 0, 0]) ++ [9, 9]) [] (loopC (E0 lb n 0 991) 0 (loopTemps (sub (B F_l20_CondReasons) [1, 1, 1, 1, 1, 0, 1, 0, 0]) ++ [9, 9]) [] (sub (B F_l20_CondReasons) [1, 1, 1, 1, 1, 0, 1, 0, 0]) (blockK 0 (seqK (E0 lb n 0 994) (sub (B F_l20_CondReasons) [1, 1, 1, 1, 1, 0]) (sub (B F_l20_CondReasons) [1, 1, 1, 1, 1, 1]) (retK Tryz.prog (R F_l20_CondReasons) 0 (outK (tightF Tryz.prog F_l20_CondReasons))))) k197) (blockK 0 (seqK (E0 lb n 0 994) (sub (B F_l20_CondReasons) [1, 1, 1, 1, 1, 0]) (sub (B F_l20_CondReasons) [1, 1, 1, 1, 1, 1]) (retK Tryz.prog (R F_l20_CondReasons) 0 (outK (tightF Tryz.prog F_l20_CondReasons)))))))))) k242 ⟨fr 109 [(0, .val (.agg [.int .i64 akin1, .list aln2 al3, .int .i64 aa4, .int .i64 ab5, .int .i64 aperfro6, .int .i64 aperto7, .int .i64 aperday9, .list atexn10 atex11])), (1, .val (.agg [.str btyp12, .int .i64 bsal13, .int .i64 bday14, .int .i64 bmin15, .int .i64 bsto17, .int .i64 btra18, .list bcarn19 bcar20, .list bnumn21 bnum22, .list bvian23 bvia24])), (2, .ptr 0 2 0), (3, .ptr 0 3 0), (4, .val (.bool false)), (5, .val x37), (6, .val x39), (7, .ptr 0 7 0), (8, .val (.int .i64 i114)), (9, .val (.int .i64 i225)), (22, .val r35), (23, .val (.agg [.int .i64 akin1, .list aln2 al3, .int .i64 aa4, .int .i64 ab5, .int .i64 aperfro6, .int .i64 aperto7, .int .i64 aperday9, .list atexn10 atex11])), (24, .val (.agg [.str btyp12, .int .i64 bsal13, .int .i64 bday14, .int .i64 bmin15, .int .i64 bsto17, .int .i64 btra18, .list bcarn19 bcar20, .list bnumn21 bnum22, .list bvian23 bvia24])), (25, .val r35), (26, .val x37), (27, .val x39), (42, .val (.agg [.int .i64 akin1, .list aln2 al3, .int .i64 aa4, .int .i64 ab5, .int .i64 aperfro6, .int .i64 aperto7, .int .i64 aperday9, .list atexn10 atex11]))], [bx 109 [(2, some [.val (.int .i64 akin1), .val (.list aln2 al3), .val (.int .i64 aa4), .val (.int .i64 ab5), .val (.int .i64 aperfro6), .val (.int .i64 aperto7), .val (.int .i64 aperday9), .val (.list atexn10 atex11)]), (3, some [.val (.str btyp12), .val (.int .i64 bsal13), .val (.int .i64 bday14), .val (.int .i64 bmin15), .val (.int .i64 bsto17), .val (.int .i64 btra18), .val (.list bcarn19 bcar20), .val (.list bnumn21 bnum22), .val (.list bvian23 bvia24)]), (7, some [.val v115, .val v116, .val v117, .val v118, .val v119, .val v120, .val v121, .val v122])]], KK⟩)

noncomputable def l20_CondReasons_J3 (lb : Nat) (n : Nat) (k197 : Nat) (akin1 : Int) (aln2 : Bool) (al3 : List (List CV)) (aa4 : Int) (ab5 : Int) (aperfro6 : Int) (aperto7 : Int) (aperday9 : Int) (atexn10 : Bool) (atex11 : List (List CV)) (btyp12 : List UInt8) (bsal13 : Int) (bday14 : Int) (bmin15 : Int) (bsto17 : Int) (btra18 : Int) (bcarn19 : Bool) (bcar20 : List (List CV)) (bnumn21 : Bool) (bnum22 : List (List CV)) (bvian23 : Bool) (bvia24 : List (List CV)) (x37 : CV) (x39 : CV) (i114 : Int) (r35 : CV) (v115 : CV) (v116 : CV) (v117 : CV) (v118 : CV) (v119 : CV) (v120 : CV) (v121 : CV) (v122 : CV) (i259 : Int) : Option CV :=
  hold (E0 lb n 0 986 (sub (B F_l20_CondReasons) [1, 1, 1, 1, 1, 0, 1, 0, 0, 1, 0, 0, 1, 1]) (blockK 1 (seqK (E0 lb n 0 989) (sub (B F_l20_CondReasons) [1, 1, 1, 1, 1, 0, 1, 0, 0, 1, 0]) (sub (B F_l20_CondReasons) [1, 1, 1, 1, 1, 0, 1, 0, 0, 1, 1]) (loopK 0 (loopTemps (sub (B F_l20_CondReasons) [1, 1, 1, 1, 1, 0, 1, 0, 0]) ++ [9, 9]) [] (loopC (E0 lb n 0 991) 0 (loopTemps (sub (B F_l20_CondReasons) [1, 1, 1, 1, 1, 0, 1, 0, 0]) ++ [9, 9]) [] (sub (B F_l20_CondReasons) [1, 1, 1, 1, 1, 0, 1, 0, 0]) (blockK 0 (seqK (E0 lb n 0 994) (sub (B F_l20_CondReasons) [1, 1, 1, 1, 1, 0]) (sub (B F_l20_CondReasons) [1, 1, 1, 1, 1, 1]) (retK Tryz.prog (R F_l20_CondReasons) 0 (outK (tightF Tryz.prog F_l20_CondReasons))))) k197) (blockK 0 (seqK (E0 lb n 0 994) (sub (B F_l20_CondReasons) [1, 1, 1, 1, 1, 0]) (sub (B F_l20_CondReasons) [1, 1, 1, 1, 1, 1]) (retK Tryz.prog (R F_l20_CondReasons) 0 (outK (tightF Tryz.prog F_l20_CondReasons)))))))) ⟨fr 109 [(0, .val (.agg [.int .i64 akin1, .list aln2 al3, .int .i64 aa4, .int .i64 ab5, .int .i64 aperfro6, .int .i64 aperto7, .int .i64 aperday9, .list atexn10 atex11])), (1, .val (.agg [.str btyp12, .int .i64 bsal13, .int .i64 bday14, .int .i64 bmin15, .int .i64 bsto17, .int .i64 btra18, .list bcarn19 bcar20, .list bnumn21 bnum22, .list bvian23 bvia24])), (2, .ptr 0 2 0), (3, .ptr 0 3 0), (4, .val (.bool false)), (5, .val x37), (6, .val x39), (7, .ptr 0 7 0), (8, .val (.int .i64 i114)), (9, .val (.int .i64 i259)), (22, .val r35), (23, .val (.agg [.int .i64 akin1, .list aln2 al3, .int .i64 aa4, .int .i64 ab5, .int .i64 aperfro6, .int .i64 aperto7, .int .i64 aperday9, .list atexn10 atex11])), (24, .val (.agg [.str btyp12, .int .i64 bsal13, .int .i64 bday14, .int .i64 bmin15, .int .i64 bsto17, .int .i64 btra18, .list bcarn19 bcar20, .list bnumn21 bnum22, .list bvian23 bvia24])), (25, .val r35), (26, .val x37), (27, .val x39), (42, .val (.agg [.int .i64 akin1, .list aln2 al3, .int .i64 aa4, .int .i64 ab5, .int .i64 aperfro6, .int .i64 aperto7, .int .i64 aperday9, .list atexn10 atex11]))], [bx 109 [(2, some [.val (.int .i64 akin1), .val (.list aln2 al3), .val (.int .i64 aa4), .val (.int .i64 ab5), .val (.int .i64 aperfro6), .val (.int .i64 aperto7), .val (.int .i64 aperday9), .val (.list atexn10 atex11)]), (3, some [.val (.str btyp12), .val (.int .i64 bsal13), .val (.int .i64 bday14), .val (.int .i64 bmin15), .val (.int .i64 bsto17), .val (.int .i64 btra18), .val (.list bcarn19 bcar20), .val (.list bnumn21 bnum22), .val (.list bvian23 bvia24)]), (7, some [.val v115, .val v116, .val v117, .val v118, .val v119, .val v120, .val v121, .val v122])]], KK⟩)

noncomputable def l20_CondReasons_J4 (lb : Nat) (n : Nat) (k197 : Nat) (akin1 : Int) (aln2 : Bool) (al3 : List (List CV)) (aa4 : Int) (ab5 : Int) (aperfro6 : Int) (aperto7 : Int) (aperday9 : Int) (atexn10 : Bool) (atex11 : List (List CV)) (btyp12 : List UInt8) (bsal13 : Int) (bday14 : Int) (bmin15 : Int) (bsto17 : Int) (btra18 : Int) (bcarn19 : Bool) (bcar20 : List (List CV)) (bnumn21 : Bool) (bnum22 : List (List CV)) (bvian23 : Bool) (bvia24 : List (List CV)) (x37 : CV) (x39 : CV) (i114 : Int) (r35 : CV) (i274 : Int) (v275 : CV) (v276 : CV) (v277 : CV) (v278 : CV) (v279 : CV) (v280 : CV) (v281 : CV) (v282 : CV) : Option CV :=
  hold (E0 lb n 0 989 (sub (B F_l20_CondReasons) [1, 1, 1, 1, 1, 0, 1, 0, 0, 1, 1]) (loopK 0 (loopTemps (sub (B F_l20_CondReasons) [1, 1, 1, 1, 1, 0, 1, 0, 0]) ++ [9, 9]) [] (loopC (E0 lb n 0 991) 0 (loopTemps (sub (B F_l20_CondReasons) [1, 1, 1, 1, 1, 0, 1, 0, 0]) ++ [9, 9]) [] (sub (B F_l20_CondReasons) [1, 1, 1, 1, 1, 0, 1, 0, 0]) (blockK 0 (seqK (E0 lb n 0 994) (sub (B F_l20_CondReasons) [1, 1, 1, 1, 1, 0]) (sub (B F_l20_CondReasons) [1, 1, 1, 1, 1, 1]) (retK Tryz.prog (R F_l20_CondReasons) 0 (outK (tightF Tryz.prog F_l20_CondReasons))))) k197) (blockK 0 (seqK (E0 lb n 0 994) (sub (B F_l20_CondReasons) [1, 1, 1, 1, 1, 0]) (sub (B F_l20_CondReasons) [1, 1, 1, 1, 1, 1]) (retK Tryz.prog (R F_l20_CondReasons) 0 (outK (tightF Tryz.prog F_l20_CondReasons)))))) ⟨fr 109 [(0, .val (.agg [.int .i64 akin1, .list aln2 al3, .int .i64 aa4, .int .i64 ab5, .int .i64 aperfro6, .int .i64 aperto7, .int .i64 aperday9, .list atexn10 atex11])), (1, .val (.agg [.str btyp12, .int .i64 bsal13, .int .i64 bday14, .int .i64 bmin15, .int .i64 bsto17, .int .i64 btra18, .list bcarn19 bcar20, .list bnumn21 bnum22, .list bvian23 bvia24])), (2, .ptr 0 2 0), (3, .ptr 0 3 0), (4, .val (.bool false)), (5, .val x37), (6, .val x39), (7, .ptr 0 7 0), (8, .val (.int .i64 i114)), (9, .val (.int .i64 i274)), (22, .val r35), (23, .val (.agg [.int .i64 akin1, .list aln2 al3, .int .i64 aa4, .int .i64 ab5, .int .i64 aperfro6, .int .i64 aperto7, .int .i64 aperday9, .list atexn10 atex11])), (24, .val (.agg [.str btyp12, .int .i64 bsal13, .int .i64 bday14, .int .i64 bmin15, .int .i64 bsto17, .int .i64 btra18, .list bcarn19 bcar20, .list bnumn21 bnum22, .list bvian23 bvia24])), (25, .val r35), (26, .val x37), (27, .val x39), (42, .val (.agg [.int .i64 akin1, .list aln2 al3, .int .i64 aa4, .int .i64 ab5, .int .i64 aperfro6, .int .i64 aperto7, .int .i64 aperday9, .list atexn10 atex11]))], [bx 109 [(2, some [.val (.int .i64 akin1), .val (.list aln2 al3), .val (.int .i64 aa4), .val (.int .i64 ab5), .val (.int .i64 aperfro6), .val (.int .i64 aperto7), .val (.int .i64 aperday9), .val (.list atexn10 atex11)]), (3, some [.val (.str btyp12), .val (.int .i64 bsal13), .val (.int .i64 bday14), .val (.int .i64 bmin15), .val (.int .i64 bsto17), .val (.int .i64 btra18), .val (.list bcarn19 bcar20), .val (.list bnumn21 bnum22), .val (.list bvian23 bvia24)]), (7, some [.val v275, .val v276, .val v277, .val v278, .val v279, .val v280, .val v281, .val v282])]], KK⟩)

theorem l20_CondReasons_J4_eq (lb : Nat) (n : Nat) (k197 : Nat) (akin1 : Int) (aln2 : Bool) (al3 : List (List CV)) (aa4 : Int) (ab5 : Int) (aperfro6 : Int) (aperto7 : Int) (aperday9 : Int) (atexn10 : Bool) (atex11 : List (List CV)) (btyp12 : List UInt8) (bsal13 : Int) (bday14 : Int) (bmin15 : Int) (bsto17 : Int) (btra18 : Int) (bcarn19 : Bool) (bcar20 : List (List CV)) (bnumn21 : Bool) (bnum22 : List (List CV)) (bvian23 : Bool) (bvia24 : List (List CV)) (x37 : CV) (x39 : CV) (i114 : Int) (r35 : CV) (i274 : Int) (v275 : CV) (v276 : CV) (v277 : CV) (v278 : CV) (v279 : CV) (v280 : CV) (v281 : CV) (v282 : CV) :
  l20_CondReasons_J4 lb n k197 akin1 aln2 al3 aa4 ab5 aperfro6 aperto7 aperday9 atexn10 atex11 btyp12 bsal13 bday14 bmin15 bsto17 btra18 bcarn19 bcar20 bnumn21 bnum22 bvian23 bvia24 x37 x39 i114 r35 i274 v275 v276 v277 v278 v279 v280 v281 v282 =
 l20_CondReasons_L1 lb n k197 akin1 aln2 al3 aa4 ab5 aperfro6 aperto7 aperday9 atexn10 atex11 btyp12 bsal13 bday14 bmin15 bsto17 btra18 bcarn19 bcar20 bnumn21 bnum22 bvian23 bvia24 x37 x39 r35 (IntKind.wrap .i64 (i114 + 1)) v275 v276 v277 v278 v279 v280 v281 v282 := (hold_eq _).trans (by kernel_rfl)

theorem l20_CondReasons_J3_eq (lb : Nat) (n : Nat) (k197 : Nat) (akin1 : Int) (aln2 : Bool) (al3 : List (List CV)) (aa4 : Int) (ab5 : Int) (aperfro6 : Int) (aperto7 : Int) (aperday9 : Int) (atexn10 : Bool) (atex11 : List (List CV)) (btyp12 : List UInt8) (bsal13 : Int) (bday14 : Int) (bmin15 : Int) (bsto17 : Int) (btra18 : Int) (bcarn19 : Bool) (bcar20 : List (List CV)) (bnumn21 : Bool) (bnum22 : List (List CV)) (bvian23 : Bool) (bvia24 : List (List CV)) (x37 : CV) (x39 : CV) (i114 : Int) (r35 : CV) (v115 : CV) (v116 : CV) (v117 : CV) (v118 : CV) (v119 : CV) (v120 : CV) (v121 : CV) (v122 : CV) (i259 : Int) :
  l20_CondReasons_J3 lb n k197 akin1 aln2 al3 aa4 ab5 aperfro6 aperto7 aperday9 atexn10 atex11 btyp12 bsal13 bday14 bmin15 bsto17 btra18 bcarn19 bcar20 bnumn21 bnum22 bvian23 bvia24 x37 x39 i114 r35 v115 v116 v117 v118 v119 v120 v121 v122 i259 =
 optO (CV.asL x37) fun p260 =>
 optO (atL p260.2 i114) fun c261 =>
 chkO (c261.length == 1) (
 optO (c261[0]?) fun x262 =>
 optO (CV.asL v116) fun p263 =>
 optO (CV.asN x262) fun i264 =>
 optO (atL p263.2 i264) fun c265 =>
 chkO (c265.length == 8) (
 optO (c265[0]?) fun x266 =>
 optO (c265[1]?) fun x267 =>
 optO (c265[2]?) fun x268 =>
 optO (c265[3]?) fun x269 =>
 optO (c265[4]?) fun x270 =>
 optO (c265[5]?) fun x271 =>
 optO (c265[6]?) fun x272 =>
 optO (c265[7]?) fun x273 =>
 l20_CondReasons_J4 lb n k197 akin1 aln2 al3 aa4 ab5 aperfro6 aperto7 aperday9 atexn10 atex11 btyp12 bsal13 bday14 bmin15 bsto17 btra18 bcarn19 bcar20 bnumn21 bnum22 bvian23 bvia24 x37 x39 i114 r35 i259 x266 x267 x268 x269 x270 x271 x272 x273)) := (hold_eq _).trans (by kernel_rfl)

theorem l20_CondReasons_L2_succ (lb : Nat) (n k242 : Nat) (k197 : Nat) (akin1 : Int) (aln2 : Bool) (al3 : List (List CV)) (aa4 : Int) (ab5 : Int) (aperfro6 : Int) (aperto7 : Int) (aperday9 : Int) (atexn10 : Bool) (atex11 : List (List CV)) (btyp12 : List UInt8) (bsal13 : Int) (bday14 : Int) (bmin15 : Int) (bsto17 : Int) (btra18 : Int) (bcarn19 : Bool) (bcar20 : List (List CV)) (bnumn21 : Bool) (bnum22 : List (List CV)) (bvian23 : Bool) (bvia24 : List (List CV)) (x37 : CV) (x39 : CV) (i114 : Int) (r35 : CV) (v115 : CV) (v116 : CV) (v117 : CV) (v118 : CV) (v119 : CV) (v120 : CV) (v121 : CV) (v122 : CV) (i225 : Int) :
  l20_CondReasons_L2 lb n (k242 + 1) k197 akin1 aln2 al3 aa4 ab5 aperfro6 aperto7 aperday9 atexn10 atex11 btyp12 bsal13 bday14 bmin15 bsto17 btra18 bcarn19 bcar20 bnumn21 bnum22 bvian23 bvia24 x37 x39 i114 r35 v115 v116 v117 v118 v119 v120 v121 v122 i225 =
 optO (CV.asL x37) fun p243 =>
 optO (atL p243.2 i114) fun c244 =>
 chkO (c244.length == 1) (
 optO (c244[0]?) fun x245 =>
 optO (CV.asI .i64 x245) fun i246 =>
 bif (decide (i225 < i246)) then
 (optO (CV.asL v116) fun p247 =>
 optO (atL p247.2 i225) fun c248 =>
 chkO (c248.length == 8) (
 optO (c248[0]?) fun x249 =>
 optO (c248[1]?) fun x250 =>
 optO (c248[2]?) fun x251 =>
 optO (c248[3]?) fun x252 =>
 optO (c248[4]?) fun x253 =>
 optO (c248[5]?) fun x254 =>
 optO (c248[6]?) fun x255 =>
 optO (c248[7]?) fun x256 =>
 optO (C lb n F_cond_Holds [.agg [x249, x250, x251, x252, x253, x254, x255, x256], .agg [.str btyp12, .int .i64 bsal13, .int .i64 bday14, .int .i64 bmin15, .int .i64 bsto17, .int .i64 btra18, .list bcarn19 bcar20, .list bnumn21 bnum22, .list bvian23 bvia24]]) fun r257 =>
 optO (CV.asB r257) fun b258 =>
 bif (!b258) then
 (some (.bool false))
 else
 (l20_CondReasons_L2 lb n k242 k197 akin1 aln2 al3 aa4 ab5 aperfro6 aperto7 aperday9 atexn10 atex11 btyp12 bsal13 bday14 bmin15 bsto17 btra18 bcarn19 bcar20 bnumn21 bnum22 bvian23 bvia24 x37 x39 i114 r35 v115 v116 v117 v118 v119 v120 v121 v122 (IntKind.wrap .i64 (i225 + 1)))))
 else
 (l20_CondReasons_J3 lb n k197 akin1 aln2 al3 aa4 ab5 aperfro6 aperto7 aperday9 atexn10 atex11 btyp12 bsal13 bday14 bmin15 bsto17 btra18 bcarn19 bcar20 bnumn21 bnum22 bvian23 bvia24 x37 x39 i114 r35 v115 v116 v117 v118 v119 v120 v121 v122 i225)) := (hold_eq _).trans (by kernel_rfl)

theorem l20_CondReasons_L2_zero (lb : Nat) (n : Nat) (k197 : Nat) (akin1 : Int) (aln2 : Bool) (al3 : List (List CV)) (aa4 : Int) (ab5 : Int) (aperfro6 : Int) (aperto7 : Int) (aperday9 : Int) (atexn10 : Bool) (atex11 : List (List CV)) (btyp12 : List UInt8) (bsal13 : Int) (bday14 : Int) (bmin15 : Int) (bsto17 : Int) (btra18 : Int) (bcarn19 : Bool) (bcar20 : List (List CV)) (bnumn21 : Bool) (bnum22 : List (List CV)) (bvian23 : Bool) (bvia24 : List (List CV)) (x37 : CV) (x39 : CV) (i114 : Int) (r35 : CV) (v115 : CV) (v116 : CV) (v117 : CV) (v118 : CV) (v119 : CV) (v120 : CV) (v121 : CV) (v122 : CV) (i225 : Int) :
  l20_CondReasons_L2 lb n 0 k197 akin1 aln2 al3 aa4 ab5 aperfro6 aperto7 aperday9 atexn10 atex11 btyp12 bsal13 bday14 bmin15 bsto17 btra18 bcarn19 bcar20 bnumn21 bnum22 bvian23 bvia24 x37 x39 i114 r35 v115 v116 v117 v118 v119 v120 v121 v122 i225 =
 none := (hold_eq _).trans (by kernel_rfl)

noncomputable def l20_CondReasons_J5 (lb : Nat) (n : Nat) (akin1 : Int) (aln2 : Bool) (al3 : List (List CV)) (aa4 : Int) (ab5 : Int) (aperfro6 : Int) (aperto7 : Int) (aperday9 : Int) (atexn10 : Bool) (atex11 : List (List CV)) (btyp12 : List UInt8) (bsal13 : Int) (bday14 : Int) (bmin15 : Int) (bsto17 : Int) (btra18 : Int) (bcarn19 : Bool) (bcar20 : List (List CV)) (bnumn21 : Bool) (bnum22 : List (List CV)) (bvian23 : Bool) (bvia24 : List (List CV)) (x37 : CV) (x39 : CV) (r35 : CV) (i283 : Int) (v284 : CV) (v285 : CV) (v286 : CV) (v287 : CV) (v288 : CV) (v289 : CV) (v290 : CV) (v291 : CV) : Option CV :=
  hold (E0 lb n 0 994 (sub (B F_l20_CondReasons) [1, 1, 1, 1, 1, 1]) (retK Tryz.prog (R F_l20_CondReasons) 0 (outK (tightF Tryz.prog F_l20_CondReasons))) ⟨fr 109 [(0, .val (.agg [.int .i64 akin1, .list aln2 al3, .int .i64 aa4, .int .i64 ab5, .int .i64 aperfro6, .int .i64 aperto7, .int .i64 aperday9, .list atexn10 atex11])), (1, .val (.agg [.str btyp12, .int .i64 bsal13, .int .i64 bday14, .int .i64 bmin15, .int .i64 bsto17, .int .i64 btra18, .list bcarn19 bcar20, .list bnumn21 bnum22, .list bvian23 bvia24])), (2, .ptr 0 2 0), (3, .ptr 0 3 0), (4, .val (.bool false)), (5, .val x37), (6, .val x39), (7, .ptr 0 7 0), (8, .val (.int .i64 i283)), (22, .val r35), (23, .val (.agg [.int .i64 akin1, .list aln2 al3, .int .i64 aa4, .int .i64 ab5, .int .i64 aperfro6, .int .i64 aperto7, .int .i64 aperday9, .list atexn10 atex11])), (24, .val (.agg [.str btyp12, .int .i64 bsal13, .int .i64 bday14, .int .i64 bmin15, .int .i64 bsto17, .int .i64 btra18, .list bcarn19 bcar20, .list bnumn21 bnum22, .list bvian23 bvia24])), (25, .val r35), (26, .val x37), (27, .val x39), (42, .val (.agg [.int .i64 akin1, .list aln2 al3, .int .i64 aa4, .int .i64 ab5, .int .i64 aperfro6, .int .i64 aperto7, .int .i64 aperday9, .list atexn10 atex11]))], [bx 109 [(2, some [.val (.int .i64 akin1), .val (.list aln2 al3), .val (.int .i64 aa4), .val (.int .i64 ab5), .val (.int .i64 aperfro6), .val (.int .i64 aperto7), .val (.int .i64 aperday9), .val (.list atexn10 atex11)]), (3, some [.val (.str btyp12), .val (.int .i64 bsal13), .val (.int .i64 bday14), .val (.int .i64 bmin15), .val (.int .i64 bsto17), .val (.int .i64 btra18), .val (.list bcarn19 bcar20), .val (.list bnumn21 bnum22), .val (.list bvian23 bvia24)]), (7, some [.val v284, .val v285, .val v286, .val v287, .val v288, .val v289, .val v290, .val v291])]], KK⟩)

theorem l20_CondReasons_J5_eq (lb : Nat) (n : Nat) (akin1 : Int) (aln2 : Bool) (al3 : List (List CV)) (aa4 : Int) (ab5 : Int) (aperfro6 : Int) (aperto7 : Int) (aperday9 : Int) (atexn10 : Bool) (atex11 : List (List CV)) (btyp12 : List UInt8) (bsal13 : Int) (bday14 : Int) (bmin15 : Int) (bsto17 : Int) (btra18 : Int) (bcarn19 : Bool) (bcar20 : List (List CV)) (bnumn21 : Bool) (bnum22 : List (List CV)) (bvian23 : Bool) (bvia24 : List (List CV)) (x37 : CV) (x39 : CV) (r35 : CV) (i283 : Int) (v284 : CV) (v285 : CV) (v286 : CV) (v287 : CV) (v288 : CV) (v289 : CV) (v290 : CV) (v291 : CV) :
  l20_CondReasons_J5 lb n akin1 aln2 al3 aa4 ab5 aperfro6 aperto7 aperday9 atexn10 atex11 btyp12 bsal13 bday14 bmin15 bsto17 btra18 bcarn19 bcar20 bnumn21 bnum22 bvian23 bvia24 x37 x39 r35 i283 v284 v285 v286 v287 v288 v289 v290 v291 =
 optO (CV.asB x39) fun b292 =>
 bif (!b292) then
 (optO (C lb n F_l20_knows []) fun r293 =>
 some (r293))
 else
 (optO (CV.asI .i64 v284) fun i294 =>
 bif (i294 != 2) then
 (optO (C lb n F_cond_Holds [.agg [v284, v285, v286, v287, v288, v289, v290, v291], .agg [.str btyp12, .int .i64 bsal13, .int .i64 bday14, .int .i64 bmin15, .int .i64 bsto17, .int .i64 btra18, .list bcarn19 bcar20, .list bnumn21 bnum22, .list bvian23 bvia24]]) fun r295 =>
 optO (CV.asB r295) fun b296 =>
 bif (!b296) then
 (optO (C lb n F_l20_knows []) fun r297 =>
 some (r297))
 else
 (some (.bool false)))
 else
 (some (.bool false))) := (hold_eq _).trans (by kernel_rfl)

theorem l20_CondReasons_L1_succ (lb : Nat) (n k197 : Nat) (akin1 : Int) (aln2 : Bool) (al3 : List (List CV)) (aa4 : Int) (ab5 : Int) (aperfro6 : Int) (aperto7 : Int) (aperday9 : Int) (atexn10 : Bool) (atex11 : List (List CV)) (btyp12 : List UInt8) (bsal13 : Int) (bday14 : Int) (bmin15 : Int) (bsto17 : Int) (btra18 : Int) (bcarn19 : Bool) (bcar20 : List (List CV)) (bnumn21 : Bool) (bnum22 : List (List CV)) (bvian23 : Bool) (bvia24 : List (List CV)) (x37 : CV) (x39 : CV) (r35 : CV) (i114 : Int) (v115 : CV) (v116 : CV) (v117 : CV) (v118 : CV) (v119 : CV) (v120 : CV) (v121 : CV) (v122 : CV) :
  l20_CondReasons_L1 lb n (k197 + 1) akin1 aln2 al3 aa4 ab5 aperfro6 aperto7 aperday9 atexn10 atex11 btyp12 bsal13 bday14 bmin15 bsto17 btra18 bcarn19 bcar20 bnumn21 bnum22 bvian23 bvia24 x37 x39 r35 i114 v115 v116 v117 v118 v119 v120 v121 v122 =
 optO (CV.asL x37) fun p198 =>
 bif (decide (i114 < (p198.2.length : Int))) then
 (optO (CV.asI .i64 v115) fun i199 =>
 bif (i199 != 2) then
 (some (.bool false))
 else
 (optO (CV.asL x37) fun p200 =>
 optO (atL p200.2 i114) fun c201 =>
 chkO (c201.length == 1) (
 optO (c201[0]?) fun x202 =>
 optO (CV.asI .i64 x202) fun i203 =>
 bif (decide (i203 < 0)) then
 (some (.bool false))
 else
 (optO (CV.asL x37) fun p204 =>
 optO (atL p204.2 i114) fun c205 =>
 chkO (c205.length == 1) (
 optO (c205[0]?) fun x206 =>
 optO (CV.asL v116) fun p207 =>
 optO (CV.asI .i64 x206) fun i208 =>
 bif (decide (i208 ≥ (p207.2.length : Int))) then
 (some (.bool false))
 else
 (l20_CondReasons_L2 lb n n k197 akin1 aln2 al3 aa4 ab5 aperfro6 aperto7 aperday9 atexn10 atex11 btyp12 bsal13 bday14 bmin15 bsto17 btra18 bcarn19 bcar20 bnumn21 bnum22 bvian23 bvia24 x37 x39 i114 r35 v115 v116 v117 v118 v119 v120 v121 v122 0))))))
 else
 (l20_CondReasons_J5 lb n akin1 aln2 al3 aa4 ab5 aperfro6 aperto7 aperday9 atexn10 atex11 btyp12 bsal13 bday14 bmin15 bsto17 btra18 bcarn19 bcar20 bnumn21 bnum22 bvian23 bvia24 x37 x39 r35 i114 v115 v116 v117 v118 v119 v120 v121 v122) := (hold_eq _).trans (by kernel_rfl)

theorem l20_CondReasons_L1_zero (lb : Nat) (n : Nat) (akin1 : Int) (aln2 : Bool) (al3 : List (List CV)) (aa4 : Int) (ab5 : Int) (aperfro6 : Int) (aperto7 : Int) (aperday9 : Int) (atexn10 : Bool) (atex11 : List (List CV)) (btyp12 : List UInt8) (bsal13 : Int) (bday14 : Int) (bmin15 : Int) (bsto17 : Int) (btra18 : Int) (bcarn19 : Bool) (bcar20 : List (List CV)) (bnumn21 : Bool) (bnum22 : List (List CV)) (bvian23 : Bool) (bvia24 : List (List CV)) (x37 : CV) (x39 : CV) (r35 : CV) (i114 : Int) (v115 : CV) (v116 : CV) (v117 : CV) (v118 : CV) (v119 : CV) (v120 : CV) (v121 : CV) (v122 : CV) :
  l20_CondReasons_L1 lb n 0 akin1 aln2 al3 aa4 ab5 aperfro6 aperto7 aperday9 atexn10 atex11 btyp12 bsal13 bday14 bmin15 bsto17 btra18 bcarn19 bcar20 bnumn21 bnum22 bvian23 bvia24 x37 x39 r35 i114 v115 v116 v117 v118 v119 v120 v121 v122 =
 none := (hold_eq _).trans (by kernel_rfl)

theorem l20_CondReasons_eq (lb : Nat) (n : Nat) (akin1 : Int) (aln2 : Bool) (al3 : List (List CV)) (aa4 : Int) (ab5 : Int) (aperfro6 : Int) (aperto7 : Int) (aperday9 : Int) (atexn10 : Bool) (atex11 : List (List CV)) (btyp12 : List UInt8) (bsal13 : Int) (bday14 : Int) (bmin15 : Int) (bsto17 : Int) (btra18 : Int) (bcarn19 : Bool) (bcar20 : List (List CV)) (bnumn21 : Bool) (bnum22 : List (List CV)) (bvian23 : Bool) (bvia24 : List (List CV)) :
  top lb n F_l20_CondReasons [.agg [.int .i64 akin1, .list aln2 al3, .int .i64 aa4, .int .i64 ab5, .int .i64 aperfro6, .int .i64 aperto7, .int .i64 aperday9, .list atexn10 atex11], .agg [.str btyp12, .int .i64 bsal13, .int .i64 bday14, .int .i64 bmin15, .int .i64 bsto17, .int .i64 btra18, .list bcarn19 bcar20, .list bnumn21 bnum22, .list bvian23 bvia24]] =
 optO (C lb n F_l20_large [.agg [.int .i64 akin1, .list aln2 al3, .int .i64 aa4, .int .i64 ab5, .int .i64 aperfro6, .int .i64 aperto7, .int .i64 aperday9, .list atexn10 atex11]]) fun r25 =>
 optO (CV.asB r25) fun b26 =>
 bif b26 then
 (optO (C lb n F_l20_knows []) fun r27 =>
 some (r27))
 else
 (optO (C lb n F_l20_far [.agg [.str btyp12, .int .i64 bsal13, .int .i64 bday14, .int .i64 bmin15, .int .i64 bsto17, .int .i64 btra18, .list bcarn19 bcar20, .list bnumn21 bnum22, .list bvian23 bvia24]]) fun r28 =>
 optO (CV.asB r28) fun b29 =>
 bif b29 then
 (optO (C lb n F_l20_knows []) fun r30 =>
 some (r30))
 else
 (optO (C lb n F_r20_Check [.agg [.int .i64 akin1, .list aln2 al3, .int .i64 aa4, .int .i64 ab5, .int .i64 aperfro6, .int .i64 aperto7, .int .i64 aperday9, .list atexn10 atex11]]) fun r31 =>
 optO (CV.asI .i64 r31) fun i33 =>
 bif (i33 != 0) then
 (optO (C lb n F_l20_knows []) fun r34 =>
 some (r34))
 else
 (optO (C lb n F_cond_Why [.agg [.int .i64 akin1, .list aln2 al3, .int .i64 aa4, .int .i64 ab5, .int .i64 aperfro6, .int .i64 aperto7, .int .i64 aperday9, .list atexn10 atex11], .agg [.str btyp12, .int .i64 bsal13, .int .i64 bday14, .int .i64 bmin15, .int .i64 bsto17, .int .i64 btra18, .list bcarn19 bcar20, .list bnumn21 bnum22, .list bvian23 bvia24]]) fun r35 =>
 optO (CV.asT r35) fun t36 =>
 optO (t36[0]?) fun x37 =>
 optO (CV.asT r35) fun t38 =>
 optO (t38[1]?) fun x39 =>
 optO (C lb n F_cond_Holds [.agg [.int .i64 akin1, .list aln2 al3, .int .i64 aa4, .int .i64 ab5, .int .i64 aperfro6, .int .i64 aperto7, .int .i64 aperday9, .list atexn10 atex11], .agg [.str btyp12, .int .i64 bsal13, .int .i64 bday14, .int .i64 bmin15, .int .i64 bsto17, .int .i64 btra18, .list bcarn19 bcar20, .list bnumn21 bnum22, .list bvian23 bvia24]]) fun r40 =>
 optO (CV.asB x39) fun b41 =>
 optO (CV.asB r40) fun b42 =>
 bif (b41 == b42) then
 (some (.bool false))
 else
 (optO (CV.asB x39) fun b43 =>
 bif (!b43) then
 (optO (CV.asL x37) fun p44 =>
 bif (decide ((p44.2.length : Int) > 0)) then
 (some (.bool false))
 else
 (l20_CondReasons_L1 lb n n akin1 aln2 al3 aa4 ab5 aperfro6 aperto7 aperday9 atexn10 atex11 btyp12 bsal13 bday14 bmin15 bsto17 btra18 bcarn19 bcar20 bnumn21 bnum22 bvian23 bvia24 x37 x39 r35 0 (.int .i64 akin1) (.list aln2 al3) (.int .i64 aa4) (.int .i64 ab5) (.int .i64 aperfro6) (.int .i64 aperto7) (.int .i64 aperday9) (.list atexn10 atex11)))
 else
 (l20_CondReasons_L1 lb n n akin1 aln2 al3 aa4 ab5 aperfro6 aperto7 aperday9 atexn10 atex11 btyp12 bsal13 bday14 bmin15 bsto17 btra18 bcarn19 bcar20 bnumn21 bnum22 bvian23 bvia24 x37 x39 r35 0 (.int .i64 akin1) (.list aln2 al3) (.int .i64 aa4) (.int .i64 ab5) (.int .i64 aperfro6) (.int .i64 aperto7) (.int .i64 aperday9) (.list atexn10 atex11)))))) := by kernel_rfl

end Go.Proofs
