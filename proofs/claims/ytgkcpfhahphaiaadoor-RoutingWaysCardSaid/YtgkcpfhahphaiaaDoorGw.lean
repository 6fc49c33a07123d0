/- Equations of functions, printed by program. Conditions: none. -/
import Derived.Test.YtgkcpfhahphaiaaDoorEv
namespace Go.Proofs
open Go.Am
set_option maxRecDepth 100000
set_option linter.unusedVariables false
/-! airline/routing.Ways -/
noncomputable def routing_Ways_L1 (lb : Bool) (n : Nat) (k19 : Nat) (anum1 : Int) (alinn2 : Bool) (alin3 : List (List CV)) (amil4 : Int) (b5 : List UInt8) (c6 : List UInt8) (d7 : Int) (i12 : Int) (b13 : Bool) (l14 : List (List CV)) : Option CV :=
  hold (loopC (E0 lb n 0 993) 0 (loopTemps (sub (B F_routing_Ways) [1, 1, 1, 0, 1, 0, 0]) ++ [11]) [] (sub (B F_routing_Ways) [1, 1, 1, 0, 1, 0, 0]) (blockK 1 (seqK (E0 lb n 0 996) (sub (B F_routing_Ways) [1, 1, 1, 0]) (sub (B F_routing_Ways) [1, 1, 1, 1]) (retK Tryd.prog (R F_routing_Ways) 0 (outK (tightF Tryd.prog F_routing_Ways))))) k19 ⟨fr 50 [(0, .val (.agg [.int .i64 anum1, .list alinn2 alin3, .int .i64 amil4])), (1, .val (.str b5)), (2, .val (.str c6)), (3, .val (.int .i64 d7)), (4, .ptr 0 4 0), (8, .lst true true 34 []), (9, .val (.int .i64 0)), (10, .ptr 0 10 0), (12, .val (.bool (decide (d7 > 6)))), (24, .val (.bool ((alin3.length : Int) == 0))), (33, .ptr 0 4 1), (34, .val (.list alinn2 alin3)), (35, .val (.str c6)), (36, .val (.agg [.list alinn2 alin3, .str c6, .list true []])), (37, .val (.int .i64 d7)), (38, .val (.int .i64 i12))], [bx 50 [(4, some [.val (.int .i64 anum1), .val (.list alinn2 alin3), .val (.int .i64 amil4)]), (10, some [.val (.list alinn2 alin3), .val (.str c6), .lst true b13 34 l14])]], KK⟩)

noncomputable def routing_search_walk_d1 (lb : Bool) (n : Nat) (K : AV → List (List (Option (List AV))) → Option CV) (bq1 : Bool) (lq2 : List (List CV)) (iq3 : Int) (bq4 : Bool) (lq5 : List (List CV)) (sq6 : List UInt8) (bq7 : Bool) (lq8 : List (List CV)) (iq9 : Int) (bq10 : Bool) (lq11 : List (List CV)) (iq12 : Int) : Option CV :=
  I9 lb n F_routing_search_walk [.ptr 0 10 0, .val (.list bq1 lq2), .val (.int .i64 iq3)] [bx 50 [(4, some [.val (.int .i64 iq9), .val (.list bq10 lq11), .val (.int .i64 iq12)]), (10, some [.val (.list bq4 lq5), .val (.str sq6), .lst true bq7 34 lq8])]] K

noncomputable def routing_Ways_c2 (lb : Bool) (n : Nat) (anum1 : Int) (alinn2 : Bool) (alin3 : List (List CV)) (amil4 : Int) (b5 : List UInt8) (c6 : List UInt8) (d7 : Int) (i12 : Int) (b13 : Bool) (l14 : List (List CV)) (k19 : Nat) : AV → List (List (Option (List AV))) → Option CV :=
  (inlK (opAt (opsOf (sub (B F_routing_Ways) [1, 1, 1, 0, 1, 0, 0, 1, 1, 0, 0, 1, 0])) 4) ⟨fr 50 [(0, .val (.agg [.int .i64 anum1, .list alinn2 alin3, .int .i64 amil4])), (1, .val (.str b5)), (2, .val (.str c6)), (3, .val (.int .i64 d7)), (4, .ptr 0 4 0), (8, .lst true true 34 []), (9, .val (.int .i64 0)), (10, .ptr 0 10 0), (11, .val (.int .i64 i12)), (12, .val (.bool (decide (d7 > 6)))), (24, .val (.bool ((alin3.length : Int) == 0))), (33, .ptr 0 4 1), (34, .val (.list alinn2 alin3)), (35, .val (.str c6)), (36, .val (.agg [.list alinn2 alin3, .str c6, .list true []])), (37, .val (.int .i64 d7)), (38, .val (.int .i64 i12)), (39, .val (.bool (decide (i12 < d7)))), (40, .val (.int .i64 i12)), (41, .val (.str b5)), (42, .lst true false 9 [[CV.str b5]]), (43, .val (.int .i64 i12)), (44, .val (.int .i64 (IntKind.wrap .i64 (i12 + 1))))], [bx 50 [(4, some [.val (.int .i64 anum1), .val (.list alinn2 alin3), .val (.int .i64 amil4)]), (10, some [.val (.list alinn2 alin3), .val (.str c6), .lst true b13 34 l14])]], KK⟩ (opsK Tryd.prog (C lb n) (I9 lb n) 0 (opsOf (sub (B F_routing_Ways) [1, 1, 1, 0, 1, 0, 0, 1, 1, 0, 0, 1, 0])) ((opsOf (sub (B F_routing_Ways) [1, 1, 1, 0, 1, 0, 0, 1, 1, 0, 0, 1, 0])).drop 5) ((seqK (E0 lb n 0 987) (sub (B F_routing_Ways) [1, 1, 1, 0, 1, 0, 0, 1, 1, 0, 0, 1, 0]) (sub (B F_routing_Ways) [1, 1, 1, 0, 1, 0, 0, 1, 1, 0, 0, 1, 1]) (blockK 2 (seqK (E0 lb n 0 990) (sub (B F_routing_Ways) [1, 1, 1, 0, 1, 0, 0, 1, 1, 0]) (sub (B F_routing_Ways) [1, 1, 1, 0, 1, 0, 0, 1, 1, 1]) (loopK 0 (loopTemps (sub (B F_routing_Ways) [1, 1, 1, 0, 1, 0, 0]) ++ [11]) [] (loopC (E0 lb n 0 993) 0 (loopTemps (sub (B F_routing_Ways) [1, 1, 1, 0, 1, 0, 0]) ++ [11]) [] (sub (B F_routing_Ways) [1, 1, 1, 0, 1, 0, 0]) (blockK 1 (seqK (E0 lb n 0 996) (sub (B F_routing_Ways) [1, 1, 1, 0]) (sub (B F_routing_Ways) [1, 1, 1, 1]) (retK Tryd.prog (R F_routing_Ways) 0 (outK (tightF Tryd.prog F_routing_Ways))))) k19) (blockK 1 (seqK (E0 lb n 0 996) (sub (B F_routing_Ways) [1, 1, 1, 0]) (sub (B F_routing_Ways) [1, 1, 1, 1]) (retK Tryd.prog (R F_routing_Ways) 0 (outK (tightF Tryd.prog F_routing_Ways))))))))) .normal)))

theorem routing_Ways_c2_eq (lb : Bool) (n : Nat) (anum1 : Int) (alinn2 : Bool) (alin3 : List (List CV)) (amil4 : Int) (b5 : List UInt8) (c6 : List UInt8) (d7 : Int) (i12 : Int) (b13 : Bool) (l14 : List (List CV)) (k19 : Nat) (b20 : Bool) (l21 : List (List CV)) (b22 : Bool) :
  routing_Ways_c2 lb n anum1 alinn2 alin3 amil4 b5 c6 d7 i12 b13 l14 k19 (.val (.bool b22)) [bx 50 [(4, some [.val (.int .i64 anum1), .val (.list alinn2 alin3), .val (.int .i64 amil4)]), (10, some [.val (.list alinn2 alin3), .val (.str c6), .lst true b20 34 l21])]] =
 bif (!b22) then
 (some (.tup [.list true [], .int .i64 4]))
 else
 (routing_Ways_L1 lb n k19 anum1 alinn2 alin3 amil4 b5 c6 d7 (IntKind.wrap .i64 (i12 + 1)) b20 l21) := by kernel_rfl

noncomputable def routing_Ways_J3 (lb : Bool) (n : Nat) (anum1 : Int) (alinn2 : Bool) (alin3 : List (List CV)) (amil4 : Int) (b5 : List UInt8) (c6 : List UInt8) (d7 : Int) (b23 : Bool) (l24 : List (List CV)) : Option CV :=
  hold (E0 lb n 0 996 (sub (B F_routing_Ways) [1, 1, 1, 1]) (retK Tryd.prog (R F_routing_Ways) 0 (outK (tightF Tryd.prog F_routing_Ways))) ⟨fr 50 [(0, .val (.agg [.int .i64 anum1, .list alinn2 alin3, .int .i64 amil4])), (1, .val (.str b5)), (2, .val (.str c6)), (3, .val (.int .i64 d7)), (4, .ptr 0 4 0), (8, .lst true true 34 []), (9, .val (.int .i64 0)), (10, .ptr 0 10 0), (12, .val (.bool (decide (d7 > 6)))), (24, .val (.bool ((alin3.length : Int) == 0))), (33, .ptr 0 4 1), (34, .val (.list alinn2 alin3)), (35, .val (.str c6)), (36, .val (.agg [.list alinn2 alin3, .str c6, .list true []]))], [bx 50 [(4, some [.val (.int .i64 anum1), .val (.list alinn2 alin3), .val (.int .i64 amil4)]), (10, some [.val (.list alinn2 alin3), .val (.str c6), .lst true b23 34 l24])]], KK⟩)

theorem routing_Ways_J3_eq (lb : Bool) (n : Nat) (anum1 : Int) (alinn2 : Bool) (alin3 : List (List CV)) (amil4 : Int) (b5 : List UInt8) (c6 : List UInt8) (d7 : Int) (b23 : Bool) (l24 : List (List CV)) :
  routing_Ways_J3 lb n anum1 alinn2 alin3 amil4 b5 c6 d7 b23 l24 =
 some (.tup [.list b23 l24, .int .i64 0]) := (hold_eq _).trans (by kernel_rfl)

theorem routing_Ways_L1_succ (lb : Bool) (n k19 : Nat) (anum1 : Int) (alinn2 : Bool) (alin3 : List (List CV)) (amil4 : Int) (b5 : List UInt8) (c6 : List UInt8) (d7 : Int) (i12 : Int) (b13 : Bool) (l14 : List (List CV)) :
  routing_Ways_L1 lb n (k19 + 1) anum1 alinn2 alin3 amil4 b5 c6 d7 i12 b13 l14 =
 bif (decide (i12 < d7)) then
 (routing_search_walk_d1 lb n (routing_Ways_c2 lb n anum1 alinn2 alin3 amil4 b5 c6 d7 i12 b13 l14 k19) false [[CV.str b5]] (IntKind.wrap .i64 (i12 + 1)) alinn2 alin3 c6 b13 l14 anum1 alinn2 alin3 amil4)
 else
 (routing_Ways_J3 lb n anum1 alinn2 alin3 amil4 b5 c6 d7 b13 l14) := (hold_eq _).trans (by kernel_rfl)

theorem routing_Ways_L1_zero (lb : Bool) (n : Nat) (anum1 : Int) (alinn2 : Bool) (alin3 : List (List CV)) (amil4 : Int) (b5 : List UInt8) (c6 : List UInt8) (d7 : Int) (i12 : Int) (b13 : Bool) (l14 : List (List CV)) :
  routing_Ways_L1 lb n 0 anum1 alinn2 alin3 amil4 b5 c6 d7 i12 b13 l14 =
 none := (hold_eq _).trans (by kernel_rfl)

theorem routing_Ways_eq (lb : Bool) (n : Nat) (anum1 : Int) (alinn2 : Bool) (alin3 : List (List CV)) (amil4 : Int) (b5 : List UInt8) (c6 : List UInt8) (d7 : Int) :
  top lb n F_routing_Ways [.agg [.int .i64 anum1, .list alinn2 alin3, .int .i64 amil4], .str b5, .str c6, .int .i64 d7] =
 bif (b5 == c6) then
 (some (.tup [.list true [], .int .i64 2]))
 else
 (bif (decide (d7 < 1)) then
 (some (.tup [.list true [], .int .i64 2]))
 else
 (bif (decide (d7 > 6)) then
 (some (.tup [.list true [], .int .i64 2]))
 else
 (bif ((alin3.length : Int) == 0) then
 (some (.tup [.list false [[CV.list false [[CV.str b5], [CV.str c6]]]], .int .i64 0]))
 else
 (routing_Ways_L1 lb n n anum1 alinn2 alin3 amil4 b5 c6 d7 0 true [])))) := by kernel_rfl

/-! (*airline/routing.search).walk, at depth 1 -/
noncomputable def routing_search_walk_1_L1 (lb : Bool) (inl : Inl) (n : Nat) (k37 : Nat) (K : AV → List (List (Option (List AV))) → Option CV) (bq1 : Bool) (lq2 : List (List CV)) (iq3 : Int) (x2 : CV) (c1 : List CV) (bq4 : Bool) (lq5 : List (List CV)) (iq9 : Int) (bq10 : Bool) (lq11 : List (List CV)) (iq12 : Int) (sq6 : List UInt8) (i21 : Int) (b22 : Bool) (l23 : List (List CV)) : Option CV :=
  hold (loopC (evN Tryd.prog (C lb n) inl n 1 992) 1 (loopTemps (sub (B F_routing_search_walk) [1, 1, 1, 1, 0, 1, 0, 0]) ++ []) [9] (sub (B F_routing_search_walk) [1, 1, 1, 1, 0, 1, 0, 0]) (blockK 0 (seqK (evN Tryd.prog (C lb n) inl n 1 995) (sub (B F_routing_search_walk) [1, 1, 1, 1, 0]) (sub (B F_routing_search_walk) [1, 1, 1, 1, 1]) (retK Tryd.prog (R F_routing_search_walk) 1 K))) k37 ⟨fr 77 [(0, .ptr 0 10 0), (1, .val (.list bq1 lq2)), (2, .val (.int .i64 iq3)), (6, .val (.bool false)), (7, .val x2), (10, .val (.list bq1 lq2)), (11, .val (.list bq1 lq2)), (12, .val (.int .i64 (lq2.length : Int))), (13, .val (.int .i64 (IntKind.wrap .i64 ((lq2.length : Int) - 1)))), (14, .cptr c1 0), (15, .val x2), (46, .ptr 0 10 0), (47, .ptr 0 10 0), (48, .ptr 0 10 0), (49, .val (.list bq4 lq5)), (50, .val (.int .i64 (lq5.length : Int))), (51, .val (.int .i64 i21))], [bx 50 [(4, some [.val (.int .i64 iq9), .val (.list bq10 lq11), .val (.int .i64 iq12)]), (10, some [.val (.list bq4 lq5), .val (.str sq6), .lst true b22 34 l23])], bx 77 []], KK⟩)

noncomputable def routing_search_walk_d2 (lb : Bool) (inl : Inl) (n : Nat) (K : AV → List (List (Option (List AV))) → Option CV) (bq1 : Bool) (lq2 : List (List CV)) (iq3 : Int) (bq4 : Bool) (lq5 : List (List CV)) (sq6 : List UInt8) (bq7 : Bool) (lq8 : List (List CV)) (iq9 : Int) (bq10 : Bool) (lq11 : List (List CV)) (iq12 : Int) (vq13 : CV) (vq14 : CV) : Option CV :=
  inl F_routing_search_walk [.ptr 0 10 0, .val (.list bq1 lq2), .val (.int .i64 iq3)] [bx 50 [(4, some [.val (.int .i64 iq9), .val (.list bq10 lq11), .val (.int .i64 iq12)]), (10, some [.val (.list bq4 lq5), .val (.str sq6), .lst true bq7 34 lq8])], bx 77 [(9, some [.val vq13, .val vq14])]] K

noncomputable def routing_search_walk_1_c2 (lb : Bool) (inl : Inl) (n : Nat) (bq1 : Bool) (lq2 : List (List CV)) (iq3 : Int) (x2 : CV) (c1 : List CV) (bq4 : Bool) (lq5 : List (List CV)) (i21 : Int) (c38 : List CV) (x39 : CV) (x40 : CV) (p46 : Bool × List (List CV)) (iq9 : Int) (bq10 : Bool) (lq11 : List (List CV)) (iq12 : Int) (sq6 : List UInt8) (b22 : Bool) (l23 : List (List CV)) (K : AV → List (List (Option (List AV))) → Option CV) (k37 : Nat) : AV → List (List (Option (List AV))) → Option CV :=
  (inlK (opAt (opsOf (sub (B F_routing_search_walk) [1, 1, 1, 1, 0, 1, 0, 0, 1, 1, 0, 0, 1, 1, 0])) 9) ⟨fr 77 [(0, .ptr 0 10 0), (1, .val (.list bq1 lq2)), (2, .val (.int .i64 iq3)), (6, .val (.bool false)), (7, .val x2), (9, .ptr 1 9 0), (10, .val (.list bq1 lq2)), (11, .val (.list bq1 lq2)), (12, .val (.int .i64 (lq2.length : Int))), (13, .val (.int .i64 (IntKind.wrap .i64 ((lq2.length : Int) - 1)))), (14, .cptr c1 0), (15, .val x2), (46, .ptr 0 10 0), (47, .ptr 0 10 0), (48, .ptr 0 10 0), (49, .val (.list bq4 lq5)), (50, .val (.int .i64 (lq5.length : Int))), (51, .val (.int .i64 i21)), (52, .val (.bool (decide (i21 < (lq5.length : Int))))), (53, .cptr c38 0), (54, .val (.agg [x39, x40])), (65, .ptr 0 10 0), (66, .val (.list bq1 lq2)), (67, .lst false p46.1 9 p46.2), (68, .ptr 1 9 1), (69, .val x40), (70, .lst true false 9 [[x40]]), (71, .val (.list (p46.1 && false) (p46.2 ++ [[x40]]))), (72, .val (.int .i64 iq3)), (73, .val (.int .i64 (IntKind.wrap .i64 (iq3 - 1))))], [bx 50 [(4, some [.val (.int .i64 iq9), .val (.list bq10 lq11), .val (.int .i64 iq12)]), (10, some [.val (.list bq4 lq5), .val (.str sq6), .lst true b22 34 l23])], bx 77 [(9, some [.val x39, .val x40])]], KK⟩ (opsDrawK Tryd.prog (C lb n) inl 1 (Region.before (opsOf (sub (B F_routing_search_walk) [1, 1, 1, 1, 0, 1, 0, 0, 1, 1, 0, 0, 1, 1, 0])).toArray).toList (opsOf (sub (B F_routing_search_walk) [1, 1, 1, 1, 0, 1, 0, 0, 1, 1, 0, 0, 1, 1, 0])) ((opsOf (sub (B F_routing_search_walk) [1, 1, 1, 1, 0, 1, 0, 0, 1, 1, 0, 0, 1, 1, 0])).drop 10) 10 [] ((seqK (evN Tryd.prog (C lb n) inl n 1 985) (sub (B F_routing_search_walk) [1, 1, 1, 1, 0, 1, 0, 0, 1, 1, 0, 0, 1, 1, 0]) (sub (B F_routing_search_walk) [1, 1, 1, 1, 0, 1, 0, 0, 1, 1, 0, 0, 1, 1, 1]) (blockK 1 (seqK (evN Tryd.prog (C lb n) inl n 1 989) (sub (B F_routing_search_walk) [1, 1, 1, 1, 0, 1, 0, 0, 1, 1, 0]) (sub (B F_routing_search_walk) [1, 1, 1, 1, 0, 1, 0, 0, 1, 1, 1]) (loopK 1 (loopTemps (sub (B F_routing_search_walk) [1, 1, 1, 1, 0, 1, 0, 0]) ++ []) [9] (loopC (evN Tryd.prog (C lb n) inl n 1 992) 1 (loopTemps (sub (B F_routing_search_walk) [1, 1, 1, 1, 0, 1, 0, 0]) ++ []) [9] (sub (B F_routing_search_walk) [1, 1, 1, 1, 0, 1, 0, 0]) (blockK 0 (seqK (evN Tryd.prog (C lb n) inl n 1 995) (sub (B F_routing_search_walk) [1, 1, 1, 1, 0]) (sub (B F_routing_search_walk) [1, 1, 1, 1, 1]) (retK Tryd.prog (R F_routing_search_walk) 1 K))) k37) (blockK 0 (seqK (evN Tryd.prog (C lb n) inl n 1 995) (sub (B F_routing_search_walk) [1, 1, 1, 1, 0]) (sub (B F_routing_search_walk) [1, 1, 1, 1, 1]) (retK Tryd.prog (R F_routing_search_walk) 1 K))))))) .normal)))

theorem routing_search_walk_1_c2_eq (lb : Bool) (inl : Inl) (n : Nat) (bq1 : Bool) (lq2 : List (List CV)) (iq3 : Int) (x2 : CV) (c1 : List CV) (bq4 : Bool) (lq5 : List (List CV)) (i21 : Int) (c38 : List CV) (x39 : CV) (x40 : CV) (p46 : Bool × List (List CV)) (iq9 : Int) (bq10 : Bool) (lq11 : List (List CV)) (iq12 : Int) (sq6 : List UInt8) (b22 : Bool) (l23 : List (List CV)) (K : AV → List (List (Option (List AV))) → Option CV) (k37 : Nat) (b47 : Bool) (l48 : List (List CV)) (b49 : Bool) :
  routing_search_walk_1_c2 lb inl n bq1 lq2 iq3 x2 c1 bq4 lq5 i21 c38 x39 x40 p46 iq9 bq10 lq11 iq12 sq6 b22 l23 K k37 (.val (.bool b49)) [bx 50 [(4, some [.val (.int .i64 iq9), .val (.list bq10 lq11), .val (.int .i64 iq12)]), (10, some [.val (.list bq4 lq5), .val (.str sq6), .lst true b47 34 l48])], bx 77 [(9, some [.val x39, .val x40])]] =
 bif (!b49) then
 (K (.val (.bool false)) [bx 50 [(4, some [.val (.int .i64 iq9), .val (.list bq10 lq11), .val (.int .i64 iq12)]), (10, some [.val (.list bq4 lq5), .val (.str sq6), .lst true b47 34 l48])]])
 else
 (routing_search_walk_1_L1 lb inl n k37 K bq1 lq2 iq3 x2 c1 bq4 lq5 iq9 bq10 lq11 iq12 sq6 (IntKind.wrap .i64 (i21 + 1)) b47 l48) := by kernel_rfl

noncomputable def routing_search_walk_1_J3 (lb : Bool) (inl : Inl) (n : Nat) (K : AV → List (List (Option (List AV))) → Option CV) (bq1 : Bool) (lq2 : List (List CV)) (iq3 : Int) (x2 : CV) (c1 : List CV) (iq9 : Int) (bq10 : Bool) (lq11 : List (List CV)) (iq12 : Int) (bq4 : Bool) (lq5 : List (List CV)) (sq6 : List UInt8) (b50 : Bool) (l51 : List (List CV)) : Option CV :=
  hold (evN Tryd.prog (C lb n) inl n 1 995 (sub (B F_routing_search_walk) [1, 1, 1, 1, 1]) (retK Tryd.prog (R F_routing_search_walk) 1 K) ⟨fr 77 [(0, .ptr 0 10 0), (1, .val (.list bq1 lq2)), (2, .val (.int .i64 iq3)), (6, .val (.bool false)), (7, .val x2), (10, .val (.list bq1 lq2)), (11, .val (.list bq1 lq2)), (12, .val (.int .i64 (lq2.length : Int))), (13, .val (.int .i64 (IntKind.wrap .i64 ((lq2.length : Int) - 1)))), (14, .cptr c1 0), (15, .val x2)], [bx 50 [(4, some [.val (.int .i64 iq9), .val (.list bq10 lq11), .val (.int .i64 iq12)]), (10, some [.val (.list bq4 lq5), .val (.str sq6), .lst true b50 34 l51])], bx 77 []], KK⟩)

theorem routing_search_walk_1_J3_eq (lb : Bool) (inl : Inl) (n : Nat) (K : AV → List (List (Option (List AV))) → Option CV) (bq1 : Bool) (lq2 : List (List CV)) (iq3 : Int) (x2 : CV) (c1 : List CV) (iq9 : Int) (bq10 : Bool) (lq11 : List (List CV)) (iq12 : Int) (bq4 : Bool) (lq5 : List (List CV)) (sq6 : List UInt8) (b50 : Bool) (l51 : List (List CV)) :
  routing_search_walk_1_J3 lb inl n K bq1 lq2 iq3 x2 c1 iq9 bq10 lq11 iq12 bq4 lq5 sq6 b50 l51 =
 K (.val (.bool true)) [bx 50 [(4, some [.val (.int .i64 iq9), .val (.list bq10 lq11), .val (.int .i64 iq12)]), (10, some [.val (.list bq4 lq5), .val (.str sq6), .lst true b50 34 l51])]] := (hold_eq _).trans (by kernel_rfl)

theorem routing_search_walk_1_L1_succ (lb : Bool) (inl : Inl) (n k37 : Nat) (K : AV → List (List (Option (List AV))) → Option CV) (bq1 : Bool) (lq2 : List (List CV)) (iq3 : Int) (x2 : CV) (c1 : List CV) (bq4 : Bool) (lq5 : List (List CV)) (iq9 : Int) (bq10 : Bool) (lq11 : List (List CV)) (iq12 : Int) (sq6 : List UInt8) (i21 : Int) (b22 : Bool) (l23 : List (List CV)) :
  routing_search_walk_1_L1 lb inl n (k37 + 1) K bq1 lq2 iq3 x2 c1 bq4 lq5 iq9 bq10 lq11 iq12 sq6 i21 b22 l23 =
 bif (decide (i21 < (lq5.length : Int))) then
 (optO (atL lq5 i21) fun c38 =>
 chkO (c38.length == 2) (
 optO (c38[0]?) fun x39 =>
 optO (c38[1]?) fun x40 =>
 optO (CV.asS x39) fun s41 =>
 optO (CV.asS x2) fun s42 =>
 bif (!(s41 == s42)) then
 (routing_search_walk_1_L1 lb inl n k37 K bq1 lq2 iq3 x2 c1 bq4 lq5 iq9 bq10 lq11 iq12 sq6 (IntKind.wrap .i64 (i21 + 1)) b22 l23)
 else
 (optO (C lb n F_slices_Contains_string [.list bq1 lq2, x40]) fun r43 =>
 optO (CV.asB r43) fun b44 =>
 bif b44 then
 (routing_search_walk_1_L1 lb inl n k37 K bq1 lq2 iq3 x2 c1 bq4 lq5 iq9 bq10 lq11 iq12 sq6 (IntKind.wrap .i64 (i21 + 1)) b22 l23)
 else
 (optO (C lb n F_slices_Clip_string [.list bq1 lq2]) fun r45 =>
 optO (CV.asL r45) fun p46 =>
 chkO (CV.isCell x40) (
 chkO (room (p46.2.length + 1) 16) (
 routing_search_walk_d2 lb inl n (routing_search_walk_1_c2 lb inl n bq1 lq2 iq3 x2 c1 bq4 lq5 i21 c38 x39 x40 p46 iq9 bq10 lq11 iq12 sq6 b22 l23 K k37) (p46.1 && false) (p46.2 ++ [[x40]]) (IntKind.wrap .i64 (iq3 - 1)) bq4 lq5 sq6 b22 l23 iq9 bq10 lq11 iq12 x39 x40))))))
 else
 (routing_search_walk_1_J3 lb inl n K bq1 lq2 iq3 x2 c1 iq9 bq10 lq11 iq12 bq4 lq5 sq6 b22 l23) := (hold_eq _).trans (by kernel_rfl)

theorem routing_search_walk_1_L1_zero (lb : Bool) (inl : Inl) (n : Nat) (K : AV → List (List (Option (List AV))) → Option CV) (bq1 : Bool) (lq2 : List (List CV)) (iq3 : Int) (x2 : CV) (c1 : List CV) (bq4 : Bool) (lq5 : List (List CV)) (iq9 : Int) (bq10 : Bool) (lq11 : List (List CV)) (iq12 : Int) (sq6 : List UInt8) (i21 : Int) (b22 : Bool) (l23 : List (List CV)) :
  routing_search_walk_1_L1 lb inl n 0 K bq1 lq2 iq3 x2 c1 bq4 lq5 iq9 bq10 lq11 iq12 sq6 i21 b22 l23 =
 none := (hold_eq _).trans (by kernel_rfl)

theorem routing_search_walk_d1_eq (lb : Bool) (n : Nat) (K : AV → List (List (Option (List AV))) → Option CV) (bq1 : Bool) (lq2 : List (List CV)) (iq3 : Int) (bq4 : Bool) (lq5 : List (List CV)) (sq6 : List UInt8) (bq7 : Bool) (lq8 : List (List CV)) (iq9 : Int) (bq10 : Bool) (lq11 : List (List CV)) (iq12 : Int) :
  routing_search_walk_d1 lb n K bq1 lq2 iq3 bq4 lq5 sq6 bq7 lq8 iq9 bq10 lq11 iq12 =
 optO (atL lq2 (IntKind.wrap .i64 ((lq2.length : Int) - 1))) fun c1 =>
 chkO (c1.length == 1) (
 optO (c1[0]?) fun x2 =>
 bif (iq3 == 0) then
 (optO (CV.asS x2) fun s3 =>
 bif (s3 == sq6) then
 (chkO (room (lq8.length + 1) 24) (
 K (.val (.bool (decide (((lq8 ++ [[CV.list bq1 lq2]]).length : Int) ≤ 1024)))) [bx 50 [(4, some [.val (.int .i64 iq9), .val (.list bq10 lq11), .val (.int .i64 iq12)]), (10, some [.val (.list bq4 lq5), .val (.str sq6), .lst true (bq7 && false) 34 (lq8 ++ [[CV.list bq1 lq2]])])]]))
 else
 (K (.val (.bool (decide ((lq8.length : Int) ≤ 1024)))) [bx 50 [(4, some [.val (.int .i64 iq9), .val (.list bq10 lq11), .val (.int .i64 iq12)]), (10, some [.val (.list bq4 lq5), .val (.str sq6), .lst true bq7 34 lq8])]]))
 else
 (optO (CV.asS x2) fun s4 =>
 bif (s4 == sq6) then
 (K (.val (.bool true)) [bx 50 [(4, some [.val (.int .i64 iq9), .val (.list bq10 lq11), .val (.int .i64 iq12)]), (10, some [.val (.list bq4 lq5), .val (.str sq6), .lst true bq7 34 lq8])]])
 else
 (routing_search_walk_1_L1 lb (I8 lb n) n n K bq1 lq2 iq3 x2 c1 bq4 lq5 iq9 bq10 lq11 iq12 sq6 0 bq7 lq8))) := by kernel_rfl

/-! (*airline/routing.search).walk, at depth 2 -/
noncomputable def routing_search_walk_2_L1 (lb : Bool) (inl : Inl) (n : Nat) (k37 : Nat) (K : AV → List (List (Option (List AV))) → Option CV) (bq1 : Bool) (lq2 : List (List CV)) (iq3 : Int) (x2 : CV) (c1 : List CV) (bq4 : Bool) (lq5 : List (List CV)) (iq9 : Int) (bq10 : Bool) (lq11 : List (List CV)) (iq12 : Int) (sq6 : List UInt8) (vq13 : CV) (vq14 : CV) (i21 : Int) (b22 : Bool) (l23 : List (List CV)) : Option CV :=
  hold (loopC (evN Tryd.prog (C lb n) inl n 2 992) 2 (loopTemps (sub (B F_routing_search_walk) [1, 1, 1, 1, 0, 1, 0, 0]) ++ []) [9] (sub (B F_routing_search_walk) [1, 1, 1, 1, 0, 1, 0, 0]) (blockK 0 (seqK (evN Tryd.prog (C lb n) inl n 2 995) (sub (B F_routing_search_walk) [1, 1, 1, 1, 0]) (sub (B F_routing_search_walk) [1, 1, 1, 1, 1]) (retK Tryd.prog (R F_routing_search_walk) 2 K))) k37 ⟨fr 77 [(0, .ptr 0 10 0), (1, .val (.list bq1 lq2)), (2, .val (.int .i64 iq3)), (6, .val (.bool false)), (7, .val x2), (10, .val (.list bq1 lq2)), (11, .val (.list bq1 lq2)), (12, .val (.int .i64 (lq2.length : Int))), (13, .val (.int .i64 (IntKind.wrap .i64 ((lq2.length : Int) - 1)))), (14, .cptr c1 0), (15, .val x2), (46, .ptr 0 10 0), (47, .ptr 0 10 0), (48, .ptr 0 10 0), (49, .val (.list bq4 lq5)), (50, .val (.int .i64 (lq5.length : Int))), (51, .val (.int .i64 i21))], [bx 50 [(4, some [.val (.int .i64 iq9), .val (.list bq10 lq11), .val (.int .i64 iq12)]), (10, some [.val (.list bq4 lq5), .val (.str sq6), .lst true b22 34 l23])], bx 77 [(9, some [.val vq13, .val vq14])], bx 77 []], KK⟩)

noncomputable def routing_search_walk_d3 (lb : Bool) (inl : Inl) (n : Nat) (K : AV → List (List (Option (List AV))) → Option CV) (bq1 : Bool) (lq2 : List (List CV)) (iq3 : Int) (bq4 : Bool) (lq5 : List (List CV)) (sq6 : List UInt8) (bq7 : Bool) (lq8 : List (List CV)) (iq9 : Int) (bq10 : Bool) (lq11 : List (List CV)) (iq12 : Int) (vq13 : CV) (vq14 : CV) (vq15 : CV) (vq16 : CV) : Option CV :=
  inl F_routing_search_walk [.ptr 0 10 0, .val (.list bq1 lq2), .val (.int .i64 iq3)] [bx 50 [(4, some [.val (.int .i64 iq9), .val (.list bq10 lq11), .val (.int .i64 iq12)]), (10, some [.val (.list bq4 lq5), .val (.str sq6), .lst true bq7 34 lq8])], bx 77 [(9, some [.val vq13, .val vq14])], bx 77 [(9, some [.val vq15, .val vq16])]] K

noncomputable def routing_search_walk_2_c2 (lb : Bool) (inl : Inl) (n : Nat) (bq1 : Bool) (lq2 : List (List CV)) (iq3 : Int) (x2 : CV) (c1 : List CV) (bq4 : Bool) (lq5 : List (List CV)) (i21 : Int) (c38 : List CV) (x39 : CV) (x40 : CV) (p46 : Bool × List (List CV)) (iq9 : Int) (bq10 : Bool) (lq11 : List (List CV)) (iq12 : Int) (sq6 : List UInt8) (b22 : Bool) (l23 : List (List CV)) (vq13 : CV) (vq14 : CV) (K : AV → List (List (Option (List AV))) → Option CV) (k37 : Nat) : AV → List (List (Option (List AV))) → Option CV :=
  (inlK (opAt (opsOf (sub (B F_routing_search_walk) [1, 1, 1, 1, 0, 1, 0, 0, 1, 1, 0, 0, 1, 1, 0])) 9) ⟨fr 77 [(0, .ptr 0 10 0), (1, .val (.list bq1 lq2)), (2, .val (.int .i64 iq3)), (6, .val (.bool false)), (7, .val x2), (9, .ptr 2 9 0), (10, .val (.list bq1 lq2)), (11, .val (.list bq1 lq2)), (12, .val (.int .i64 (lq2.length : Int))), (13, .val (.int .i64 (IntKind.wrap .i64 ((lq2.length : Int) - 1)))), (14, .cptr c1 0), (15, .val x2), (46, .ptr 0 10 0), (47, .ptr 0 10 0), (48, .ptr 0 10 0), (49, .val (.list bq4 lq5)), (50, .val (.int .i64 (lq5.length : Int))), (51, .val (.int .i64 i21)), (52, .val (.bool (decide (i21 < (lq5.length : Int))))), (53, .cptr c38 0), (54, .val (.agg [x39, x40])), (65, .ptr 0 10 0), (66, .val (.list bq1 lq2)), (67, .lst false p46.1 9 p46.2), (68, .ptr 2 9 1), (69, .val x40), (70, .lst true false 9 [[x40]]), (71, .val (.list (p46.1 && false) (p46.2 ++ [[x40]]))), (72, .val (.int .i64 iq3)), (73, .val (.int .i64 (IntKind.wrap .i64 (iq3 - 1))))], [bx 50 [(4, some [.val (.int .i64 iq9), .val (.list bq10 lq11), .val (.int .i64 iq12)]), (10, some [.val (.list bq4 lq5), .val (.str sq6), .lst true b22 34 l23])], bx 77 [(9, some [.val vq13, .val vq14])], bx 77 [(9, some [.val x39, .val x40])]], KK⟩ (opsDrawK Tryd.prog (C lb n) inl 2 (Region.before (opsOf (sub (B F_routing_search_walk) [1, 1, 1, 1, 0, 1, 0, 0, 1, 1, 0, 0, 1, 1, 0])).toArray).toList (opsOf (sub (B F_routing_search_walk) [1, 1, 1, 1, 0, 1, 0, 0, 1, 1, 0, 0, 1, 1, 0])) ((opsOf (sub (B F_routing_search_walk) [1, 1, 1, 1, 0, 1, 0, 0, 1, 1, 0, 0, 1, 1, 0])).drop 10) 10 [] ((seqK (evN Tryd.prog (C lb n) inl n 2 985) (sub (B F_routing_search_walk) [1, 1, 1, 1, 0, 1, 0, 0, 1, 1, 0, 0, 1, 1, 0]) (sub (B F_routing_search_walk) [1, 1, 1, 1, 0, 1, 0, 0, 1, 1, 0, 0, 1, 1, 1]) (blockK 1 (seqK (evN Tryd.prog (C lb n) inl n 2 989) (sub (B F_routing_search_walk) [1, 1, 1, 1, 0, 1, 0, 0, 1, 1, 0]) (sub (B F_routing_search_walk) [1, 1, 1, 1, 0, 1, 0, 0, 1, 1, 1]) (loopK 2 (loopTemps (sub (B F_routing_search_walk) [1, 1, 1, 1, 0, 1, 0, 0]) ++ []) [9] (loopC (evN Tryd.prog (C lb n) inl n 2 992) 2 (loopTemps (sub (B F_routing_search_walk) [1, 1, 1, 1, 0, 1, 0, 0]) ++ []) [9] (sub (B F_routing_search_walk) [1, 1, 1, 1, 0, 1, 0, 0]) (blockK 0 (seqK (evN Tryd.prog (C lb n) inl n 2 995) (sub (B F_routing_search_walk) [1, 1, 1, 1, 0]) (sub (B F_routing_search_walk) [1, 1, 1, 1, 1]) (retK Tryd.prog (R F_routing_search_walk) 2 K))) k37) (blockK 0 (seqK (evN Tryd.prog (C lb n) inl n 2 995) (sub (B F_routing_search_walk) [1, 1, 1, 1, 0]) (sub (B F_routing_search_walk) [1, 1, 1, 1, 1]) (retK Tryd.prog (R F_routing_search_walk) 2 K))))))) .normal)))

theorem routing_search_walk_2_c2_eq (lb : Bool) (inl : Inl) (n : Nat) (bq1 : Bool) (lq2 : List (List CV)) (iq3 : Int) (x2 : CV) (c1 : List CV) (bq4 : Bool) (lq5 : List (List CV)) (i21 : Int) (c38 : List CV) (x39 : CV) (x40 : CV) (p46 : Bool × List (List CV)) (iq9 : Int) (bq10 : Bool) (lq11 : List (List CV)) (iq12 : Int) (sq6 : List UInt8) (b22 : Bool) (l23 : List (List CV)) (vq13 : CV) (vq14 : CV) (K : AV → List (List (Option (List AV))) → Option CV) (k37 : Nat) (b47 : Bool) (l48 : List (List CV)) (b49 : Bool) :
  routing_search_walk_2_c2 lb inl n bq1 lq2 iq3 x2 c1 bq4 lq5 i21 c38 x39 x40 p46 iq9 bq10 lq11 iq12 sq6 b22 l23 vq13 vq14 K k37 (.val (.bool b49)) [bx 50 [(4, some [.val (.int .i64 iq9), .val (.list bq10 lq11), .val (.int .i64 iq12)]), (10, some [.val (.list bq4 lq5), .val (.str sq6), .lst true b47 34 l48])], bx 77 [(9, some [.val vq13, .val vq14])], bx 77 [(9, some [.val x39, .val x40])]] =
 bif (!b49) then
 (K (.val (.bool false)) [bx 50 [(4, some [.val (.int .i64 iq9), .val (.list bq10 lq11), .val (.int .i64 iq12)]), (10, some [.val (.list bq4 lq5), .val (.str sq6), .lst true b47 34 l48])], bx 77 [(9, some [.val vq13, .val vq14])]])
 else
 (routing_search_walk_2_L1 lb inl n k37 K bq1 lq2 iq3 x2 c1 bq4 lq5 iq9 bq10 lq11 iq12 sq6 vq13 vq14 (IntKind.wrap .i64 (i21 + 1)) b47 l48) := by kernel_rfl

noncomputable def routing_search_walk_2_J3 (lb : Bool) (inl : Inl) (n : Nat) (K : AV → List (List (Option (List AV))) → Option CV) (bq1 : Bool) (lq2 : List (List CV)) (iq3 : Int) (x2 : CV) (c1 : List CV) (iq9 : Int) (bq10 : Bool) (lq11 : List (List CV)) (iq12 : Int) (bq4 : Bool) (lq5 : List (List CV)) (sq6 : List UInt8) (vq13 : CV) (vq14 : CV) (b50 : Bool) (l51 : List (List CV)) : Option CV :=
  hold (evN Tryd.prog (C lb n) inl n 2 995 (sub (B F_routing_search_walk) [1, 1, 1, 1, 1]) (retK Tryd.prog (R F_routing_search_walk) 2 K) ⟨fr 77 [(0, .ptr 0 10 0), (1, .val (.list bq1 lq2)), (2, .val (.int .i64 iq3)), (6, .val (.bool false)), (7, .val x2), (10, .val (.list bq1 lq2)), (11, .val (.list bq1 lq2)), (12, .val (.int .i64 (lq2.length : Int))), (13, .val (.int .i64 (IntKind.wrap .i64 ((lq2.length : Int) - 1)))), (14, .cptr c1 0), (15, .val x2)], [bx 50 [(4, some [.val (.int .i64 iq9), .val (.list bq10 lq11), .val (.int .i64 iq12)]), (10, some [.val (.list bq4 lq5), .val (.str sq6), .lst true b50 34 l51])], bx 77 [(9, some [.val vq13, .val vq14])], bx 77 []], KK⟩)

theorem routing_search_walk_2_J3_eq (lb : Bool) (inl : Inl) (n : Nat) (K : AV → List (List (Option (List AV))) → Option CV) (bq1 : Bool) (lq2 : List (List CV)) (iq3 : Int) (x2 : CV) (c1 : List CV) (iq9 : Int) (bq10 : Bool) (lq11 : List (List CV)) (iq12 : Int) (bq4 : Bool) (lq5 : List (List CV)) (sq6 : List UInt8) (vq13 : CV) (vq14 : CV) (b50 : Bool) (l51 : List (List CV)) :
  routing_search_walk_2_J3 lb inl n K bq1 lq2 iq3 x2 c1 iq9 bq10 lq11 iq12 bq4 lq5 sq6 vq13 vq14 b50 l51 =
 K (.val (.bool true)) [bx 50 [(4, some [.val (.int .i64 iq9), .val (.list bq10 lq11), .val (.int .i64 iq12)]), (10, some [.val (.list bq4 lq5), .val (.str sq6), .lst true b50 34 l51])], bx 77 [(9, some [.val vq13, .val vq14])]] := (hold_eq _).trans (by kernel_rfl)

theorem routing_search_walk_2_L1_succ (lb : Bool) (inl : Inl) (n k37 : Nat) (K : AV → List (List (Option (List AV))) → Option CV) (bq1 : Bool) (lq2 : List (List CV)) (iq3 : Int) (x2 : CV) (c1 : List CV) (bq4 : Bool) (lq5 : List (List CV)) (iq9 : Int) (bq10 : Bool) (lq11 : List (List CV)) (iq12 : Int) (sq6 : List UInt8) (vq13 : CV) (vq14 : CV) (i21 : Int) (b22 : Bool) (l23 : List (List CV)) :
  routing_search_walk_2_L1 lb inl n (k37 + 1) K bq1 lq2 iq3 x2 c1 bq4 lq5 iq9 bq10 lq11 iq12 sq6 vq13 vq14 i21 b22 l23 =
 bif (decide (i21 < (lq5.length : Int))) then
 (optO (atL lq5 i21) fun c38 =>
 chkO (c38.length == 2) (
 optO (c38[0]?) fun x39 =>
 optO (c38[1]?) fun x40 =>
 optO (CV.asS x39) fun s41 =>
 optO (CV.asS x2) fun s42 =>
 bif (!(s41 == s42)) then
 (routing_search_walk_2_L1 lb inl n k37 K bq1 lq2 iq3 x2 c1 bq4 lq5 iq9 bq10 lq11 iq12 sq6 vq13 vq14 (IntKind.wrap .i64 (i21 + 1)) b22 l23)
 else
 (optO (C lb n F_slices_Contains_string [.list bq1 lq2, x40]) fun r43 =>
 optO (CV.asB r43) fun b44 =>
 bif b44 then
 (routing_search_walk_2_L1 lb inl n k37 K bq1 lq2 iq3 x2 c1 bq4 lq5 iq9 bq10 lq11 iq12 sq6 vq13 vq14 (IntKind.wrap .i64 (i21 + 1)) b22 l23)
 else
 (optO (C lb n F_slices_Clip_string [.list bq1 lq2]) fun r45 =>
 optO (CV.asL r45) fun p46 =>
 chkO (CV.isCell x40) (
 chkO (room (p46.2.length + 1) 16) (
 routing_search_walk_d3 lb inl n (routing_search_walk_2_c2 lb inl n bq1 lq2 iq3 x2 c1 bq4 lq5 i21 c38 x39 x40 p46 iq9 bq10 lq11 iq12 sq6 b22 l23 vq13 vq14 K k37) (p46.1 && false) (p46.2 ++ [[x40]]) (IntKind.wrap .i64 (iq3 - 1)) bq4 lq5 sq6 b22 l23 iq9 bq10 lq11 iq12 vq13 vq14 x39 x40))))))
 else
 (routing_search_walk_2_J3 lb inl n K bq1 lq2 iq3 x2 c1 iq9 bq10 lq11 iq12 bq4 lq5 sq6 vq13 vq14 b22 l23) := (hold_eq _).trans (by kernel_rfl)

theorem routing_search_walk_2_L1_zero (lb : Bool) (inl : Inl) (n : Nat) (K : AV → List (List (Option (List AV))) → Option CV) (bq1 : Bool) (lq2 : List (List CV)) (iq3 : Int) (x2 : CV) (c1 : List CV) (bq4 : Bool) (lq5 : List (List CV)) (iq9 : Int) (bq10 : Bool) (lq11 : List (List CV)) (iq12 : Int) (sq6 : List UInt8) (vq13 : CV) (vq14 : CV) (i21 : Int) (b22 : Bool) (l23 : List (List CV)) :
  routing_search_walk_2_L1 lb inl n 0 K bq1 lq2 iq3 x2 c1 bq4 lq5 iq9 bq10 lq11 iq12 sq6 vq13 vq14 i21 b22 l23 =
 none := (hold_eq _).trans (by kernel_rfl)

theorem routing_search_walk_d2_eq (lb : Bool) (n : Nat) (K : AV → List (List (Option (List AV))) → Option CV) (bq1 : Bool) (lq2 : List (List CV)) (iq3 : Int) (bq4 : Bool) (lq5 : List (List CV)) (sq6 : List UInt8) (bq7 : Bool) (lq8 : List (List CV)) (iq9 : Int) (bq10 : Bool) (lq11 : List (List CV)) (iq12 : Int) (vq13 : CV) (vq14 : CV) :
  routing_search_walk_d2 lb (I8 lb n) n K bq1 lq2 iq3 bq4 lq5 sq6 bq7 lq8 iq9 bq10 lq11 iq12 vq13 vq14 =
 optO (atL lq2 (IntKind.wrap .i64 ((lq2.length : Int) - 1))) fun c1 =>
 chkO (c1.length == 1) (
 optO (c1[0]?) fun x2 =>
 bif (iq3 == 0) then
 (optO (CV.asS x2) fun s3 =>
 bif (s3 == sq6) then
 (chkO (room (lq8.length + 1) 24) (
 K (.val (.bool (decide (((lq8 ++ [[CV.list bq1 lq2]]).length : Int) ≤ 1024)))) [bx 50 [(4, some [.val (.int .i64 iq9), .val (.list bq10 lq11), .val (.int .i64 iq12)]), (10, some [.val (.list bq4 lq5), .val (.str sq6), .lst true (bq7 && false) 34 (lq8 ++ [[CV.list bq1 lq2]])])], bx 77 [(9, some [.val vq13, .val vq14])]]))
 else
 (K (.val (.bool (decide ((lq8.length : Int) ≤ 1024)))) [bx 50 [(4, some [.val (.int .i64 iq9), .val (.list bq10 lq11), .val (.int .i64 iq12)]), (10, some [.val (.list bq4 lq5), .val (.str sq6), .lst true bq7 34 lq8])], bx 77 [(9, some [.val vq13, .val vq14])]]))
 else
 (optO (CV.asS x2) fun s4 =>
 bif (s4 == sq6) then
 (K (.val (.bool true)) [bx 50 [(4, some [.val (.int .i64 iq9), .val (.list bq10 lq11), .val (.int .i64 iq12)]), (10, some [.val (.list bq4 lq5), .val (.str sq6), .lst true bq7 34 lq8])], bx 77 [(9, some [.val vq13, .val vq14])]])
 else
 (routing_search_walk_2_L1 lb (I7 lb n) n n K bq1 lq2 iq3 x2 c1 bq4 lq5 iq9 bq10 lq11 iq12 sq6 vq13 vq14 0 bq7 lq8))) := by kernel_rfl

/-! (*airline/routing.search).walk, at depth 3 -/
noncomputable def routing_search_walk_3_L1 (lb : Bool) (inl : Inl) (n : Nat) (k37 : Nat) (K : AV → List (List (Option (List AV))) → Option CV) (bq1 : Bool) (lq2 : List (List CV)) (iq3 : Int) (x2 : CV) (c1 : List CV) (bq4 : Bool) (lq5 : List (List CV)) (iq9 : Int) (bq10 : Bool) (lq11 : List (List CV)) (iq12 : Int) (sq6 : List UInt8) (vq13 : CV) (vq14 : CV) (vq15 : CV) (vq16 : CV) (i21 : Int) (b22 : Bool) (l23 : List (List CV)) : Option CV :=
  hold (loopC (evN Tryd.prog (C lb n) inl n 3 992) 3 (loopTemps (sub (B F_routing_search_walk) [1, 1, 1, 1, 0, 1, 0, 0]) ++ []) [9] (sub (B F_routing_search_walk) [1, 1, 1, 1, 0, 1, 0, 0]) (blockK 0 (seqK (evN Tryd.prog (C lb n) inl n 3 995) (sub (B F_routing_search_walk) [1, 1, 1, 1, 0]) (sub (B F_routing_search_walk) [1, 1, 1, 1, 1]) (retK Tryd.prog (R F_routing_search_walk) 3 K))) k37 ⟨fr 77 [(0, .ptr 0 10 0), (1, .val (.list bq1 lq2)), (2, .val (.int .i64 iq3)), (6, .val (.bool false)), (7, .val x2), (10, .val (.list bq1 lq2)), (11, .val (.list bq1 lq2)), (12, .val (.int .i64 (lq2.length : Int))), (13, .val (.int .i64 (IntKind.wrap .i64 ((lq2.length : Int) - 1)))), (14, .cptr c1 0), (15, .val x2), (46, .ptr 0 10 0), (47, .ptr 0 10 0), (48, .ptr 0 10 0), (49, .val (.list bq4 lq5)), (50, .val (.int .i64 (lq5.length : Int))), (51, .val (.int .i64 i21))], [bx 50 [(4, some [.val (.int .i64 iq9), .val (.list bq10 lq11), .val (.int .i64 iq12)]), (10, some [.val (.list bq4 lq5), .val (.str sq6), .lst true b22 34 l23])], bx 77 [(9, some [.val vq13, .val vq14])], bx 77 [(9, some [.val vq15, .val vq16])], bx 77 []], KK⟩)

noncomputable def routing_search_walk_d4 (lb : Bool) (inl : Inl) (n : Nat) (K : AV → List (List (Option (List AV))) → Option CV) (bq1 : Bool) (lq2 : List (List CV)) (iq3 : Int) (bq4 : Bool) (lq5 : List (List CV)) (sq6 : List UInt8) (bq7 : Bool) (lq8 : List (List CV)) (iq9 : Int) (bq10 : Bool) (lq11 : List (List CV)) (iq12 : Int) (vq13 : CV) (vq14 : CV) (vq15 : CV) (vq16 : CV) (vq17 : CV) (vq18 : CV) : Option CV :=
  inl F_routing_search_walk [.ptr 0 10 0, .val (.list bq1 lq2), .val (.int .i64 iq3)] [bx 50 [(4, some [.val (.int .i64 iq9), .val (.list bq10 lq11), .val (.int .i64 iq12)]), (10, some [.val (.list bq4 lq5), .val (.str sq6), .lst true bq7 34 lq8])], bx 77 [(9, some [.val vq13, .val vq14])], bx 77 [(9, some [.val vq15, .val vq16])], bx 77 [(9, some [.val vq17, .val vq18])]] K

noncomputable def routing_search_walk_3_c2 (lb : Bool) (inl : Inl) (n : Nat) (bq1 : Bool) (lq2 : List (List CV)) (iq3 : Int) (x2 : CV) (c1 : List CV) (bq4 : Bool) (lq5 : List (List CV)) (i21 : Int) (c38 : List CV) (x39 : CV) (x40 : CV) (p46 : Bool × List (List CV)) (iq9 : Int) (bq10 : Bool) (lq11 : List (List CV)) (iq12 : Int) (sq6 : List UInt8) (b22 : Bool) (l23 : List (List CV)) (vq13 : CV) (vq14 : CV) (vq15 : CV) (vq16 : CV) (K : AV → List (List (Option (List AV))) → Option CV) (k37 : Nat) : AV → List (List (Option (List AV))) → Option CV :=
  (inlK (opAt (opsOf (sub (B F_routing_search_walk) [1, 1, 1, 1, 0, 1, 0, 0, 1, 1, 0, 0, 1, 1, 0])) 9) ⟨fr 77 [(0, .ptr 0 10 0), (1, .val (.list bq1 lq2)), (2, .val (.int .i64 iq3)), (6, .val (.bool false)), (7, .val x2), (9, .ptr 3 9 0), (10, .val (.list bq1 lq2)), (11, .val (.list bq1 lq2)), (12, .val (.int .i64 (lq2.length : Int))), (13, .val (.int .i64 (IntKind.wrap .i64 ((lq2.length : Int) - 1)))), (14, .cptr c1 0), (15, .val x2), (46, .ptr 0 10 0), (47, .ptr 0 10 0), (48, .ptr 0 10 0), (49, .val (.list bq4 lq5)), (50, .val (.int .i64 (lq5.length : Int))), (51, .val (.int .i64 i21)), (52, .val (.bool (decide (i21 < (lq5.length : Int))))), (53, .cptr c38 0), (54, .val (.agg [x39, x40])), (65, .ptr 0 10 0), (66, .val (.list bq1 lq2)), (67, .lst false p46.1 9 p46.2), (68, .ptr 3 9 1), (69, .val x40), (70, .lst true false 9 [[x40]]), (71, .val (.list (p46.1 && false) (p46.2 ++ [[x40]]))), (72, .val (.int .i64 iq3)), (73, .val (.int .i64 (IntKind.wrap .i64 (iq3 - 1))))], [bx 50 [(4, some [.val (.int .i64 iq9), .val (.list bq10 lq11), .val (.int .i64 iq12)]), (10, some [.val (.list bq4 lq5), .val (.str sq6), .lst true b22 34 l23])], bx 77 [(9, some [.val vq13, .val vq14])], bx 77 [(9, some [.val vq15, .val vq16])], bx 77 [(9, some [.val x39, .val x40])]], KK⟩ (opsDrawK Tryd.prog (C lb n) inl 3 (Region.before (opsOf (sub (B F_routing_search_walk) [1, 1, 1, 1, 0, 1, 0, 0, 1, 1, 0, 0, 1, 1, 0])).toArray).toList (opsOf (sub (B F_routing_search_walk) [1, 1, 1, 1, 0, 1, 0, 0, 1, 1, 0, 0, 1, 1, 0])) ((opsOf (sub (B F_routing_search_walk) [1, 1, 1, 1, 0, 1, 0, 0, 1, 1, 0, 0, 1, 1, 0])).drop 10) 10 [] ((seqK (evN Tryd.prog (C lb n) inl n 3 985) (sub (B F_routing_search_walk) [1, 1, 1, 1, 0, 1, 0, 0, 1, 1, 0, 0, 1, 1, 0]) (sub (B F_routing_search_walk) [1, 1, 1, 1, 0, 1, 0, 0, 1, 1, 0, 0, 1, 1, 1]) (blockK 1 (seqK (evN Tryd.prog (C lb n) inl n 3 989) (sub (B F_routing_search_walk) [1, 1, 1, 1, 0, 1, 0, 0, 1, 1, 0]) (sub (B F_routing_search_walk) [1, 1, 1, 1, 0, 1, 0, 0, 1, 1, 1]) (loopK 3 (loopTemps (sub (B F_routing_search_walk) [1, 1, 1, 1, 0, 1, 0, 0]) ++ []) [9] (loopC (evN Tryd.prog (C lb n) inl n 3 992) 3 (loopTemps (sub (B F_routing_search_walk) [1, 1, 1, 1, 0, 1, 0, 0]) ++ []) [9] (sub (B F_routing_search_walk) [1, 1, 1, 1, 0, 1, 0, 0]) (blockK 0 (seqK (evN Tryd.prog (C lb n) inl n 3 995) (sub (B F_routing_search_walk) [1, 1, 1, 1, 0]) (sub (B F_routing_search_walk) [1, 1, 1, 1, 1]) (retK Tryd.prog (R F_routing_search_walk) 3 K))) k37) (blockK 0 (seqK (evN Tryd.prog (C lb n) inl n 3 995) (sub (B F_routing_search_walk) [1, 1, 1, 1, 0]) (sub (B F_routing_search_walk) [1, 1, 1, 1, 1]) (retK Tryd.prog (R F_routing_search_walk) 3 K))))))) .normal)))

theorem routing_search_walk_3_c2_eq (lb : Bool) (inl : Inl) (n : Nat) (bq1 : Bool) (lq2 : List (List CV)) (iq3 : Int) (x2 : CV) (c1 : List CV) (bq4 : Bool) (lq5 : List (List CV)) (i21 : Int) (c38 : List CV) (x39 : CV) (x40 : CV) (p46 : Bool × List (List CV)) (iq9 : Int) (bq10 : Bool) (lq11 : List (List CV)) (iq12 : Int) (sq6 : List UInt8) (b22 : Bool) (l23 : List (List CV)) (vq13 : CV) (vq14 : CV) (vq15 : CV) (vq16 : CV) (K : AV → List (List (Option (List AV))) → Option CV) (k37 : Nat) (b47 : Bool) (l48 : List (List CV)) (b49 : Bool) :
  routing_search_walk_3_c2 lb inl n bq1 lq2 iq3 x2 c1 bq4 lq5 i21 c38 x39 x40 p46 iq9 bq10 lq11 iq12 sq6 b22 l23 vq13 vq14 vq15 vq16 K k37 (.val (.bool b49)) [bx 50 [(4, some [.val (.int .i64 iq9), .val (.list bq10 lq11), .val (.int .i64 iq12)]), (10, some [.val (.list bq4 lq5), .val (.str sq6), .lst true b47 34 l48])], bx 77 [(9, some [.val vq13, .val vq14])], bx 77 [(9, some [.val vq15, .val vq16])], bx 77 [(9, some [.val x39, .val x40])]] =
 bif (!b49) then
 (K (.val (.bool false)) [bx 50 [(4, some [.val (.int .i64 iq9), .val (.list bq10 lq11), .val (.int .i64 iq12)]), (10, some [.val (.list bq4 lq5), .val (.str sq6), .lst true b47 34 l48])], bx 77 [(9, some [.val vq13, .val vq14])], bx 77 [(9, some [.val vq15, .val vq16])]])
 else
 (routing_search_walk_3_L1 lb inl n k37 K bq1 lq2 iq3 x2 c1 bq4 lq5 iq9 bq10 lq11 iq12 sq6 vq13 vq14 vq15 vq16 (IntKind.wrap .i64 (i21 + 1)) b47 l48) := by kernel_rfl

noncomputable def routing_search_walk_3_J3 (lb : Bool) (inl : Inl) (n : Nat) (K : AV → List (List (Option (List AV))) → Option CV) (bq1 : Bool) (lq2 : List (List CV)) (iq3 : Int) (x2 : CV) (c1 : List CV) (iq9 : Int) (bq10 : Bool) (lq11 : List (List CV)) (iq12 : Int) (bq4 : Bool) (lq5 : List (List CV)) (sq6 : List UInt8) (vq13 : CV) (vq14 : CV) (vq15 : CV) (vq16 : CV) (b50 : Bool) (l51 : List (List CV)) : Option CV :=
  hold (evN Tryd.prog (C lb n) inl n 3 995 (sub (B F_routing_search_walk) [1, 1, 1, 1, 1]) (retK Tryd.prog (R F_routing_search_walk) 3 K) ⟨fr 77 [(0, .ptr 0 10 0), (1, .val (.list bq1 lq2)), (2, .val (.int .i64 iq3)), (6, .val (.bool false)), (7, .val x2), (10, .val (.list bq1 lq2)), (11, .val (.list bq1 lq2)), (12, .val (.int .i64 (lq2.length : Int))), (13, .val (.int .i64 (IntKind.wrap .i64 ((lq2.length : Int) - 1)))), (14, .cptr c1 0), (15, .val x2)], [bx 50 [(4, some [.val (.int .i64 iq9), .val (.list bq10 lq11), .val (.int .i64 iq12)]), (10, some [.val (.list bq4 lq5), .val (.str sq6), .lst true b50 34 l51])], bx 77 [(9, some [.val vq13, .val vq14])], bx 77 [(9, some [.val vq15, .val vq16])], bx 77 []], KK⟩)

theorem routing_search_walk_3_J3_eq (lb : Bool) (inl : Inl) (n : Nat) (K : AV → List (List (Option (List AV))) → Option CV) (bq1 : Bool) (lq2 : List (List CV)) (iq3 : Int) (x2 : CV) (c1 : List CV) (iq9 : Int) (bq10 : Bool) (lq11 : List (List CV)) (iq12 : Int) (bq4 : Bool) (lq5 : List (List CV)) (sq6 : List UInt8) (vq13 : CV) (vq14 : CV) (vq15 : CV) (vq16 : CV) (b50 : Bool) (l51 : List (List CV)) :
  routing_search_walk_3_J3 lb inl n K bq1 lq2 iq3 x2 c1 iq9 bq10 lq11 iq12 bq4 lq5 sq6 vq13 vq14 vq15 vq16 b50 l51 =
 K (.val (.bool true)) [bx 50 [(4, some [.val (.int .i64 iq9), .val (.list bq10 lq11), .val (.int .i64 iq12)]), (10, some [.val (.list bq4 lq5), .val (.str sq6), .lst true b50 34 l51])], bx 77 [(9, some [.val vq13, .val vq14])], bx 77 [(9, some [.val vq15, .val vq16])]] := (hold_eq _).trans (by kernel_rfl)

theorem routing_search_walk_3_L1_succ (lb : Bool) (inl : Inl) (n k37 : Nat) (K : AV → List (List (Option (List AV))) → Option CV) (bq1 : Bool) (lq2 : List (List CV)) (iq3 : Int) (x2 : CV) (c1 : List CV) (bq4 : Bool) (lq5 : List (List CV)) (iq9 : Int) (bq10 : Bool) (lq11 : List (List CV)) (iq12 : Int) (sq6 : List UInt8) (vq13 : CV) (vq14 : CV) (vq15 : CV) (vq16 : CV) (i21 : Int) (b22 : Bool) (l23 : List (List CV)) :
  routing_search_walk_3_L1 lb inl n (k37 + 1) K bq1 lq2 iq3 x2 c1 bq4 lq5 iq9 bq10 lq11 iq12 sq6 vq13 vq14 vq15 vq16 i21 b22 l23 =
 bif (decide (i21 < (lq5.length : Int))) then
 (optO (atL lq5 i21) fun c38 =>
 chkO (c38.length == 2) (
 optO (c38[0]?) fun x39 =>
 optO (c38[1]?) fun x40 =>
 optO (CV.asS x39) fun s41 =>
 optO (CV.asS x2) fun s42 =>
 bif (!(s41 == s42)) then
 (routing_search_walk_3_L1 lb inl n k37 K bq1 lq2 iq3 x2 c1 bq4 lq5 iq9 bq10 lq11 iq12 sq6 vq13 vq14 vq15 vq16 (IntKind.wrap .i64 (i21 + 1)) b22 l23)
 else
 (optO (C lb n F_slices_Contains_string [.list bq1 lq2, x40]) fun r43 =>
 optO (CV.asB r43) fun b44 =>
 bif b44 then
 (routing_search_walk_3_L1 lb inl n k37 K bq1 lq2 iq3 x2 c1 bq4 lq5 iq9 bq10 lq11 iq12 sq6 vq13 vq14 vq15 vq16 (IntKind.wrap .i64 (i21 + 1)) b22 l23)
 else
 (optO (C lb n F_slices_Clip_string [.list bq1 lq2]) fun r45 =>
 optO (CV.asL r45) fun p46 =>
 chkO (CV.isCell x40) (
 chkO (room (p46.2.length + 1) 16) (
 routing_search_walk_d4 lb inl n (routing_search_walk_3_c2 lb inl n bq1 lq2 iq3 x2 c1 bq4 lq5 i21 c38 x39 x40 p46 iq9 bq10 lq11 iq12 sq6 b22 l23 vq13 vq14 vq15 vq16 K k37) (p46.1 && false) (p46.2 ++ [[x40]]) (IntKind.wrap .i64 (iq3 - 1)) bq4 lq5 sq6 b22 l23 iq9 bq10 lq11 iq12 vq13 vq14 vq15 vq16 x39 x40))))))
 else
 (routing_search_walk_3_J3 lb inl n K bq1 lq2 iq3 x2 c1 iq9 bq10 lq11 iq12 bq4 lq5 sq6 vq13 vq14 vq15 vq16 b22 l23) := (hold_eq _).trans (by kernel_rfl)

theorem routing_search_walk_3_L1_zero (lb : Bool) (inl : Inl) (n : Nat) (K : AV → List (List (Option (List AV))) → Option CV) (bq1 : Bool) (lq2 : List (List CV)) (iq3 : Int) (x2 : CV) (c1 : List CV) (bq4 : Bool) (lq5 : List (List CV)) (iq9 : Int) (bq10 : Bool) (lq11 : List (List CV)) (iq12 : Int) (sq6 : List UInt8) (vq13 : CV) (vq14 : CV) (vq15 : CV) (vq16 : CV) (i21 : Int) (b22 : Bool) (l23 : List (List CV)) :
  routing_search_walk_3_L1 lb inl n 0 K bq1 lq2 iq3 x2 c1 bq4 lq5 iq9 bq10 lq11 iq12 sq6 vq13 vq14 vq15 vq16 i21 b22 l23 =
 none := (hold_eq _).trans (by kernel_rfl)

theorem routing_search_walk_d3_eq (lb : Bool) (n : Nat) (K : AV → List (List (Option (List AV))) → Option CV) (bq1 : Bool) (lq2 : List (List CV)) (iq3 : Int) (bq4 : Bool) (lq5 : List (List CV)) (sq6 : List UInt8) (bq7 : Bool) (lq8 : List (List CV)) (iq9 : Int) (bq10 : Bool) (lq11 : List (List CV)) (iq12 : Int) (vq13 : CV) (vq14 : CV) (vq15 : CV) (vq16 : CV) :
  routing_search_walk_d3 lb (I7 lb n) n K bq1 lq2 iq3 bq4 lq5 sq6 bq7 lq8 iq9 bq10 lq11 iq12 vq13 vq14 vq15 vq16 =
 optO (atL lq2 (IntKind.wrap .i64 ((lq2.length : Int) - 1))) fun c1 =>
 chkO (c1.length == 1) (
 optO (c1[0]?) fun x2 =>
 bif (iq3 == 0) then
 (optO (CV.asS x2) fun s3 =>
 bif (s3 == sq6) then
 (chkO (room (lq8.length + 1) 24) (
 K (.val (.bool (decide (((lq8 ++ [[CV.list bq1 lq2]]).length : Int) ≤ 1024)))) [bx 50 [(4, some [.val (.int .i64 iq9), .val (.list bq10 lq11), .val (.int .i64 iq12)]), (10, some [.val (.list bq4 lq5), .val (.str sq6), .lst true (bq7 && false) 34 (lq8 ++ [[CV.list bq1 lq2]])])], bx 77 [(9, some [.val vq13, .val vq14])], bx 77 [(9, some [.val vq15, .val vq16])]]))
 else
 (K (.val (.bool (decide ((lq8.length : Int) ≤ 1024)))) [bx 50 [(4, some [.val (.int .i64 iq9), .val (.list bq10 lq11), .val (.int .i64 iq12)]), (10, some [.val (.list bq4 lq5), .val (.str sq6), .lst true bq7 34 lq8])], bx 77 [(9, some [.val vq13, .val vq14])], bx 77 [(9, some [.val vq15, .val vq16])]]))
 else
 (optO (CV.asS x2) fun s4 =>
 bif (s4 == sq6) then
 (K (.val (.bool true)) [bx 50 [(4, some [.val (.int .i64 iq9), .val (.list bq10 lq11), .val (.int .i64 iq12)]), (10, some [.val (.list bq4 lq5), .val (.str sq6), .lst true bq7 34 lq8])], bx 77 [(9, some [.val vq13, .val vq14])], bx 77 [(9, some [.val vq15, .val vq16])]])
 else
 (routing_search_walk_3_L1 lb (I6 lb n) n n K bq1 lq2 iq3 x2 c1 bq4 lq5 iq9 bq10 lq11 iq12 sq6 vq13 vq14 vq15 vq16 0 bq7 lq8))) := by kernel_rfl

/-! (*airline/routing.search).walk, at depth 4 -/
noncomputable def routing_search_walk_4_L1 (lb : Bool) (inl : Inl) (n : Nat) (k37 : Nat) (K : AV → List (List (Option (List AV))) → Option CV) (bq1 : Bool) (lq2 : List (List CV)) (iq3 : Int) (x2 : CV) (c1 : List CV) (bq4 : Bool) (lq5 : List (List CV)) (iq9 : Int) (bq10 : Bool) (lq11 : List (List CV)) (iq12 : Int) (sq6 : List UInt8) (vq13 : CV) (vq14 : CV) (vq15 : CV) (vq16 : CV) (vq17 : CV) (vq18 : CV) (i21 : Int) (b22 : Bool) (l23 : List (List CV)) : Option CV :=
  hold (loopC (evN Tryd.prog (C lb n) inl n 4 992) 4 (loopTemps (sub (B F_routing_search_walk) [1, 1, 1, 1, 0, 1, 0, 0]) ++ []) [9] (sub (B F_routing_search_walk) [1, 1, 1, 1, 0, 1, 0, 0]) (blockK 0 (seqK (evN Tryd.prog (C lb n) inl n 4 995) (sub (B F_routing_search_walk) [1, 1, 1, 1, 0]) (sub (B F_routing_search_walk) [1, 1, 1, 1, 1]) (retK Tryd.prog (R F_routing_search_walk) 4 K))) k37 ⟨fr 77 [(0, .ptr 0 10 0), (1, .val (.list bq1 lq2)), (2, .val (.int .i64 iq3)), (6, .val (.bool false)), (7, .val x2), (10, .val (.list bq1 lq2)), (11, .val (.list bq1 lq2)), (12, .val (.int .i64 (lq2.length : Int))), (13, .val (.int .i64 (IntKind.wrap .i64 ((lq2.length : Int) - 1)))), (14, .cptr c1 0), (15, .val x2), (46, .ptr 0 10 0), (47, .ptr 0 10 0), (48, .ptr 0 10 0), (49, .val (.list bq4 lq5)), (50, .val (.int .i64 (lq5.length : Int))), (51, .val (.int .i64 i21))], [bx 50 [(4, some [.val (.int .i64 iq9), .val (.list bq10 lq11), .val (.int .i64 iq12)]), (10, some [.val (.list bq4 lq5), .val (.str sq6), .lst true b22 34 l23])], bx 77 [(9, some [.val vq13, .val vq14])], bx 77 [(9, some [.val vq15, .val vq16])], bx 77 [(9, some [.val vq17, .val vq18])], bx 77 []], KK⟩)

noncomputable def routing_search_walk_d5 (lb : Bool) (inl : Inl) (n : Nat) (K : AV → List (List (Option (List AV))) → Option CV) (bq1 : Bool) (lq2 : List (List CV)) (iq3 : Int) (bq4 : Bool) (lq5 : List (List CV)) (sq6 : List UInt8) (bq7 : Bool) (lq8 : List (List CV)) (iq9 : Int) (bq10 : Bool) (lq11 : List (List CV)) (iq12 : Int) (vq13 : CV) (vq14 : CV) (vq15 : CV) (vq16 : CV) (vq17 : CV) (vq18 : CV) (vq19 : CV) (vq20 : CV) : Option CV :=
  inl F_routing_search_walk [.ptr 0 10 0, .val (.list bq1 lq2), .val (.int .i64 iq3)] [bx 50 [(4, some [.val (.int .i64 iq9), .val (.list bq10 lq11), .val (.int .i64 iq12)]), (10, some [.val (.list bq4 lq5), .val (.str sq6), .lst true bq7 34 lq8])], bx 77 [(9, some [.val vq13, .val vq14])], bx 77 [(9, some [.val vq15, .val vq16])], bx 77 [(9, some [.val vq17, .val vq18])], bx 77 [(9, some [.val vq19, .val vq20])]] K

noncomputable def routing_search_walk_4_c2 (lb : Bool) (inl : Inl) (n : Nat) (bq1 : Bool) (lq2 : List (List CV)) (iq3 : Int) (x2 : CV) (c1 : List CV) (bq4 : Bool) (lq5 : List (List CV)) (i21 : Int) (c38 : List CV) (x39 : CV) (x40 : CV) (p46 : Bool × List (List CV)) (iq9 : Int) (bq10 : Bool) (lq11 : List (List CV)) (iq12 : Int) (sq6 : List UInt8) (b22 : Bool) (l23 : List (List CV)) (vq13 : CV) (vq14 : CV) (vq15 : CV) (vq16 : CV) (vq17 : CV) (vq18 : CV) (K : AV → List (List (Option (List AV))) → Option CV) (k37 : Nat) : AV → List (List (Option (List AV))) → Option CV :=
  (inlK (opAt (opsOf (sub (B F_routing_search_walk) [1, 1, 1, 1, 0, 1, 0, 0, 1, 1, 0, 0, 1, 1, 0])) 9) ⟨fr 77 [(0, .ptr 0 10 0), (1, .val (.list bq1 lq2)), (2, .val (.int .i64 iq3)), (6, .val (.bool false)), (7, .val x2), (9, .ptr 4 9 0), (10, .val (.list bq1 lq2)), (11, .val (.list bq1 lq2)), (12, .val (.int .i64 (lq2.length : Int))), (13, .val (.int .i64 (IntKind.wrap .i64 ((lq2.length : Int) - 1)))), (14, .cptr c1 0), (15, .val x2), (46, .ptr 0 10 0), (47, .ptr 0 10 0), (48, .ptr 0 10 0), (49, .val (.list bq4 lq5)), (50, .val (.int .i64 (lq5.length : Int))), (51, .val (.int .i64 i21)), (52, .val (.bool (decide (i21 < (lq5.length : Int))))), (53, .cptr c38 0), (54, .val (.agg [x39, x40])), (65, .ptr 0 10 0), (66, .val (.list bq1 lq2)), (67, .lst false p46.1 9 p46.2), (68, .ptr 4 9 1), (69, .val x40), (70, .lst true false 9 [[x40]]), (71, .val (.list (p46.1 && false) (p46.2 ++ [[x40]]))), (72, .val (.int .i64 iq3)), (73, .val (.int .i64 (IntKind.wrap .i64 (iq3 - 1))))], [bx 50 [(4, some [.val (.int .i64 iq9), .val (.list bq10 lq11), .val (.int .i64 iq12)]), (10, some [.val (.list bq4 lq5), .val (.str sq6), .lst true b22 34 l23])], bx 77 [(9, some [.val vq13, .val vq14])], bx 77 [(9, some [.val vq15, .val vq16])], bx 77 [(9, some [.val vq17, .val vq18])], bx 77 [(9, some [.val x39, .val x40])]], KK⟩ (opsDrawK Tryd.prog (C lb n) inl 4 (Region.before (opsOf (sub (B F_routing_search_walk) [1, 1, 1, 1, 0, 1, 0, 0, 1, 1, 0, 0, 1, 1, 0])).toArray).toList (opsOf (sub (B F_routing_search_walk) [1, 1, 1, 1, 0, 1, 0, 0, 1, 1, 0, 0, 1, 1, 0])) ((opsOf (sub (B F_routing_search_walk) [1, 1, 1, 1, 0, 1, 0, 0, 1, 1, 0, 0, 1, 1, 0])).drop 10) 10 [] ((seqK (evN Tryd.prog (C lb n) inl n 4 985) (sub (B F_routing_search_walk) [1, 1, 1, 1, 0, 1, 0, 0, 1, 1, 0, 0, 1, 1, 0]) (sub (B F_routing_search_walk) [1, 1, 1, 1, 0, 1, 0, 0, 1, 1, 0, 0, 1, 1, 1]) (blockK 1 (seqK (evN Tryd.prog (C lb n) inl n 4 989) (sub (B F_routing_search_walk) [1, 1, 1, 1, 0, 1, 0, 0, 1, 1, 0]) (sub (B F_routing_search_walk) [1, 1, 1, 1, 0, 1, 0, 0, 1, 1, 1]) (loopK 4 (loopTemps (sub (B F_routing_search_walk) [1, 1, 1, 1, 0, 1, 0, 0]) ++ []) [9] (loopC (evN Tryd.prog (C lb n) inl n 4 992) 4 (loopTemps (sub (B F_routing_search_walk) [1, 1, 1, 1, 0, 1, 0, 0]) ++ []) [9] (sub (B F_routing_search_walk) [1, 1, 1, 1, 0, 1, 0, 0]) (blockK 0 (seqK (evN Tryd.prog (C lb n) inl n 4 995) (sub (B F_routing_search_walk) [1, 1, 1, 1, 0]) (sub (B F_routing_search_walk) [1, 1, 1, 1, 1]) (retK Tryd.prog (R F_routing_search_walk) 4 K))) k37) (blockK 0 (seqK (evN Tryd.prog (C lb n) inl n 4 995) (sub (B F_routing_search_walk) [1, 1, 1, 1, 0]) (sub (B F_routing_search_walk) [1, 1, 1, 1, 1]) (retK Tryd.prog (R F_routing_search_walk) 4 K))))))) .normal)))

theorem routing_search_walk_4_c2_eq (lb : Bool) (inl : Inl) (n : Nat) (bq1 : Bool) (lq2 : List (List CV)) (iq3 : Int) (x2 : CV) (c1 : List CV) (bq4 : Bool) (lq5 : List (List CV)) (i21 : Int) (c38 : List CV) (x39 : CV) (x40 : CV) (p46 : Bool × List (List CV)) (iq9 : Int) (bq10 : Bool) (lq11 : List (List CV)) (iq12 : Int) (sq6 : List UInt8) (b22 : Bool) (l23 : List (List CV)) (vq13 : CV) (vq14 : CV) (vq15 : CV) (vq16 : CV) (vq17 : CV) (vq18 : CV) (K : AV → List (List (Option (List AV))) → Option CV) (k37 : Nat) (b47 : Bool) (l48 : List (List CV)) (b49 : Bool) :
  routing_search_walk_4_c2 lb inl n bq1 lq2 iq3 x2 c1 bq4 lq5 i21 c38 x39 x40 p46 iq9 bq10 lq11 iq12 sq6 b22 l23 vq13 vq14 vq15 vq16 vq17 vq18 K k37 (.val (.bool b49)) [bx 50 [(4, some [.val (.int .i64 iq9), .val (.list bq10 lq11), .val (.int .i64 iq12)]), (10, some [.val (.list bq4 lq5), .val (.str sq6), .lst true b47 34 l48])], bx 77 [(9, some [.val vq13, .val vq14])], bx 77 [(9, some [.val vq15, .val vq16])], bx 77 [(9, some [.val vq17, .val vq18])], bx 77 [(9, some [.val x39, .val x40])]] =
 bif (!b49) then
 (K (.val (.bool false)) [bx 50 [(4, some [.val (.int .i64 iq9), .val (.list bq10 lq11), .val (.int .i64 iq12)]), (10, some [.val (.list bq4 lq5), .val (.str sq6), .lst true b47 34 l48])], bx 77 [(9, some [.val vq13, .val vq14])], bx 77 [(9, some [.val vq15, .val vq16])], bx 77 [(9, some [.val vq17, .val vq18])]])
 else
 (routing_search_walk_4_L1 lb inl n k37 K bq1 lq2 iq3 x2 c1 bq4 lq5 iq9 bq10 lq11 iq12 sq6 vq13 vq14 vq15 vq16 vq17 vq18 (IntKind.wrap .i64 (i21 + 1)) b47 l48) := by kernel_rfl

noncomputable def routing_search_walk_4_J3 (lb : Bool) (inl : Inl) (n : Nat) (K : AV → List (List (Option (List AV))) → Option CV) (bq1 : Bool) (lq2 : List (List CV)) (iq3 : Int) (x2 : CV) (c1 : List CV) (iq9 : Int) (bq10 : Bool) (lq11 : List (List CV)) (iq12 : Int) (bq4 : Bool) (lq5 : List (List CV)) (sq6 : List UInt8) (vq13 : CV) (vq14 : CV) (vq15 : CV) (vq16 : CV) (vq17 : CV) (vq18 : CV) (b50 : Bool) (l51 : List (List CV)) : Option CV :=
  hold (evN Tryd.prog (C lb n) inl n 4 995 (sub (B F_routing_search_walk) [1, 1, 1, 1, 1]) (retK Tryd.prog (R F_routing_search_walk) 4 K) ⟨fr 77 [(0, .ptr 0 10 0), (1, .val (.list bq1 lq2)), (2, .val (.int .i64 iq3)), (6, .val (.bool false)), (7, .val x2), (10, .val (.list bq1 lq2)), (11, .val (.list bq1 lq2)), (12, .val (.int .i64 (lq2.length : Int))), (13, .val (.int .i64 (IntKind.wrap .i64 ((lq2.length : Int) - 1)))), (14, .cptr c1 0), (15, .val x2)], [bx 50 [(4, some [.val (.int .i64 iq9), .val (.list bq10 lq11), .val (.int .i64 iq12)]), (10, some [.val (.list bq4 lq5), .val (.str sq6), .lst true b50 34 l51])], bx 77 [(9, some [.val vq13, .val vq14])], bx 77 [(9, some [.val vq15, .val vq16])], bx 77 [(9, some [.val vq17, .val vq18])], bx 77 []], KK⟩)

theorem routing_search_walk_4_J3_eq (lb : Bool) (inl : Inl) (n : Nat) (K : AV → List (List (Option (List AV))) → Option CV) (bq1 : Bool) (lq2 : List (List CV)) (iq3 : Int) (x2 : CV) (c1 : List CV) (iq9 : Int) (bq10 : Bool) (lq11 : List (List CV)) (iq12 : Int) (bq4 : Bool) (lq5 : List (List CV)) (sq6 : List UInt8) (vq13 : CV) (vq14 : CV) (vq15 : CV) (vq16 : CV) (vq17 : CV) (vq18 : CV) (b50 : Bool) (l51 : List (List CV)) :
  routing_search_walk_4_J3 lb inl n K bq1 lq2 iq3 x2 c1 iq9 bq10 lq11 iq12 bq4 lq5 sq6 vq13 vq14 vq15 vq16 vq17 vq18 b50 l51 =
 K (.val (.bool true)) [bx 50 [(4, some [.val (.int .i64 iq9), .val (.list bq10 lq11), .val (.int .i64 iq12)]), (10, some [.val (.list bq4 lq5), .val (.str sq6), .lst true b50 34 l51])], bx 77 [(9, some [.val vq13, .val vq14])], bx 77 [(9, some [.val vq15, .val vq16])], bx 77 [(9, some [.val vq17, .val vq18])]] := (hold_eq _).trans (by kernel_rfl)

theorem routing_search_walk_4_L1_succ (lb : Bool) (inl : Inl) (n k37 : Nat) (K : AV → List (List (Option (List AV))) → Option CV) (bq1 : Bool) (lq2 : List (List CV)) (iq3 : Int) (x2 : CV) (c1 : List CV) (bq4 : Bool) (lq5 : List (List CV)) (iq9 : Int) (bq10 : Bool) (lq11 : List (List CV)) (iq12 : Int) (sq6 : List UInt8) (vq13 : CV) (vq14 : CV) (vq15 : CV) (vq16 : CV) (vq17 : CV) (vq18 : CV) (i21 : Int) (b22 : Bool) (l23 : List (List CV)) :
  routing_search_walk_4_L1 lb inl n (k37 + 1) K bq1 lq2 iq3 x2 c1 bq4 lq5 iq9 bq10 lq11 iq12 sq6 vq13 vq14 vq15 vq16 vq17 vq18 i21 b22 l23 =
 bif (decide (i21 < (lq5.length : Int))) then
 (optO (atL lq5 i21) fun c38 =>
 chkO (c38.length == 2) (
 optO (c38[0]?) fun x39 =>
 optO (c38[1]?) fun x40 =>
 optO (CV.asS x39) fun s41 =>
 optO (CV.asS x2) fun s42 =>
 bif (!(s41 == s42)) then
 (routing_search_walk_4_L1 lb inl n k37 K bq1 lq2 iq3 x2 c1 bq4 lq5 iq9 bq10 lq11 iq12 sq6 vq13 vq14 vq15 vq16 vq17 vq18 (IntKind.wrap .i64 (i21 + 1)) b22 l23)
 else
 (optO (C lb n F_slices_Contains_string [.list bq1 lq2, x40]) fun r43 =>
 optO (CV.asB r43) fun b44 =>
 bif b44 then
 (routing_search_walk_4_L1 lb inl n k37 K bq1 lq2 iq3 x2 c1 bq4 lq5 iq9 bq10 lq11 iq12 sq6 vq13 vq14 vq15 vq16 vq17 vq18 (IntKind.wrap .i64 (i21 + 1)) b22 l23)
 else
 (optO (C lb n F_slices_Clip_string [.list bq1 lq2]) fun r45 =>
 optO (CV.asL r45) fun p46 =>
 chkO (CV.isCell x40) (
 chkO (room (p46.2.length + 1) 16) (
 routing_search_walk_d5 lb inl n (routing_search_walk_4_c2 lb inl n bq1 lq2 iq3 x2 c1 bq4 lq5 i21 c38 x39 x40 p46 iq9 bq10 lq11 iq12 sq6 b22 l23 vq13 vq14 vq15 vq16 vq17 vq18 K k37) (p46.1 && false) (p46.2 ++ [[x40]]) (IntKind.wrap .i64 (iq3 - 1)) bq4 lq5 sq6 b22 l23 iq9 bq10 lq11 iq12 vq13 vq14 vq15 vq16 vq17 vq18 x39 x40))))))
 else
 (routing_search_walk_4_J3 lb inl n K bq1 lq2 iq3 x2 c1 iq9 bq10 lq11 iq12 bq4 lq5 sq6 vq13 vq14 vq15 vq16 vq17 vq18 b22 l23) := (hold_eq _).trans (by kernel_rfl)

theorem routing_search_walk_4_L1_zero (lb : Bool) (inl : Inl) (n : Nat) (K : AV → List (List (Option (List AV))) → Option CV) (bq1 : Bool) (lq2 : List (List CV)) (iq3 : Int) (x2 : CV) (c1 : List CV) (bq4 : Bool) (lq5 : List (List CV)) (iq9 : Int) (bq10 : Bool) (lq11 : List (List CV)) (iq12 : Int) (sq6 : List UInt8) (vq13 : CV) (vq14 : CV) (vq15 : CV) (vq16 : CV) (vq17 : CV) (vq18 : CV) (i21 : Int) (b22 : Bool) (l23 : List (List CV)) :
  routing_search_walk_4_L1 lb inl n 0 K bq1 lq2 iq3 x2 c1 bq4 lq5 iq9 bq10 lq11 iq12 sq6 vq13 vq14 vq15 vq16 vq17 vq18 i21 b22 l23 =
 none := (hold_eq _).trans (by kernel_rfl)

theorem routing_search_walk_d4_eq (lb : Bool) (n : Nat) (K : AV → List (List (Option (List AV))) → Option CV) (bq1 : Bool) (lq2 : List (List CV)) (iq3 : Int) (bq4 : Bool) (lq5 : List (List CV)) (sq6 : List UInt8) (bq7 : Bool) (lq8 : List (List CV)) (iq9 : Int) (bq10 : Bool) (lq11 : List (List CV)) (iq12 : Int) (vq13 : CV) (vq14 : CV) (vq15 : CV) (vq16 : CV) (vq17 : CV) (vq18 : CV) :
  routing_search_walk_d4 lb (I6 lb n) n K bq1 lq2 iq3 bq4 lq5 sq6 bq7 lq8 iq9 bq10 lq11 iq12 vq13 vq14 vq15 vq16 vq17 vq18 =
 optO (atL lq2 (IntKind.wrap .i64 ((lq2.length : Int) - 1))) fun c1 =>
 chkO (c1.length == 1) (
 optO (c1[0]?) fun x2 =>
 bif (iq3 == 0) then
 (optO (CV.asS x2) fun s3 =>
 bif (s3 == sq6) then
 (chkO (room (lq8.length + 1) 24) (
 K (.val (.bool (decide (((lq8 ++ [[CV.list bq1 lq2]]).length : Int) ≤ 1024)))) [bx 50 [(4, some [.val (.int .i64 iq9), .val (.list bq10 lq11), .val (.int .i64 iq12)]), (10, some [.val (.list bq4 lq5), .val (.str sq6), .lst true (bq7 && false) 34 (lq8 ++ [[CV.list bq1 lq2]])])], bx 77 [(9, some [.val vq13, .val vq14])], bx 77 [(9, some [.val vq15, .val vq16])], bx 77 [(9, some [.val vq17, .val vq18])]]))
 else
 (K (.val (.bool (decide ((lq8.length : Int) ≤ 1024)))) [bx 50 [(4, some [.val (.int .i64 iq9), .val (.list bq10 lq11), .val (.int .i64 iq12)]), (10, some [.val (.list bq4 lq5), .val (.str sq6), .lst true bq7 34 lq8])], bx 77 [(9, some [.val vq13, .val vq14])], bx 77 [(9, some [.val vq15, .val vq16])], bx 77 [(9, some [.val vq17, .val vq18])]]))
 else
 (optO (CV.asS x2) fun s4 =>
 bif (s4 == sq6) then
 (K (.val (.bool true)) [bx 50 [(4, some [.val (.int .i64 iq9), .val (.list bq10 lq11), .val (.int .i64 iq12)]), (10, some [.val (.list bq4 lq5), .val (.str sq6), .lst true bq7 34 lq8])], bx 77 [(9, some [.val vq13, .val vq14])], bx 77 [(9, some [.val vq15, .val vq16])], bx 77 [(9, some [.val vq17, .val vq18])]])
 else
 (routing_search_walk_4_L1 lb (I5 lb n) n n K bq1 lq2 iq3 x2 c1 bq4 lq5 iq9 bq10 lq11 iq12 sq6 vq13 vq14 vq15 vq16 vq17 vq18 0 bq7 lq8))) := by kernel_rfl

/-! (*airline/routing.search).walk, at depth 5 -/
noncomputable def routing_search_walk_5_L1 (lb : Bool) (inl : Inl) (n : Nat) (k37 : Nat) (K : AV → List (List (Option (List AV))) → Option CV) (bq1 : Bool) (lq2 : List (List CV)) (iq3 : Int) (x2 : CV) (c1 : List CV) (bq4 : Bool) (lq5 : List (List CV)) (iq9 : Int) (bq10 : Bool) (lq11 : List (List CV)) (iq12 : Int) (sq6 : List UInt8) (vq13 : CV) (vq14 : CV) (vq15 : CV) (vq16 : CV) (vq17 : CV) (vq18 : CV) (vq19 : CV) (vq20 : CV) (i21 : Int) (b22 : Bool) (l23 : List (List CV)) : Option CV :=
  hold (loopC (evN Tryd.prog (C lb n) inl n 5 992) 5 (loopTemps (sub (B F_routing_search_walk) [1, 1, 1, 1, 0, 1, 0, 0]) ++ []) [9] (sub (B F_routing_search_walk) [1, 1, 1, 1, 0, 1, 0, 0]) (blockK 0 (seqK (evN Tryd.prog (C lb n) inl n 5 995) (sub (B F_routing_search_walk) [1, 1, 1, 1, 0]) (sub (B F_routing_search_walk) [1, 1, 1, 1, 1]) (retK Tryd.prog (R F_routing_search_walk) 5 K))) k37 ⟨fr 77 [(0, .ptr 0 10 0), (1, .val (.list bq1 lq2)), (2, .val (.int .i64 iq3)), (6, .val (.bool false)), (7, .val x2), (10, .val (.list bq1 lq2)), (11, .val (.list bq1 lq2)), (12, .val (.int .i64 (lq2.length : Int))), (13, .val (.int .i64 (IntKind.wrap .i64 ((lq2.length : Int) - 1)))), (14, .cptr c1 0), (15, .val x2), (46, .ptr 0 10 0), (47, .ptr 0 10 0), (48, .ptr 0 10 0), (49, .val (.list bq4 lq5)), (50, .val (.int .i64 (lq5.length : Int))), (51, .val (.int .i64 i21))], [bx 50 [(4, some [.val (.int .i64 iq9), .val (.list bq10 lq11), .val (.int .i64 iq12)]), (10, some [.val (.list bq4 lq5), .val (.str sq6), .lst true b22 34 l23])], bx 77 [(9, some [.val vq13, .val vq14])], bx 77 [(9, some [.val vq15, .val vq16])], bx 77 [(9, some [.val vq17, .val vq18])], bx 77 [(9, some [.val vq19, .val vq20])], bx 77 []], KK⟩)

noncomputable def routing_search_walk_d6 (lb : Bool) (inl : Inl) (n : Nat) (K : AV → List (List (Option (List AV))) → Option CV) (bq1 : Bool) (lq2 : List (List CV)) (iq3 : Int) (bq4 : Bool) (lq5 : List (List CV)) (sq6 : List UInt8) (bq7 : Bool) (lq8 : List (List CV)) (iq9 : Int) (bq10 : Bool) (lq11 : List (List CV)) (iq12 : Int) (vq13 : CV) (vq14 : CV) (vq15 : CV) (vq16 : CV) (vq17 : CV) (vq18 : CV) (vq19 : CV) (vq20 : CV) (vq21 : CV) (vq22 : CV) : Option CV :=
  inl F_routing_search_walk [.ptr 0 10 0, .val (.list bq1 lq2), .val (.int .i64 iq3)] [bx 50 [(4, some [.val (.int .i64 iq9), .val (.list bq10 lq11), .val (.int .i64 iq12)]), (10, some [.val (.list bq4 lq5), .val (.str sq6), .lst true bq7 34 lq8])], bx 77 [(9, some [.val vq13, .val vq14])], bx 77 [(9, some [.val vq15, .val vq16])], bx 77 [(9, some [.val vq17, .val vq18])], bx 77 [(9, some [.val vq19, .val vq20])], bx 77 [(9, some [.val vq21, .val vq22])]] K

noncomputable def routing_search_walk_5_c2 (lb : Bool) (inl : Inl) (n : Nat) (bq1 : Bool) (lq2 : List (List CV)) (iq3 : Int) (x2 : CV) (c1 : List CV) (bq4 : Bool) (lq5 : List (List CV)) (i21 : Int) (c38 : List CV) (x39 : CV) (x40 : CV) (p46 : Bool × List (List CV)) (iq9 : Int) (bq10 : Bool) (lq11 : List (List CV)) (iq12 : Int) (sq6 : List UInt8) (b22 : Bool) (l23 : List (List CV)) (vq13 : CV) (vq14 : CV) (vq15 : CV) (vq16 : CV) (vq17 : CV) (vq18 : CV) (vq19 : CV) (vq20 : CV) (K : AV → List (List (Option (List AV))) → Option CV) (k37 : Nat) : AV → List (List (Option (List AV))) → Option CV :=
  (inlK (opAt (opsOf (sub (B F_routing_search_walk) [1, 1, 1, 1, 0, 1, 0, 0, 1, 1, 0, 0, 1, 1, 0])) 9) ⟨fr 77 [(0, .ptr 0 10 0), (1, .val (.list bq1 lq2)), (2, .val (.int .i64 iq3)), (6, .val (.bool false)), (7, .val x2), (9, .ptr 5 9 0), (10, .val (.list bq1 lq2)), (11, .val (.list bq1 lq2)), (12, .val (.int .i64 (lq2.length : Int))), (13, .val (.int .i64 (IntKind.wrap .i64 ((lq2.length : Int) - 1)))), (14, .cptr c1 0), (15, .val x2), (46, .ptr 0 10 0), (47, .ptr 0 10 0), (48, .ptr 0 10 0), (49, .val (.list bq4 lq5)), (50, .val (.int .i64 (lq5.length : Int))), (51, .val (.int .i64 i21)), (52, .val (.bool (decide (i21 < (lq5.length : Int))))), (53, .cptr c38 0), (54, .val (.agg [x39, x40])), (65, .ptr 0 10 0), (66, .val (.list bq1 lq2)), (67, .lst false p46.1 9 p46.2), (68, .ptr 5 9 1), (69, .val x40), (70, .lst true false 9 [[x40]]), (71, .val (.list (p46.1 && false) (p46.2 ++ [[x40]]))), (72, .val (.int .i64 iq3)), (73, .val (.int .i64 (IntKind.wrap .i64 (iq3 - 1))))], [bx 50 [(4, some [.val (.int .i64 iq9), .val (.list bq10 lq11), .val (.int .i64 iq12)]), (10, some [.val (.list bq4 lq5), .val (.str sq6), .lst true b22 34 l23])], bx 77 [(9, some [.val vq13, .val vq14])], bx 77 [(9, some [.val vq15, .val vq16])], bx 77 [(9, some [.val vq17, .val vq18])], bx 77 [(9, some [.val vq19, .val vq20])], bx 77 [(9, some [.val x39, .val x40])]], KK⟩ (opsDrawK Tryd.prog (C lb n) inl 5 (Region.before (opsOf (sub (B F_routing_search_walk) [1, 1, 1, 1, 0, 1, 0, 0, 1, 1, 0, 0, 1, 1, 0])).toArray).toList (opsOf (sub (B F_routing_search_walk) [1, 1, 1, 1, 0, 1, 0, 0, 1, 1, 0, 0, 1, 1, 0])) ((opsOf (sub (B F_routing_search_walk) [1, 1, 1, 1, 0, 1, 0, 0, 1, 1, 0, 0, 1, 1, 0])).drop 10) 10 [] ((seqK (evN Tryd.prog (C lb n) inl n 5 985) (sub (B F_routing_search_walk) [1, 1, 1, 1, 0, 1, 0, 0, 1, 1, 0, 0, 1, 1, 0]) (sub (B F_routing_search_walk) [1, 1, 1, 1, 0, 1, 0, 0, 1, 1, 0, 0, 1, 1, 1]) (blockK 1 (seqK (evN Tryd.prog (C lb n) inl n 5 989) (sub (B F_routing_search_walk) [1, 1, 1, 1, 0, 1, 0, 0, 1, 1, 0]) (sub (B F_routing_search_walk) [1, 1, 1, 1, 0, 1, 0, 0, 1, 1, 1]) (loopK 5 (loopTemps (sub (B F_routing_search_walk) [1, 1, 1, 1, 0, 1, 0, 0]) ++ []) [9] (loopC (evN Tryd.prog (C lb n) inl n 5 992) 5 (loopTemps (sub (B F_routing_search_walk) [1, 1, 1, 1, 0, 1, 0, 0]) ++ []) [9] (sub (B F_routing_search_walk) [1, 1, 1, 1, 0, 1, 0, 0]) (blockK 0 (seqK (evN Tryd.prog (C lb n) inl n 5 995) (sub (B F_routing_search_walk) [1, 1, 1, 1, 0]) (sub (B F_routing_search_walk) [1, 1, 1, 1, 1]) (retK Tryd.prog (R F_routing_search_walk) 5 K))) k37) (blockK 0 (seqK (evN Tryd.prog (C lb n) inl n 5 995) (sub (B F_routing_search_walk) [1, 1, 1, 1, 0]) (sub (B F_routing_search_walk) [1, 1, 1, 1, 1]) (retK Tryd.prog (R F_routing_search_walk) 5 K))))))) .normal)))

theorem routing_search_walk_5_c2_eq (lb : Bool) (inl : Inl) (n : Nat) (bq1 : Bool) (lq2 : List (List CV)) (iq3 : Int) (x2 : CV) (c1 : List CV) (bq4 : Bool) (lq5 : List (List CV)) (i21 : Int) (c38 : List CV) (x39 : CV) (x40 : CV) (p46 : Bool × List (List CV)) (iq9 : Int) (bq10 : Bool) (lq11 : List (List CV)) (iq12 : Int) (sq6 : List UInt8) (b22 : Bool) (l23 : List (List CV)) (vq13 : CV) (vq14 : CV) (vq15 : CV) (vq16 : CV) (vq17 : CV) (vq18 : CV) (vq19 : CV) (vq20 : CV) (K : AV → List (List (Option (List AV))) → Option CV) (k37 : Nat) (b47 : Bool) (l48 : List (List CV)) (b49 : Bool) :
  routing_search_walk_5_c2 lb inl n bq1 lq2 iq3 x2 c1 bq4 lq5 i21 c38 x39 x40 p46 iq9 bq10 lq11 iq12 sq6 b22 l23 vq13 vq14 vq15 vq16 vq17 vq18 vq19 vq20 K k37 (.val (.bool b49)) [bx 50 [(4, some [.val (.int .i64 iq9), .val (.list bq10 lq11), .val (.int .i64 iq12)]), (10, some [.val (.list bq4 lq5), .val (.str sq6), .lst true b47 34 l48])], bx 77 [(9, some [.val vq13, .val vq14])], bx 77 [(9, some [.val vq15, .val vq16])], bx 77 [(9, some [.val vq17, .val vq18])], bx 77 [(9, some [.val vq19, .val vq20])], bx 77 [(9, some [.val x39, .val x40])]] =
 bif (!b49) then
 (K (.val (.bool false)) [bx 50 [(4, some [.val (.int .i64 iq9), .val (.list bq10 lq11), .val (.int .i64 iq12)]), (10, some [.val (.list bq4 lq5), .val (.str sq6), .lst true b47 34 l48])], bx 77 [(9, some [.val vq13, .val vq14])], bx 77 [(9, some [.val vq15, .val vq16])], bx 77 [(9, some [.val vq17, .val vq18])], bx 77 [(9, some [.val vq19, .val vq20])]])
 else
 (routing_search_walk_5_L1 lb inl n k37 K bq1 lq2 iq3 x2 c1 bq4 lq5 iq9 bq10 lq11 iq12 sq6 vq13 vq14 vq15 vq16 vq17 vq18 vq19 vq20 (IntKind.wrap .i64 (i21 + 1)) b47 l48) := by kernel_rfl

noncomputable def routing_search_walk_5_J3 (lb : Bool) (inl : Inl) (n : Nat) (K : AV → List (List (Option (List AV))) → Option CV) (bq1 : Bool) (lq2 : List (List CV)) (iq3 : Int) (x2 : CV) (c1 : List CV) (iq9 : Int) (bq10 : Bool) (lq11 : List (List CV)) (iq12 : Int) (bq4 : Bool) (lq5 : List (List CV)) (sq6 : List UInt8) (vq13 : CV) (vq14 : CV) (vq15 : CV) (vq16 : CV) (vq17 : CV) (vq18 : CV) (vq19 : CV) (vq20 : CV) (b50 : Bool) (l51 : List (List CV)) : Option CV :=
  hold (evN Tryd.prog (C lb n) inl n 5 995 (sub (B F_routing_search_walk) [1, 1, 1, 1, 1]) (retK Tryd.prog (R F_routing_search_walk) 5 K) ⟨fr 77 [(0, .ptr 0 10 0), (1, .val (.list bq1 lq2)), (2, .val (.int .i64 iq3)), (6, .val (.bool false)), (7, .val x2), (10, .val (.list bq1 lq2)), (11, .val (.list bq1 lq2)), (12, .val (.int .i64 (lq2.length : Int))), (13, .val (.int .i64 (IntKind.wrap .i64 ((lq2.length : Int) - 1)))), (14, .cptr c1 0), (15, .val x2)], [bx 50 [(4, some [.val (.int .i64 iq9), .val (.list bq10 lq11), .val (.int .i64 iq12)]), (10, some [.val (.list bq4 lq5), .val (.str sq6), .lst true b50 34 l51])], bx 77 [(9, some [.val vq13, .val vq14])], bx 77 [(9, some [.val vq15, .val vq16])], bx 77 [(9, some [.val vq17, .val vq18])], bx 77 [(9, some [.val vq19, .val vq20])], bx 77 []], KK⟩)

theorem routing_search_walk_5_J3_eq (lb : Bool) (inl : Inl) (n : Nat) (K : AV → List (List (Option (List AV))) → Option CV) (bq1 : Bool) (lq2 : List (List CV)) (iq3 : Int) (x2 : CV) (c1 : List CV) (iq9 : Int) (bq10 : Bool) (lq11 : List (List CV)) (iq12 : Int) (bq4 : Bool) (lq5 : List (List CV)) (sq6 : List UInt8) (vq13 : CV) (vq14 : CV) (vq15 : CV) (vq16 : CV) (vq17 : CV) (vq18 : CV) (vq19 : CV) (vq20 : CV) (b50 : Bool) (l51 : List (List CV)) :
  routing_search_walk_5_J3 lb inl n K bq1 lq2 iq3 x2 c1 iq9 bq10 lq11 iq12 bq4 lq5 sq6 vq13 vq14 vq15 vq16 vq17 vq18 vq19 vq20 b50 l51 =
 K (.val (.bool true)) [bx 50 [(4, some [.val (.int .i64 iq9), .val (.list bq10 lq11), .val (.int .i64 iq12)]), (10, some [.val (.list bq4 lq5), .val (.str sq6), .lst true b50 34 l51])], bx 77 [(9, some [.val vq13, .val vq14])], bx 77 [(9, some [.val vq15, .val vq16])], bx 77 [(9, some [.val vq17, .val vq18])], bx 77 [(9, some [.val vq19, .val vq20])]] := (hold_eq _).trans (by kernel_rfl)

theorem routing_search_walk_5_L1_succ (lb : Bool) (inl : Inl) (n k37 : Nat) (K : AV → List (List (Option (List AV))) → Option CV) (bq1 : Bool) (lq2 : List (List CV)) (iq3 : Int) (x2 : CV) (c1 : List CV) (bq4 : Bool) (lq5 : List (List CV)) (iq9 : Int) (bq10 : Bool) (lq11 : List (List CV)) (iq12 : Int) (sq6 : List UInt8) (vq13 : CV) (vq14 : CV) (vq15 : CV) (vq16 : CV) (vq17 : CV) (vq18 : CV) (vq19 : CV) (vq20 : CV) (i21 : Int) (b22 : Bool) (l23 : List (List CV)) :
  routing_search_walk_5_L1 lb inl n (k37 + 1) K bq1 lq2 iq3 x2 c1 bq4 lq5 iq9 bq10 lq11 iq12 sq6 vq13 vq14 vq15 vq16 vq17 vq18 vq19 vq20 i21 b22 l23 =
 bif (decide (i21 < (lq5.length : Int))) then
 (optO (atL lq5 i21) fun c38 =>
 chkO (c38.length == 2) (
 optO (c38[0]?) fun x39 =>
 optO (c38[1]?) fun x40 =>
 optO (CV.asS x39) fun s41 =>
 optO (CV.asS x2) fun s42 =>
 bif (!(s41 == s42)) then
 (routing_search_walk_5_L1 lb inl n k37 K bq1 lq2 iq3 x2 c1 bq4 lq5 iq9 bq10 lq11 iq12 sq6 vq13 vq14 vq15 vq16 vq17 vq18 vq19 vq20 (IntKind.wrap .i64 (i21 + 1)) b22 l23)
 else
 (optO (C lb n F_slices_Contains_string [.list bq1 lq2, x40]) fun r43 =>
 optO (CV.asB r43) fun b44 =>
 bif b44 then
 (routing_search_walk_5_L1 lb inl n k37 K bq1 lq2 iq3 x2 c1 bq4 lq5 iq9 bq10 lq11 iq12 sq6 vq13 vq14 vq15 vq16 vq17 vq18 vq19 vq20 (IntKind.wrap .i64 (i21 + 1)) b22 l23)
 else
 (optO (C lb n F_slices_Clip_string [.list bq1 lq2]) fun r45 =>
 optO (CV.asL r45) fun p46 =>
 chkO (CV.isCell x40) (
 chkO (room (p46.2.length + 1) 16) (
 routing_search_walk_d6 lb inl n (routing_search_walk_5_c2 lb inl n bq1 lq2 iq3 x2 c1 bq4 lq5 i21 c38 x39 x40 p46 iq9 bq10 lq11 iq12 sq6 b22 l23 vq13 vq14 vq15 vq16 vq17 vq18 vq19 vq20 K k37) (p46.1 && false) (p46.2 ++ [[x40]]) (IntKind.wrap .i64 (iq3 - 1)) bq4 lq5 sq6 b22 l23 iq9 bq10 lq11 iq12 vq13 vq14 vq15 vq16 vq17 vq18 vq19 vq20 x39 x40))))))
 else
 (routing_search_walk_5_J3 lb inl n K bq1 lq2 iq3 x2 c1 iq9 bq10 lq11 iq12 bq4 lq5 sq6 vq13 vq14 vq15 vq16 vq17 vq18 vq19 vq20 b22 l23) := (hold_eq _).trans (by kernel_rfl)

theorem routing_search_walk_5_L1_zero (lb : Bool) (inl : Inl) (n : Nat) (K : AV → List (List (Option (List AV))) → Option CV) (bq1 : Bool) (lq2 : List (List CV)) (iq3 : Int) (x2 : CV) (c1 : List CV) (bq4 : Bool) (lq5 : List (List CV)) (iq9 : Int) (bq10 : Bool) (lq11 : List (List CV)) (iq12 : Int) (sq6 : List UInt8) (vq13 : CV) (vq14 : CV) (vq15 : CV) (vq16 : CV) (vq17 : CV) (vq18 : CV) (vq19 : CV) (vq20 : CV) (i21 : Int) (b22 : Bool) (l23 : List (List CV)) :
  routing_search_walk_5_L1 lb inl n 0 K bq1 lq2 iq3 x2 c1 bq4 lq5 iq9 bq10 lq11 iq12 sq6 vq13 vq14 vq15 vq16 vq17 vq18 vq19 vq20 i21 b22 l23 =
 none := (hold_eq _).trans (by kernel_rfl)

theorem routing_search_walk_d5_eq (lb : Bool) (n : Nat) (K : AV → List (List (Option (List AV))) → Option CV) (bq1 : Bool) (lq2 : List (List CV)) (iq3 : Int) (bq4 : Bool) (lq5 : List (List CV)) (sq6 : List UInt8) (bq7 : Bool) (lq8 : List (List CV)) (iq9 : Int) (bq10 : Bool) (lq11 : List (List CV)) (iq12 : Int) (vq13 : CV) (vq14 : CV) (vq15 : CV) (vq16 : CV) (vq17 : CV) (vq18 : CV) (vq19 : CV) (vq20 : CV) :
  routing_search_walk_d5 lb (I5 lb n) n K bq1 lq2 iq3 bq4 lq5 sq6 bq7 lq8 iq9 bq10 lq11 iq12 vq13 vq14 vq15 vq16 vq17 vq18 vq19 vq20 =
 optO (atL lq2 (IntKind.wrap .i64 ((lq2.length : Int) - 1))) fun c1 =>
 chkO (c1.length == 1) (
 optO (c1[0]?) fun x2 =>
 bif (iq3 == 0) then
 (optO (CV.asS x2) fun s3 =>
 bif (s3 == sq6) then
 (chkO (room (lq8.length + 1) 24) (
 K (.val (.bool (decide (((lq8 ++ [[CV.list bq1 lq2]]).length : Int) ≤ 1024)))) [bx 50 [(4, some [.val (.int .i64 iq9), .val (.list bq10 lq11), .val (.int .i64 iq12)]), (10, some [.val (.list bq4 lq5), .val (.str sq6), .lst true (bq7 && false) 34 (lq8 ++ [[CV.list bq1 lq2]])])], bx 77 [(9, some [.val vq13, .val vq14])], bx 77 [(9, some [.val vq15, .val vq16])], bx 77 [(9, some [.val vq17, .val vq18])], bx 77 [(9, some [.val vq19, .val vq20])]]))
 else
 (K (.val (.bool (decide ((lq8.length : Int) ≤ 1024)))) [bx 50 [(4, some [.val (.int .i64 iq9), .val (.list bq10 lq11), .val (.int .i64 iq12)]), (10, some [.val (.list bq4 lq5), .val (.str sq6), .lst true bq7 34 lq8])], bx 77 [(9, some [.val vq13, .val vq14])], bx 77 [(9, some [.val vq15, .val vq16])], bx 77 [(9, some [.val vq17, .val vq18])], bx 77 [(9, some [.val vq19, .val vq20])]]))
 else
 (optO (CV.asS x2) fun s4 =>
 bif (s4 == sq6) then
 (K (.val (.bool true)) [bx 50 [(4, some [.val (.int .i64 iq9), .val (.list bq10 lq11), .val (.int .i64 iq12)]), (10, some [.val (.list bq4 lq5), .val (.str sq6), .lst true bq7 34 lq8])], bx 77 [(9, some [.val vq13, .val vq14])], bx 77 [(9, some [.val vq15, .val vq16])], bx 77 [(9, some [.val vq17, .val vq18])], bx 77 [(9, some [.val vq19, .val vq20])]])
 else
 (routing_search_walk_5_L1 lb (I4 lb n) n n K bq1 lq2 iq3 x2 c1 bq4 lq5 iq9 bq10 lq11 iq12 sq6 vq13 vq14 vq15 vq16 vq17 vq18 vq19 vq20 0 bq7 lq8))) := by kernel_rfl

/-! (*airline/routing.search).walk, at depth 6 -/
noncomputable def routing_search_walk_6_L1 (lb : Bool) (inl : Inl) (n : Nat) (k37 : Nat) (K : AV → List (List (Option (List AV))) → Option CV) (bq1 : Bool) (lq2 : List (List CV)) (iq3 : Int) (x2 : CV) (c1 : List CV) (bq4 : Bool) (lq5 : List (List CV)) (iq9 : Int) (bq10 : Bool) (lq11 : List (List CV)) (iq12 : Int) (sq6 : List UInt8) (vq13 : CV) (vq14 : CV) (vq15 : CV) (vq16 : CV) (vq17 : CV) (vq18 : CV) (vq19 : CV) (vq20 : CV) (vq21 : CV) (vq22 : CV) (i21 : Int) (b22 : Bool) (l23 : List (List CV)) : Option CV :=
  hold (loopC (evN Tryd.prog (C lb n) inl n 6 992) 6 (loopTemps (sub (B F_routing_search_walk) [1, 1, 1, 1, 0, 1, 0, 0]) ++ []) [9] (sub (B F_routing_search_walk) [1, 1, 1, 1, 0, 1, 0, 0]) (blockK 0 (seqK (evN Tryd.prog (C lb n) inl n 6 995) (sub (B F_routing_search_walk) [1, 1, 1, 1, 0]) (sub (B F_routing_search_walk) [1, 1, 1, 1, 1]) (retK Tryd.prog (R F_routing_search_walk) 6 K))) k37 ⟨fr 77 [(0, .ptr 0 10 0), (1, .val (.list bq1 lq2)), (2, .val (.int .i64 iq3)), (6, .val (.bool false)), (7, .val x2), (10, .val (.list bq1 lq2)), (11, .val (.list bq1 lq2)), (12, .val (.int .i64 (lq2.length : Int))), (13, .val (.int .i64 (IntKind.wrap .i64 ((lq2.length : Int) - 1)))), (14, .cptr c1 0), (15, .val x2), (46, .ptr 0 10 0), (47, .ptr 0 10 0), (48, .ptr 0 10 0), (49, .val (.list bq4 lq5)), (50, .val (.int .i64 (lq5.length : Int))), (51, .val (.int .i64 i21))], [bx 50 [(4, some [.val (.int .i64 iq9), .val (.list bq10 lq11), .val (.int .i64 iq12)]), (10, some [.val (.list bq4 lq5), .val (.str sq6), .lst true b22 34 l23])], bx 77 [(9, some [.val vq13, .val vq14])], bx 77 [(9, some [.val vq15, .val vq16])], bx 77 [(9, some [.val vq17, .val vq18])], bx 77 [(9, some [.val vq19, .val vq20])], bx 77 [(9, some [.val vq21, .val vq22])], bx 77 []], KK⟩)

noncomputable def routing_search_walk_d7 (lb : Bool) (inl : Inl) (n : Nat) (K : AV → List (List (Option (List AV))) → Option CV) (bq1 : Bool) (lq2 : List (List CV)) (iq3 : Int) (bq4 : Bool) (lq5 : List (List CV)) (sq6 : List UInt8) (bq7 : Bool) (lq8 : List (List CV)) (iq9 : Int) (bq10 : Bool) (lq11 : List (List CV)) (iq12 : Int) (vq13 : CV) (vq14 : CV) (vq15 : CV) (vq16 : CV) (vq17 : CV) (vq18 : CV) (vq19 : CV) (vq20 : CV) (vq21 : CV) (vq22 : CV) (vq23 : CV) (vq24 : CV) : Option CV :=
  inl F_routing_search_walk [.ptr 0 10 0, .val (.list bq1 lq2), .val (.int .i64 iq3)] [bx 50 [(4, some [.val (.int .i64 iq9), .val (.list bq10 lq11), .val (.int .i64 iq12)]), (10, some [.val (.list bq4 lq5), .val (.str sq6), .lst true bq7 34 lq8])], bx 77 [(9, some [.val vq13, .val vq14])], bx 77 [(9, some [.val vq15, .val vq16])], bx 77 [(9, some [.val vq17, .val vq18])], bx 77 [(9, some [.val vq19, .val vq20])], bx 77 [(9, some [.val vq21, .val vq22])], bx 77 [(9, some [.val vq23, .val vq24])]] K

noncomputable def routing_search_walk_6_c2 (lb : Bool) (inl : Inl) (n : Nat) (bq1 : Bool) (lq2 : List (List CV)) (iq3 : Int) (x2 : CV) (c1 : List CV) (bq4 : Bool) (lq5 : List (List CV)) (i21 : Int) (c38 : List CV) (x39 : CV) (x40 : CV) (p46 : Bool × List (List CV)) (iq9 : Int) (bq10 : Bool) (lq11 : List (List CV)) (iq12 : Int) (sq6 : List UInt8) (b22 : Bool) (l23 : List (List CV)) (vq13 : CV) (vq14 : CV) (vq15 : CV) (vq16 : CV) (vq17 : CV) (vq18 : CV) (vq19 : CV) (vq20 : CV) (vq21 : CV) (vq22 : CV) (K : AV → List (List (Option (List AV))) → Option CV) (k37 : Nat) : AV → List (List (Option (List AV))) → Option CV :=
  (inlK (opAt (opsOf (sub (B F_routing_search_walk) [1, 1, 1, 1, 0, 1, 0, 0, 1, 1, 0, 0, 1, 1, 0])) 9) ⟨fr 77 [(0, .ptr 0 10 0), (1, .val (.list bq1 lq2)), (2, .val (.int .i64 iq3)), (6, .val (.bool false)), (7, .val x2), (9, .ptr 6 9 0), (10, .val (.list bq1 lq2)), (11, .val (.list bq1 lq2)), (12, .val (.int .i64 (lq2.length : Int))), (13, .val (.int .i64 (IntKind.wrap .i64 ((lq2.length : Int) - 1)))), (14, .cptr c1 0), (15, .val x2), (46, .ptr 0 10 0), (47, .ptr 0 10 0), (48, .ptr 0 10 0), (49, .val (.list bq4 lq5)), (50, .val (.int .i64 (lq5.length : Int))), (51, .val (.int .i64 i21)), (52, .val (.bool (decide (i21 < (lq5.length : Int))))), (53, .cptr c38 0), (54, .val (.agg [x39, x40])), (65, .ptr 0 10 0), (66, .val (.list bq1 lq2)), (67, .lst false p46.1 9 p46.2), (68, .ptr 6 9 1), (69, .val x40), (70, .lst true false 9 [[x40]]), (71, .val (.list (p46.1 && false) (p46.2 ++ [[x40]]))), (72, .val (.int .i64 iq3)), (73, .val (.int .i64 (IntKind.wrap .i64 (iq3 - 1))))], [bx 50 [(4, some [.val (.int .i64 iq9), .val (.list bq10 lq11), .val (.int .i64 iq12)]), (10, some [.val (.list bq4 lq5), .val (.str sq6), .lst true b22 34 l23])], bx 77 [(9, some [.val vq13, .val vq14])], bx 77 [(9, some [.val vq15, .val vq16])], bx 77 [(9, some [.val vq17, .val vq18])], bx 77 [(9, some [.val vq19, .val vq20])], bx 77 [(9, some [.val vq21, .val vq22])], bx 77 [(9, some [.val x39, .val x40])]], KK⟩ (opsDrawK Tryd.prog (C lb n) inl 6 (Region.before (opsOf (sub (B F_routing_search_walk) [1, 1, 1, 1, 0, 1, 0, 0, 1, 1, 0, 0, 1, 1, 0])).toArray).toList (opsOf (sub (B F_routing_search_walk) [1, 1, 1, 1, 0, 1, 0, 0, 1, 1, 0, 0, 1, 1, 0])) ((opsOf (sub (B F_routing_search_walk) [1, 1, 1, 1, 0, 1, 0, 0, 1, 1, 0, 0, 1, 1, 0])).drop 10) 10 [] ((seqK (evN Tryd.prog (C lb n) inl n 6 985) (sub (B F_routing_search_walk) [1, 1, 1, 1, 0, 1, 0, 0, 1, 1, 0, 0, 1, 1, 0]) (sub (B F_routing_search_walk) [1, 1, 1, 1, 0, 1, 0, 0, 1, 1, 0, 0, 1, 1, 1]) (blockK 1 (seqK (evN Tryd.prog (C lb n) inl n 6 989) (sub (B F_routing_search_walk) [1, 1, 1, 1, 0, 1, 0, 0, 1, 1, 0]) (sub (B F_routing_search_walk) [1, 1, 1, 1, 0, 1, 0, 0, 1, 1, 1]) (loopK 6 (loopTemps (sub (B F_routing_search_walk) [1, 1, 1, 1, 0, 1, 0, 0]) ++ []) [9] (loopC (evN Tryd.prog (C lb n) inl n 6 992) 6 (loopTemps (sub (B F_routing_search_walk) [1, 1, 1, 1, 0, 1, 0, 0]) ++ []) [9] (sub (B F_routing_search_walk) [1, 1, 1, 1, 0, 1, 0, 0]) (blockK 0 (seqK (evN Tryd.prog (C lb n) inl n 6 995) (sub (B F_routing_search_walk) [1, 1, 1, 1, 0]) (sub (B F_routing_search_walk) [1, 1, 1, 1, 1]) (retK Tryd.prog (R F_routing_search_walk) 6 K))) k37) (blockK 0 (seqK (evN Tryd.prog (C lb n) inl n 6 995) (sub (B F_routing_search_walk) [1, 1, 1, 1, 0]) (sub (B F_routing_search_walk) [1, 1, 1, 1, 1]) (retK Tryd.prog (R F_routing_search_walk) 6 K))))))) .normal)))

theorem routing_search_walk_6_c2_eq (lb : Bool) (inl : Inl) (n : Nat) (bq1 : Bool) (lq2 : List (List CV)) (iq3 : Int) (x2 : CV) (c1 : List CV) (bq4 : Bool) (lq5 : List (List CV)) (i21 : Int) (c38 : List CV) (x39 : CV) (x40 : CV) (p46 : Bool × List (List CV)) (iq9 : Int) (bq10 : Bool) (lq11 : List (List CV)) (iq12 : Int) (sq6 : List UInt8) (b22 : Bool) (l23 : List (List CV)) (vq13 : CV) (vq14 : CV) (vq15 : CV) (vq16 : CV) (vq17 : CV) (vq18 : CV) (vq19 : CV) (vq20 : CV) (vq21 : CV) (vq22 : CV) (K : AV → List (List (Option (List AV))) → Option CV) (k37 : Nat) (b47 : Bool) (l48 : List (List CV)) (b49 : Bool) :
  routing_search_walk_6_c2 lb inl n bq1 lq2 iq3 x2 c1 bq4 lq5 i21 c38 x39 x40 p46 iq9 bq10 lq11 iq12 sq6 b22 l23 vq13 vq14 vq15 vq16 vq17 vq18 vq19 vq20 vq21 vq22 K k37 (.val (.bool b49)) [bx 50 [(4, some [.val (.int .i64 iq9), .val (.list bq10 lq11), .val (.int .i64 iq12)]), (10, some [.val (.list bq4 lq5), .val (.str sq6), .lst true b47 34 l48])], bx 77 [(9, some [.val vq13, .val vq14])], bx 77 [(9, some [.val vq15, .val vq16])], bx 77 [(9, some [.val vq17, .val vq18])], bx 77 [(9, some [.val vq19, .val vq20])], bx 77 [(9, some [.val vq21, .val vq22])], bx 77 [(9, some [.val x39, .val x40])]] =
 bif (!b49) then
 (K (.val (.bool false)) [bx 50 [(4, some [.val (.int .i64 iq9), .val (.list bq10 lq11), .val (.int .i64 iq12)]), (10, some [.val (.list bq4 lq5), .val (.str sq6), .lst true b47 34 l48])], bx 77 [(9, some [.val vq13, .val vq14])], bx 77 [(9, some [.val vq15, .val vq16])], bx 77 [(9, some [.val vq17, .val vq18])], bx 77 [(9, some [.val vq19, .val vq20])], bx 77 [(9, some [.val vq21, .val vq22])]])
 else
 (routing_search_walk_6_L1 lb inl n k37 K bq1 lq2 iq3 x2 c1 bq4 lq5 iq9 bq10 lq11 iq12 sq6 vq13 vq14 vq15 vq16 vq17 vq18 vq19 vq20 vq21 vq22 (IntKind.wrap .i64 (i21 + 1)) b47 l48) := by kernel_rfl

noncomputable def routing_search_walk_6_J3 (lb : Bool) (inl : Inl) (n : Nat) (K : AV → List (List (Option (List AV))) → Option CV) (bq1 : Bool) (lq2 : List (List CV)) (iq3 : Int) (x2 : CV) (c1 : List CV) (iq9 : Int) (bq10 : Bool) (lq11 : List (List CV)) (iq12 : Int) (bq4 : Bool) (lq5 : List (List CV)) (sq6 : List UInt8) (vq13 : CV) (vq14 : CV) (vq15 : CV) (vq16 : CV) (vq17 : CV) (vq18 : CV) (vq19 : CV) (vq20 : CV) (vq21 : CV) (vq22 : CV) (b50 : Bool) (l51 : List (List CV)) : Option CV :=
  hold (evN Tryd.prog (C lb n) inl n 6 995 (sub (B F_routing_search_walk) [1, 1, 1, 1, 1]) (retK Tryd.prog (R F_routing_search_walk) 6 K) ⟨fr 77 [(0, .ptr 0 10 0), (1, .val (.list bq1 lq2)), (2, .val (.int .i64 iq3)), (6, .val (.bool false)), (7, .val x2), (10, .val (.list bq1 lq2)), (11, .val (.list bq1 lq2)), (12, .val (.int .i64 (lq2.length : Int))), (13, .val (.int .i64 (IntKind.wrap .i64 ((lq2.length : Int) - 1)))), (14, .cptr c1 0), (15, .val x2)], [bx 50 [(4, some [.val (.int .i64 iq9), .val (.list bq10 lq11), .val (.int .i64 iq12)]), (10, some [.val (.list bq4 lq5), .val (.str sq6), .lst true b50 34 l51])], bx 77 [(9, some [.val vq13, .val vq14])], bx 77 [(9, some [.val vq15, .val vq16])], bx 77 [(9, some [.val vq17, .val vq18])], bx 77 [(9, some [.val vq19, .val vq20])], bx 77 [(9, some [.val vq21, .val vq22])], bx 77 []], KK⟩)

theorem routing_search_walk_6_J3_eq (lb : Bool) (inl : Inl) (n : Nat) (K : AV → List (List (Option (List AV))) → Option CV) (bq1 : Bool) (lq2 : List (List CV)) (iq3 : Int) (x2 : CV) (c1 : List CV) (iq9 : Int) (bq10 : Bool) (lq11 : List (List CV)) (iq12 : Int) (bq4 : Bool) (lq5 : List (List CV)) (sq6 : List UInt8) (vq13 : CV) (vq14 : CV) (vq15 : CV) (vq16 : CV) (vq17 : CV) (vq18 : CV) (vq19 : CV) (vq20 : CV) (vq21 : CV) (vq22 : CV) (b50 : Bool) (l51 : List (List CV)) :
  routing_search_walk_6_J3 lb inl n K bq1 lq2 iq3 x2 c1 iq9 bq10 lq11 iq12 bq4 lq5 sq6 vq13 vq14 vq15 vq16 vq17 vq18 vq19 vq20 vq21 vq22 b50 l51 =
 K (.val (.bool true)) [bx 50 [(4, some [.val (.int .i64 iq9), .val (.list bq10 lq11), .val (.int .i64 iq12)]), (10, some [.val (.list bq4 lq5), .val (.str sq6), .lst true b50 34 l51])], bx 77 [(9, some [.val vq13, .val vq14])], bx 77 [(9, some [.val vq15, .val vq16])], bx 77 [(9, some [.val vq17, .val vq18])], bx 77 [(9, some [.val vq19, .val vq20])], bx 77 [(9, some [.val vq21, .val vq22])]] := (hold_eq _).trans (by kernel_rfl)

theorem routing_search_walk_6_L1_succ (lb : Bool) (inl : Inl) (n k37 : Nat) (K : AV → List (List (Option (List AV))) → Option CV) (bq1 : Bool) (lq2 : List (List CV)) (iq3 : Int) (x2 : CV) (c1 : List CV) (bq4 : Bool) (lq5 : List (List CV)) (iq9 : Int) (bq10 : Bool) (lq11 : List (List CV)) (iq12 : Int) (sq6 : List UInt8) (vq13 : CV) (vq14 : CV) (vq15 : CV) (vq16 : CV) (vq17 : CV) (vq18 : CV) (vq19 : CV) (vq20 : CV) (vq21 : CV) (vq22 : CV) (i21 : Int) (b22 : Bool) (l23 : List (List CV)) :
  routing_search_walk_6_L1 lb inl n (k37 + 1) K bq1 lq2 iq3 x2 c1 bq4 lq5 iq9 bq10 lq11 iq12 sq6 vq13 vq14 vq15 vq16 vq17 vq18 vq19 vq20 vq21 vq22 i21 b22 l23 =
 bif (decide (i21 < (lq5.length : Int))) then
 (optO (atL lq5 i21) fun c38 =>
 chkO (c38.length == 2) (
 optO (c38[0]?) fun x39 =>
 optO (c38[1]?) fun x40 =>
 optO (CV.asS x39) fun s41 =>
 optO (CV.asS x2) fun s42 =>
 bif (!(s41 == s42)) then
 (routing_search_walk_6_L1 lb inl n k37 K bq1 lq2 iq3 x2 c1 bq4 lq5 iq9 bq10 lq11 iq12 sq6 vq13 vq14 vq15 vq16 vq17 vq18 vq19 vq20 vq21 vq22 (IntKind.wrap .i64 (i21 + 1)) b22 l23)
 else
 (optO (C lb n F_slices_Contains_string [.list bq1 lq2, x40]) fun r43 =>
 optO (CV.asB r43) fun b44 =>
 bif b44 then
 (routing_search_walk_6_L1 lb inl n k37 K bq1 lq2 iq3 x2 c1 bq4 lq5 iq9 bq10 lq11 iq12 sq6 vq13 vq14 vq15 vq16 vq17 vq18 vq19 vq20 vq21 vq22 (IntKind.wrap .i64 (i21 + 1)) b22 l23)
 else
 (optO (C lb n F_slices_Clip_string [.list bq1 lq2]) fun r45 =>
 optO (CV.asL r45) fun p46 =>
 chkO (CV.isCell x40) (
 chkO (room (p46.2.length + 1) 16) (
 routing_search_walk_d7 lb inl n (routing_search_walk_6_c2 lb inl n bq1 lq2 iq3 x2 c1 bq4 lq5 i21 c38 x39 x40 p46 iq9 bq10 lq11 iq12 sq6 b22 l23 vq13 vq14 vq15 vq16 vq17 vq18 vq19 vq20 vq21 vq22 K k37) (p46.1 && false) (p46.2 ++ [[x40]]) (IntKind.wrap .i64 (iq3 - 1)) bq4 lq5 sq6 b22 l23 iq9 bq10 lq11 iq12 vq13 vq14 vq15 vq16 vq17 vq18 vq19 vq20 vq21 vq22 x39 x40))))))
 else
 (routing_search_walk_6_J3 lb inl n K bq1 lq2 iq3 x2 c1 iq9 bq10 lq11 iq12 bq4 lq5 sq6 vq13 vq14 vq15 vq16 vq17 vq18 vq19 vq20 vq21 vq22 b22 l23) := (hold_eq _).trans (by kernel_rfl)

theorem routing_search_walk_6_L1_zero (lb : Bool) (inl : Inl) (n : Nat) (K : AV → List (List (Option (List AV))) → Option CV) (bq1 : Bool) (lq2 : List (List CV)) (iq3 : Int) (x2 : CV) (c1 : List CV) (bq4 : Bool) (lq5 : List (List CV)) (iq9 : Int) (bq10 : Bool) (lq11 : List (List CV)) (iq12 : Int) (sq6 : List UInt8) (vq13 : CV) (vq14 : CV) (vq15 : CV) (vq16 : CV) (vq17 : CV) (vq18 : CV) (vq19 : CV) (vq20 : CV) (vq21 : CV) (vq22 : CV) (i21 : Int) (b22 : Bool) (l23 : List (List CV)) :
  routing_search_walk_6_L1 lb inl n 0 K bq1 lq2 iq3 x2 c1 bq4 lq5 iq9 bq10 lq11 iq12 sq6 vq13 vq14 vq15 vq16 vq17 vq18 vq19 vq20 vq21 vq22 i21 b22 l23 =
 none := (hold_eq _).trans (by kernel_rfl)

theorem routing_search_walk_d6_eq (lb : Bool) (n : Nat) (K : AV → List (List (Option (List AV))) → Option CV) (bq1 : Bool) (lq2 : List (List CV)) (iq3 : Int) (bq4 : Bool) (lq5 : List (List CV)) (sq6 : List UInt8) (bq7 : Bool) (lq8 : List (List CV)) (iq9 : Int) (bq10 : Bool) (lq11 : List (List CV)) (iq12 : Int) (vq13 : CV) (vq14 : CV) (vq15 : CV) (vq16 : CV) (vq17 : CV) (vq18 : CV) (vq19 : CV) (vq20 : CV) (vq21 : CV) (vq22 : CV) :
  routing_search_walk_d6 lb (I4 lb n) n K bq1 lq2 iq3 bq4 lq5 sq6 bq7 lq8 iq9 bq10 lq11 iq12 vq13 vq14 vq15 vq16 vq17 vq18 vq19 vq20 vq21 vq22 =
 optO (atL lq2 (IntKind.wrap .i64 ((lq2.length : Int) - 1))) fun c1 =>
 chkO (c1.length == 1) (
 optO (c1[0]?) fun x2 =>
 bif (iq3 == 0) then
 (optO (CV.asS x2) fun s3 =>
 bif (s3 == sq6) then
 (chkO (room (lq8.length + 1) 24) (
 K (.val (.bool (decide (((lq8 ++ [[CV.list bq1 lq2]]).length : Int) ≤ 1024)))) [bx 50 [(4, some [.val (.int .i64 iq9), .val (.list bq10 lq11), .val (.int .i64 iq12)]), (10, some [.val (.list bq4 lq5), .val (.str sq6), .lst true (bq7 && false) 34 (lq8 ++ [[CV.list bq1 lq2]])])], bx 77 [(9, some [.val vq13, .val vq14])], bx 77 [(9, some [.val vq15, .val vq16])], bx 77 [(9, some [.val vq17, .val vq18])], bx 77 [(9, some [.val vq19, .val vq20])], bx 77 [(9, some [.val vq21, .val vq22])]]))
 else
 (K (.val (.bool (decide ((lq8.length : Int) ≤ 1024)))) [bx 50 [(4, some [.val (.int .i64 iq9), .val (.list bq10 lq11), .val (.int .i64 iq12)]), (10, some [.val (.list bq4 lq5), .val (.str sq6), .lst true bq7 34 lq8])], bx 77 [(9, some [.val vq13, .val vq14])], bx 77 [(9, some [.val vq15, .val vq16])], bx 77 [(9, some [.val vq17, .val vq18])], bx 77 [(9, some [.val vq19, .val vq20])], bx 77 [(9, some [.val vq21, .val vq22])]]))
 else
 (optO (CV.asS x2) fun s4 =>
 bif (s4 == sq6) then
 (K (.val (.bool true)) [bx 50 [(4, some [.val (.int .i64 iq9), .val (.list bq10 lq11), .val (.int .i64 iq12)]), (10, some [.val (.list bq4 lq5), .val (.str sq6), .lst true bq7 34 lq8])], bx 77 [(9, some [.val vq13, .val vq14])], bx 77 [(9, some [.val vq15, .val vq16])], bx 77 [(9, some [.val vq17, .val vq18])], bx 77 [(9, some [.val vq19, .val vq20])], bx 77 [(9, some [.val vq21, .val vq22])]])
 else
 (routing_search_walk_6_L1 lb (I3 lb n) n n K bq1 lq2 iq3 x2 c1 bq4 lq5 iq9 bq10 lq11 iq12 sq6 vq13 vq14 vq15 vq16 vq17 vq18 vq19 vq20 vq21 vq22 0 bq7 lq8))) := by kernel_rfl

/-! (*airline/routing.search).walk, at depth 7 -/
noncomputable def routing_search_walk_7_L1 (lb : Bool) (inl : Inl) (n : Nat) (k37 : Nat) (K : AV → List (List (Option (List AV))) → Option CV) (bq1 : Bool) (lq2 : List (List CV)) (iq3 : Int) (x2 : CV) (c1 : List CV) (bq4 : Bool) (lq5 : List (List CV)) (iq9 : Int) (bq10 : Bool) (lq11 : List (List CV)) (iq12 : Int) (sq6 : List UInt8) (vq13 : CV) (vq14 : CV) (vq15 : CV) (vq16 : CV) (vq17 : CV) (vq18 : CV) (vq19 : CV) (vq20 : CV) (vq21 : CV) (vq22 : CV) (vq23 : CV) (vq24 : CV) (i21 : Int) (b22 : Bool) (l23 : List (List CV)) : Option CV :=
  hold (loopC (evN Tryd.prog (C lb n) inl n 7 992) 7 (loopTemps (sub (B F_routing_search_walk) [1, 1, 1, 1, 0, 1, 0, 0]) ++ []) [9] (sub (B F_routing_search_walk) [1, 1, 1, 1, 0, 1, 0, 0]) (blockK 0 (seqK (evN Tryd.prog (C lb n) inl n 7 995) (sub (B F_routing_search_walk) [1, 1, 1, 1, 0]) (sub (B F_routing_search_walk) [1, 1, 1, 1, 1]) (retK Tryd.prog (R F_routing_search_walk) 7 K))) k37 ⟨fr 77 [(0, .ptr 0 10 0), (1, .val (.list bq1 lq2)), (2, .val (.int .i64 iq3)), (6, .val (.bool false)), (7, .val x2), (10, .val (.list bq1 lq2)), (11, .val (.list bq1 lq2)), (12, .val (.int .i64 (lq2.length : Int))), (13, .val (.int .i64 (IntKind.wrap .i64 ((lq2.length : Int) - 1)))), (14, .cptr c1 0), (15, .val x2), (46, .ptr 0 10 0), (47, .ptr 0 10 0), (48, .ptr 0 10 0), (49, .val (.list bq4 lq5)), (50, .val (.int .i64 (lq5.length : Int))), (51, .val (.int .i64 i21))], [bx 50 [(4, some [.val (.int .i64 iq9), .val (.list bq10 lq11), .val (.int .i64 iq12)]), (10, some [.val (.list bq4 lq5), .val (.str sq6), .lst true b22 34 l23])], bx 77 [(9, some [.val vq13, .val vq14])], bx 77 [(9, some [.val vq15, .val vq16])], bx 77 [(9, some [.val vq17, .val vq18])], bx 77 [(9, some [.val vq19, .val vq20])], bx 77 [(9, some [.val vq21, .val vq22])], bx 77 [(9, some [.val vq23, .val vq24])], bx 77 []], KK⟩)

noncomputable def routing_search_walk_d8 (lb : Bool) (inl : Inl) (n : Nat) (K : AV → List (List (Option (List AV))) → Option CV) (bq1 : Bool) (lq2 : List (List CV)) (iq3 : Int) (bq4 : Bool) (lq5 : List (List CV)) (sq6 : List UInt8) (bq7 : Bool) (lq8 : List (List CV)) (iq9 : Int) (bq10 : Bool) (lq11 : List (List CV)) (iq12 : Int) (vq13 : CV) (vq14 : CV) (vq15 : CV) (vq16 : CV) (vq17 : CV) (vq18 : CV) (vq19 : CV) (vq20 : CV) (vq21 : CV) (vq22 : CV) (vq23 : CV) (vq24 : CV) (vq25 : CV) (vq26 : CV) : Option CV :=
  inl F_routing_search_walk [.ptr 0 10 0, .val (.list bq1 lq2), .val (.int .i64 iq3)] [bx 50 [(4, some [.val (.int .i64 iq9), .val (.list bq10 lq11), .val (.int .i64 iq12)]), (10, some [.val (.list bq4 lq5), .val (.str sq6), .lst true bq7 34 lq8])], bx 77 [(9, some [.val vq13, .val vq14])], bx 77 [(9, some [.val vq15, .val vq16])], bx 77 [(9, some [.val vq17, .val vq18])], bx 77 [(9, some [.val vq19, .val vq20])], bx 77 [(9, some [.val vq21, .val vq22])], bx 77 [(9, some [.val vq23, .val vq24])], bx 77 [(9, some [.val vq25, .val vq26])]] K

noncomputable def routing_search_walk_7_c2 (lb : Bool) (inl : Inl) (n : Nat) (bq1 : Bool) (lq2 : List (List CV)) (iq3 : Int) (x2 : CV) (c1 : List CV) (bq4 : Bool) (lq5 : List (List CV)) (i21 : Int) (c38 : List CV) (x39 : CV) (x40 : CV) (p46 : Bool × List (List CV)) (iq9 : Int) (bq10 : Bool) (lq11 : List (List CV)) (iq12 : Int) (sq6 : List UInt8) (b22 : Bool) (l23 : List (List CV)) (vq13 : CV) (vq14 : CV) (vq15 : CV) (vq16 : CV) (vq17 : CV) (vq18 : CV) (vq19 : CV) (vq20 : CV) (vq21 : CV) (vq22 : CV) (vq23 : CV) (vq24 : CV) (K : AV → List (List (Option (List AV))) → Option CV) (k37 : Nat) : AV → List (List (Option (List AV))) → Option CV :=
  (inlK (opAt (opsOf (sub (B F_routing_search_walk) [1, 1, 1, 1, 0, 1, 0, 0, 1, 1, 0, 0, 1, 1, 0])) 9) ⟨fr 77 [(0, .ptr 0 10 0), (1, .val (.list bq1 lq2)), (2, .val (.int .i64 iq3)), (6, .val (.bool false)), (7, .val x2), (9, .ptr 7 9 0), (10, .val (.list bq1 lq2)), (11, .val (.list bq1 lq2)), (12, .val (.int .i64 (lq2.length : Int))), (13, .val (.int .i64 (IntKind.wrap .i64 ((lq2.length : Int) - 1)))), (14, .cptr c1 0), (15, .val x2), (46, .ptr 0 10 0), (47, .ptr 0 10 0), (48, .ptr 0 10 0), (49, .val (.list bq4 lq5)), (50, .val (.int .i64 (lq5.length : Int))), (51, .val (.int .i64 i21)), (52, .val (.bool (decide (i21 < (lq5.length : Int))))), (53, .cptr c38 0), (54, .val (.agg [x39, x40])), (65, .ptr 0 10 0), (66, .val (.list bq1 lq2)), (67, .lst false p46.1 9 p46.2), (68, .ptr 7 9 1), (69, .val x40), (70, .lst true false 9 [[x40]]), (71, .val (.list (p46.1 && false) (p46.2 ++ [[x40]]))), (72, .val (.int .i64 iq3)), (73, .val (.int .i64 (IntKind.wrap .i64 (iq3 - 1))))], [bx 50 [(4, some [.val (.int .i64 iq9), .val (.list bq10 lq11), .val (.int .i64 iq12)]), (10, some [.val (.list bq4 lq5), .val (.str sq6), .lst true b22 34 l23])], bx 77 [(9, some [.val vq13, .val vq14])], bx 77 [(9, some [.val vq15, .val vq16])], bx 77 [(9, some [.val vq17, .val vq18])], bx 77 [(9, some [.val vq19, .val vq20])], bx 77 [(9, some [.val vq21, .val vq22])], bx 77 [(9, some [.val vq23, .val vq24])], bx 77 [(9, some [.val x39, .val x40])]], KK⟩ (opsDrawK Tryd.prog (C lb n) inl 7 (Region.before (opsOf (sub (B F_routing_search_walk) [1, 1, 1, 1, 0, 1, 0, 0, 1, 1, 0, 0, 1, 1, 0])).toArray).toList (opsOf (sub (B F_routing_search_walk) [1, 1, 1, 1, 0, 1, 0, 0, 1, 1, 0, 0, 1, 1, 0])) ((opsOf (sub (B F_routing_search_walk) [1, 1, 1, 1, 0, 1, 0, 0, 1, 1, 0, 0, 1, 1, 0])).drop 10) 10 [] ((seqK (evN Tryd.prog (C lb n) inl n 7 985) (sub (B F_routing_search_walk) [1, 1, 1, 1, 0, 1, 0, 0, 1, 1, 0, 0, 1, 1, 0]) (sub (B F_routing_search_walk) [1, 1, 1, 1, 0, 1, 0, 0, 1, 1, 0, 0, 1, 1, 1]) (blockK 1 (seqK (evN Tryd.prog (C lb n) inl n 7 989) (sub (B F_routing_search_walk) [1, 1, 1, 1, 0, 1, 0, 0, 1, 1, 0]) (sub (B F_routing_search_walk) [1, 1, 1, 1, 0, 1, 0, 0, 1, 1, 1]) (loopK 7 (loopTemps (sub (B F_routing_search_walk) [1, 1, 1, 1, 0, 1, 0, 0]) ++ []) [9] (loopC (evN Tryd.prog (C lb n) inl n 7 992) 7 (loopTemps (sub (B F_routing_search_walk) [1, 1, 1, 1, 0, 1, 0, 0]) ++ []) [9] (sub (B F_routing_search_walk) [1, 1, 1, 1, 0, 1, 0, 0]) (blockK 0 (seqK (evN Tryd.prog (C lb n) inl n 7 995) (sub (B F_routing_search_walk) [1, 1, 1, 1, 0]) (sub (B F_routing_search_walk) [1, 1, 1, 1, 1]) (retK Tryd.prog (R F_routing_search_walk) 7 K))) k37) (blockK 0 (seqK (evN Tryd.prog (C lb n) inl n 7 995) (sub (B F_routing_search_walk) [1, 1, 1, 1, 0]) (sub (B F_routing_search_walk) [1, 1, 1, 1, 1]) (retK Tryd.prog (R F_routing_search_walk) 7 K))))))) .normal)))

theorem routing_search_walk_7_c2_eq (lb : Bool) (inl : Inl) (n : Nat) (bq1 : Bool) (lq2 : List (List CV)) (iq3 : Int) (x2 : CV) (c1 : List CV) (bq4 : Bool) (lq5 : List (List CV)) (i21 : Int) (c38 : List CV) (x39 : CV) (x40 : CV) (p46 : Bool × List (List CV)) (iq9 : Int) (bq10 : Bool) (lq11 : List (List CV)) (iq12 : Int) (sq6 : List UInt8) (b22 : Bool) (l23 : List (List CV)) (vq13 : CV) (vq14 : CV) (vq15 : CV) (vq16 : CV) (vq17 : CV) (vq18 : CV) (vq19 : CV) (vq20 : CV) (vq21 : CV) (vq22 : CV) (vq23 : CV) (vq24 : CV) (K : AV → List (List (Option (List AV))) → Option CV) (k37 : Nat) (b47 : Bool) (l48 : List (List CV)) (b49 : Bool) :
  routing_search_walk_7_c2 lb inl n bq1 lq2 iq3 x2 c1 bq4 lq5 i21 c38 x39 x40 p46 iq9 bq10 lq11 iq12 sq6 b22 l23 vq13 vq14 vq15 vq16 vq17 vq18 vq19 vq20 vq21 vq22 vq23 vq24 K k37 (.val (.bool b49)) [bx 50 [(4, some [.val (.int .i64 iq9), .val (.list bq10 lq11), .val (.int .i64 iq12)]), (10, some [.val (.list bq4 lq5), .val (.str sq6), .lst true b47 34 l48])], bx 77 [(9, some [.val vq13, .val vq14])], bx 77 [(9, some [.val vq15, .val vq16])], bx 77 [(9, some [.val vq17, .val vq18])], bx 77 [(9, some [.val vq19, .val vq20])], bx 77 [(9, some [.val vq21, .val vq22])], bx 77 [(9, some [.val vq23, .val vq24])], bx 77 [(9, some [.val x39, .val x40])]] =
 bif (!b49) then
 (K (.val (.bool false)) [bx 50 [(4, some [.val (.int .i64 iq9), .val (.list bq10 lq11), .val (.int .i64 iq12)]), (10, some [.val (.list bq4 lq5), .val (.str sq6), .lst true b47 34 l48])], bx 77 [(9, some [.val vq13, .val vq14])], bx 77 [(9, some [.val vq15, .val vq16])], bx 77 [(9, some [.val vq17, .val vq18])], bx 77 [(9, some [.val vq19, .val vq20])], bx 77 [(9, some [.val vq21, .val vq22])], bx 77 [(9, some [.val vq23, .val vq24])]])
 else
 (routing_search_walk_7_L1 lb inl n k37 K bq1 lq2 iq3 x2 c1 bq4 lq5 iq9 bq10 lq11 iq12 sq6 vq13 vq14 vq15 vq16 vq17 vq18 vq19 vq20 vq21 vq22 vq23 vq24 (IntKind.wrap .i64 (i21 + 1)) b47 l48) := by kernel_rfl

noncomputable def routing_search_walk_7_J3 (lb : Bool) (inl : Inl) (n : Nat) (K : AV → List (List (Option (List AV))) → Option CV) (bq1 : Bool) (lq2 : List (List CV)) (iq3 : Int) (x2 : CV) (c1 : List CV) (iq9 : Int) (bq10 : Bool) (lq11 : List (List CV)) (iq12 : Int) (bq4 : Bool) (lq5 : List (List CV)) (sq6 : List UInt8) (vq13 : CV) (vq14 : CV) (vq15 : CV) (vq16 : CV) (vq17 : CV) (vq18 : CV) (vq19 : CV) (vq20 : CV) (vq21 : CV) (vq22 : CV) (vq23 : CV) (vq24 : CV) (b50 : Bool) (l51 : List (List CV)) : Option CV :=
  hold (evN Tryd.prog (C lb n) inl n 7 995 (sub (B F_routing_search_walk) [1, 1, 1, 1, 1]) (retK Tryd.prog (R F_routing_search_walk) 7 K) ⟨fr 77 [(0, .ptr 0 10 0), (1, .val (.list bq1 lq2)), (2, .val (.int .i64 iq3)), (6, .val (.bool false)), (7, .val x2), (10, .val (.list bq1 lq2)), (11, .val (.list bq1 lq2)), (12, .val (.int .i64 (lq2.length : Int))), (13, .val (.int .i64 (IntKind.wrap .i64 ((lq2.length : Int) - 1)))), (14, .cptr c1 0), (15, .val x2)], [bx 50 [(4, some [.val (.int .i64 iq9), .val (.list bq10 lq11), .val (.int .i64 iq12)]), (10, some [.val (.list bq4 lq5), .val (.str sq6), .lst true b50 34 l51])], bx 77 [(9, some [.val vq13, .val vq14])], bx 77 [(9, some [.val vq15, .val vq16])], bx 77 [(9, some [.val vq17, .val vq18])], bx 77 [(9, some [.val vq19, .val vq20])], bx 77 [(9, some [.val vq21, .val vq22])], bx 77 [(9, some [.val vq23, .val vq24])], bx 77 []], KK⟩)

theorem routing_search_walk_7_J3_eq (lb : Bool) (inl : Inl) (n : Nat) (K : AV → List (List (Option (List AV))) → Option CV) (bq1 : Bool) (lq2 : List (List CV)) (iq3 : Int) (x2 : CV) (c1 : List CV) (iq9 : Int) (bq10 : Bool) (lq11 : List (List CV)) (iq12 : Int) (bq4 : Bool) (lq5 : List (List CV)) (sq6 : List UInt8) (vq13 : CV) (vq14 : CV) (vq15 : CV) (vq16 : CV) (vq17 : CV) (vq18 : CV) (vq19 : CV) (vq20 : CV) (vq21 : CV) (vq22 : CV) (vq23 : CV) (vq24 : CV) (b50 : Bool) (l51 : List (List CV)) :
  routing_search_walk_7_J3 lb inl n K bq1 lq2 iq3 x2 c1 iq9 bq10 lq11 iq12 bq4 lq5 sq6 vq13 vq14 vq15 vq16 vq17 vq18 vq19 vq20 vq21 vq22 vq23 vq24 b50 l51 =
 K (.val (.bool true)) [bx 50 [(4, some [.val (.int .i64 iq9), .val (.list bq10 lq11), .val (.int .i64 iq12)]), (10, some [.val (.list bq4 lq5), .val (.str sq6), .lst true b50 34 l51])], bx 77 [(9, some [.val vq13, .val vq14])], bx 77 [(9, some [.val vq15, .val vq16])], bx 77 [(9, some [.val vq17, .val vq18])], bx 77 [(9, some [.val vq19, .val vq20])], bx 77 [(9, some [.val vq21, .val vq22])], bx 77 [(9, some [.val vq23, .val vq24])]] := (hold_eq _).trans (by kernel_rfl)

theorem routing_search_walk_7_L1_succ (lb : Bool) (inl : Inl) (n k37 : Nat) (K : AV → List (List (Option (List AV))) → Option CV) (bq1 : Bool) (lq2 : List (List CV)) (iq3 : Int) (x2 : CV) (c1 : List CV) (bq4 : Bool) (lq5 : List (List CV)) (iq9 : Int) (bq10 : Bool) (lq11 : List (List CV)) (iq12 : Int) (sq6 : List UInt8) (vq13 : CV) (vq14 : CV) (vq15 : CV) (vq16 : CV) (vq17 : CV) (vq18 : CV) (vq19 : CV) (vq20 : CV) (vq21 : CV) (vq22 : CV) (vq23 : CV) (vq24 : CV) (i21 : Int) (b22 : Bool) (l23 : List (List CV)) :
  routing_search_walk_7_L1 lb inl n (k37 + 1) K bq1 lq2 iq3 x2 c1 bq4 lq5 iq9 bq10 lq11 iq12 sq6 vq13 vq14 vq15 vq16 vq17 vq18 vq19 vq20 vq21 vq22 vq23 vq24 i21 b22 l23 =
 bif (decide (i21 < (lq5.length : Int))) then
 (optO (atL lq5 i21) fun c38 =>
 chkO (c38.length == 2) (
 optO (c38[0]?) fun x39 =>
 optO (c38[1]?) fun x40 =>
 optO (CV.asS x39) fun s41 =>
 optO (CV.asS x2) fun s42 =>
 bif (!(s41 == s42)) then
 (routing_search_walk_7_L1 lb inl n k37 K bq1 lq2 iq3 x2 c1 bq4 lq5 iq9 bq10 lq11 iq12 sq6 vq13 vq14 vq15 vq16 vq17 vq18 vq19 vq20 vq21 vq22 vq23 vq24 (IntKind.wrap .i64 (i21 + 1)) b22 l23)
 else
 (optO (C lb n F_slices_Contains_string [.list bq1 lq2, x40]) fun r43 =>
 optO (CV.asB r43) fun b44 =>
 bif b44 then
 (routing_search_walk_7_L1 lb inl n k37 K bq1 lq2 iq3 x2 c1 bq4 lq5 iq9 bq10 lq11 iq12 sq6 vq13 vq14 vq15 vq16 vq17 vq18 vq19 vq20 vq21 vq22 vq23 vq24 (IntKind.wrap .i64 (i21 + 1)) b22 l23)
 else
 (optO (C lb n F_slices_Clip_string [.list bq1 lq2]) fun r45 =>
 optO (CV.asL r45) fun p46 =>
 chkO (CV.isCell x40) (
 chkO (room (p46.2.length + 1) 16) (
 routing_search_walk_d8 lb inl n (routing_search_walk_7_c2 lb inl n bq1 lq2 iq3 x2 c1 bq4 lq5 i21 c38 x39 x40 p46 iq9 bq10 lq11 iq12 sq6 b22 l23 vq13 vq14 vq15 vq16 vq17 vq18 vq19 vq20 vq21 vq22 vq23 vq24 K k37) (p46.1 && false) (p46.2 ++ [[x40]]) (IntKind.wrap .i64 (iq3 - 1)) bq4 lq5 sq6 b22 l23 iq9 bq10 lq11 iq12 vq13 vq14 vq15 vq16 vq17 vq18 vq19 vq20 vq21 vq22 vq23 vq24 x39 x40))))))
 else
 (routing_search_walk_7_J3 lb inl n K bq1 lq2 iq3 x2 c1 iq9 bq10 lq11 iq12 bq4 lq5 sq6 vq13 vq14 vq15 vq16 vq17 vq18 vq19 vq20 vq21 vq22 vq23 vq24 b22 l23) := (hold_eq _).trans (by kernel_rfl)

theorem routing_search_walk_7_L1_zero (lb : Bool) (inl : Inl) (n : Nat) (K : AV → List (List (Option (List AV))) → Option CV) (bq1 : Bool) (lq2 : List (List CV)) (iq3 : Int) (x2 : CV) (c1 : List CV) (bq4 : Bool) (lq5 : List (List CV)) (iq9 : Int) (bq10 : Bool) (lq11 : List (List CV)) (iq12 : Int) (sq6 : List UInt8) (vq13 : CV) (vq14 : CV) (vq15 : CV) (vq16 : CV) (vq17 : CV) (vq18 : CV) (vq19 : CV) (vq20 : CV) (vq21 : CV) (vq22 : CV) (vq23 : CV) (vq24 : CV) (i21 : Int) (b22 : Bool) (l23 : List (List CV)) :
  routing_search_walk_7_L1 lb inl n 0 K bq1 lq2 iq3 x2 c1 bq4 lq5 iq9 bq10 lq11 iq12 sq6 vq13 vq14 vq15 vq16 vq17 vq18 vq19 vq20 vq21 vq22 vq23 vq24 i21 b22 l23 =
 none := (hold_eq _).trans (by kernel_rfl)

theorem routing_search_walk_d7_eq (lb : Bool) (n : Nat) (K : AV → List (List (Option (List AV))) → Option CV) (bq1 : Bool) (lq2 : List (List CV)) (iq3 : Int) (bq4 : Bool) (lq5 : List (List CV)) (sq6 : List UInt8) (bq7 : Bool) (lq8 : List (List CV)) (iq9 : Int) (bq10 : Bool) (lq11 : List (List CV)) (iq12 : Int) (vq13 : CV) (vq14 : CV) (vq15 : CV) (vq16 : CV) (vq17 : CV) (vq18 : CV) (vq19 : CV) (vq20 : CV) (vq21 : CV) (vq22 : CV) (vq23 : CV) (vq24 : CV) :
  routing_search_walk_d7 lb (I3 lb n) n K bq1 lq2 iq3 bq4 lq5 sq6 bq7 lq8 iq9 bq10 lq11 iq12 vq13 vq14 vq15 vq16 vq17 vq18 vq19 vq20 vq21 vq22 vq23 vq24 =
 optO (atL lq2 (IntKind.wrap .i64 ((lq2.length : Int) - 1))) fun c1 =>
 chkO (c1.length == 1) (
 optO (c1[0]?) fun x2 =>
 bif (iq3 == 0) then
 (optO (CV.asS x2) fun s3 =>
 bif (s3 == sq6) then
 (chkO (room (lq8.length + 1) 24) (
 K (.val (.bool (decide (((lq8 ++ [[CV.list bq1 lq2]]).length : Int) ≤ 1024)))) [bx 50 [(4, some [.val (.int .i64 iq9), .val (.list bq10 lq11), .val (.int .i64 iq12)]), (10, some [.val (.list bq4 lq5), .val (.str sq6), .lst true (bq7 && false) 34 (lq8 ++ [[CV.list bq1 lq2]])])], bx 77 [(9, some [.val vq13, .val vq14])], bx 77 [(9, some [.val vq15, .val vq16])], bx 77 [(9, some [.val vq17, .val vq18])], bx 77 [(9, some [.val vq19, .val vq20])], bx 77 [(9, some [.val vq21, .val vq22])], bx 77 [(9, some [.val vq23, .val vq24])]]))
 else
 (K (.val (.bool (decide ((lq8.length : Int) ≤ 1024)))) [bx 50 [(4, some [.val (.int .i64 iq9), .val (.list bq10 lq11), .val (.int .i64 iq12)]), (10, some [.val (.list bq4 lq5), .val (.str sq6), .lst true bq7 34 lq8])], bx 77 [(9, some [.val vq13, .val vq14])], bx 77 [(9, some [.val vq15, .val vq16])], bx 77 [(9, some [.val vq17, .val vq18])], bx 77 [(9, some [.val vq19, .val vq20])], bx 77 [(9, some [.val vq21, .val vq22])], bx 77 [(9, some [.val vq23, .val vq24])]]))
 else
 (optO (CV.asS x2) fun s4 =>
 bif (s4 == sq6) then
 (K (.val (.bool true)) [bx 50 [(4, some [.val (.int .i64 iq9), .val (.list bq10 lq11), .val (.int .i64 iq12)]), (10, some [.val (.list bq4 lq5), .val (.str sq6), .lst true bq7 34 lq8])], bx 77 [(9, some [.val vq13, .val vq14])], bx 77 [(9, some [.val vq15, .val vq16])], bx 77 [(9, some [.val vq17, .val vq18])], bx 77 [(9, some [.val vq19, .val vq20])], bx 77 [(9, some [.val vq21, .val vq22])], bx 77 [(9, some [.val vq23, .val vq24])]])
 else
 (routing_search_walk_7_L1 lb (I2 lb n) n n K bq1 lq2 iq3 x2 c1 bq4 lq5 iq9 bq10 lq11 iq12 sq6 vq13 vq14 vq15 vq16 vq17 vq18 vq19 vq20 vq21 vq22 vq23 vq24 0 bq7 lq8))) := by kernel_rfl

end Go.Proofs
