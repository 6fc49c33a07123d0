/- Equations of functions, printed by program. Conditions: none. -/
import Derived.Test.YtiffhngfneikoaaDoorEv
namespace Go.Proofs
open Go.Am
set_option maxRecDepth 100000
set_option linter.unusedVariables false
/-! airline/airlinelaw36.JournalAdds -/
noncomputable def l36_JournalAdds_L1 (lb : Bool) (n : Nat) (k71 : Nat) (an1 : Bool) (a2 : List (List CV)) (b3 : Int) (r7 : CV) (i39 : Int) (b40 : Bool) (l41 : List (List CV)) : Option CV :=
  hold (loopC (E0 lb n 0 992) 0 (loopTemps (sub (B F_l36_JournalAdds) [1, 1, 1, 1, 0, 1, 0, 0]) ++ [9]) [8] (sub (B F_l36_JournalAdds) [1, 1, 1, 1, 0, 1, 0, 0]) (blockK 0 (seqK (E0 lb n 0 995) (sub (B F_l36_JournalAdds) [1, 1, 1, 1, 0]) (sub (B F_l36_JournalAdds) [1, 1, 1, 1, 1]) (retK Tryd.prog (R F_l36_JournalAdds) 0 (outK (tightF Tryd.prog F_l36_JournalAdds))))) k71 ⟨fr 109 [(0, .val (.list an1 a2)), (1, .val (.int .i64 b3)), (4, .val (.bool false)), (5, .ptr 0 109 0), (6, .val r7), (7, .val (.int .i64 i39)), (19, .ptr 0 109 0), (20, .val (.list an1 a2)), (21, .val r7)], [bx 110 [(109, some [.lst true b40 34 l41, .val (.bool true)])]], KK⟩)

noncomputable def l36_JournalAdds_J2 (lb : Bool) (n : Nat) (an1 : Bool) (a2 : List (List CV)) (b3 : Int) (r7 : CV) (i100 : Int) (b101 : Bool) (l102 : List (List CV)) : Option CV :=
  hold (E0 lb n 0 995 (sub (B F_l36_JournalAdds) [1, 1, 1, 1, 1]) (retK Tryd.prog (R F_l36_JournalAdds) 0 (outK (tightF Tryd.prog F_l36_JournalAdds))) ⟨fr 109 [(0, .val (.list an1 a2)), (1, .val (.int .i64 b3)), (4, .val (.bool false)), (5, .ptr 0 109 0), (6, .val r7), (7, .val (.int .i64 i100)), (19, .ptr 0 109 0), (20, .val (.list an1 a2)), (21, .val r7)], [bx 110 [(109, some [.lst true b101 34 l102, .val (.bool true)])]], KK⟩)

noncomputable def l36_JournalAdds_L3 (lb : Bool) (n : Nat) (k115 : Nat) (b101 : Bool) (l102 : List (List CV)) (an1 : Bool) (a2 : List (List CV)) (b3 : Int) (r7 : CV) (i100 : Int) (s103 : List UInt8) (i109 : Int) : Option CV :=
  hold (loopC (E2 lb n 2 995) 2 (loopTemps (sub (B F_slices_IndexFunc_journal_Record) [1, 0, 1, 0, 0]) ++ [5]) [] (sub (B F_slices_IndexFunc_journal_Record) [1, 0, 1, 0, 0]) (blockK 0 (seqK (E2 lb n 2 998) (sub (B F_slices_IndexFunc_journal_Record) [1, 0]) (sub (B F_slices_IndexFunc_journal_Record) [1, 1]) (retK Tryd.prog (R F_slices_IndexFunc_journal_Record) 2 (inlK (opAt (opsOf (sub (B F_journal_Log_Records) [1, 1, 0])) 5) ⟨fr 23 [(0, .ptr 0 109 0), (1, .val (.int .i64 (-5))), (3, .ptr 1 3 0), (4, .lst true true 34 []), (8, .ptr 0 109 0), (9, .ptr 0 109 0), (10, .ptr 0 109 0), (11, .val (.list b101 l102)), (12, .clo F_journal_Log_Records_1 [.ptr 1 3 0])], [bx 110 [(10, some [.val (.int .i64 0), .val (.str []), .val (.int .i64 0)]), (109, some [.lst true b101 34 l102, .val (.bool true)])], bx 23 [(3, some [.val (.int .i64 (-5))])]], KK⟩ (opsK Tryd.prog (C lb n) (I8 lb n) 1 (opsOf (sub (B F_journal_Log_Records) [1, 1, 0])) ((opsOf (sub (B F_journal_Log_Records) [1, 1, 0])).drop 6) ((seqK (E1 lb n 1 997) (sub (B F_journal_Log_Records) [1, 1, 0]) (sub (B F_journal_Log_Records) [1, 1, 1]) (retK Tryd.prog (R F_journal_Log_Records) 1 (inlK (opAt (opsOf (sub (B F_l36_JournalAdds) [1, 1, 1, 1, 1, 1, 0, 0])) 4) ⟨fr 109 [(0, .val (.list an1 a2)), (1, .val (.int .i64 b3)), (4, .val (.bool false)), (5, .ptr 0 109 0), (6, .val r7), (7, .val (.int .i64 i100)), (10, .ptr 0 10 0), (11, .val (.int .i64 4)), (19, .ptr 0 109 0), (20, .val (.list an1 a2)), (21, .val r7), (47, .val (.tup [.agg [.int .i64 0, .str [], .int .i64 0], .int .i64 4])), (48, .ptr 0 109 0), (49, .lst true false 5 (List.replicate 65537 [.int .u8 0])), (50, .val (.str s103)), (51, .val (.tup [.agg [.int .i64 0, .str [], .int .i64 0], .int .i64 4])), (52, .val (.agg [.int .i64 0, .str [], .int .i64 0])), (53, .val (.int .i64 4)), (54, .val (.int .i64 4)), (55, .val (.bool false)), (56, .val (.bool false)), (57, .ptr 0 109 0)], [bx 110 [(10, some [.val (.int .i64 0), .val (.str []), .val (.int .i64 0)]), (109, some [.lst true b101 34 l102, .val (.bool true)])]], KK⟩ (opsK Tryd.prog (C lb n) (I9 lb n) 0 (opsOf (sub (B F_l36_JournalAdds) [1, 1, 1, 1, 1, 1, 0, 0])) ((opsOf (sub (B F_l36_JournalAdds) [1, 1, 1, 1, 1, 1, 0, 0])).drop 5) ((seqK (E0 lb n 0 992) (sub (B F_l36_JournalAdds) [1, 1, 1, 1, 1, 1, 0, 0]) (sub (B F_l36_JournalAdds) [1, 1, 1, 1, 1, 1, 0, 1]) (seqK (E0 lb n 0 993) (sub (B F_l36_JournalAdds) [1, 1, 1, 1, 1, 1, 0]) (sub (B F_l36_JournalAdds) [1, 1, 1, 1, 1, 1, 1]) (retK Tryd.prog (R F_l36_JournalAdds) 0 (outK (tightF Tryd.prog F_l36_JournalAdds))))) .normal))))) .normal)))))) k115 ⟨fr 19 [(0, .val (.list b101 l102)), (1, .clo F_journal_Log_Records_1 [.ptr 1 3 0]), (4, .val (.int .i64 0)), (6, .val (.list b101 l102)), (7, .val (.int .i64 (l102.length : Int))), (8, .val (.int .i64 i109))], [bx 110 [(10, some [.val (.int .i64 0), .val (.str []), .val (.int .i64 0)]), (109, some [.lst true b101 34 l102, .val (.bool true)])], bx 23 [(3, some [.val (.int .i64 (-5))])], bx 19 []], KK⟩)

noncomputable def l36_JournalAdds_L4 (lb : Bool) (n : Nat) (k150 : Nat) (an1 : Bool) (a2 : List (List CV)) (b3 : Int) (r7 : CV) (i100 : Int) (s103 : List UInt8) (b101 : Bool) (l102 : List (List CV)) (b137 : Bool) (l138 : List (List CV)) (i139 : Int) : Option CV :=
  hold (loopC (E0 lb n 0 988) 0 (loopTemps (sub (B F_l36_JournalAdds) [1, 1, 1, 1, 1, 1, 1, 1, 0, 1, 0, 0]) ++ []) [] (sub (B F_l36_JournalAdds) [1, 1, 1, 1, 1, 1, 1, 1, 0, 1, 0, 0]) (blockK 2 (seqK (E0 lb n 0 991) (sub (B F_l36_JournalAdds) [1, 1, 1, 1, 1, 1, 1, 1, 0]) (sub (B F_l36_JournalAdds) [1, 1, 1, 1, 1, 1, 1, 1, 1]) (retK Tryd.prog (R F_l36_JournalAdds) 0 (outK (tightF Tryd.prog F_l36_JournalAdds))))) k150 ⟨fr 109 [(0, .val (.list an1 a2)), (1, .val (.int .i64 b3)), (4, .val (.bool false)), (5, .ptr 0 109 0), (6, .val r7), (7, .val (.int .i64 i100)), (10, .ptr 0 10 0), (11, .val (.int .i64 4)), (12, .lst true b137 37 l138), (13, .val (.int .i64 i139)), (19, .ptr 0 109 0), (20, .val (.list an1 a2)), (21, .val r7), (47, .val (.tup [.agg [.int .i64 0, .str [], .int .i64 0], .int .i64 4])), (48, .ptr 0 109 0), (49, .lst true false 5 (List.replicate 65537 [.int .u8 0])), (50, .val (.str s103)), (51, .val (.tup [.agg [.int .i64 0, .str [], .int .i64 0], .int .i64 4])), (52, .val (.agg [.int .i64 0, .str [], .int .i64 0])), (53, .val (.int .i64 4))], [bx 110 [(10, some [.val (.int .i64 0), .val (.str []), .val (.int .i64 0)]), (109, some [.lst true b101 34 l102, .val (.bool true)])]], KK⟩)

noncomputable def l36_JournalAdds_J5 (lb : Bool) (n : Nat) (an1 : Bool) (a2 : List (List CV)) (b3 : Int) (r7 : CV) (i100 : Int) (s103 : List UInt8) (b101 : Bool) (l102 : List (List CV)) (b161 : Bool) (l162 : List (List CV)) (i163 : Int) : Option CV :=
  hold (E0 lb n 0 991 (sub (B F_l36_JournalAdds) [1, 1, 1, 1, 1, 1, 1, 1, 1]) (retK Tryd.prog (R F_l36_JournalAdds) 0 (outK (tightF Tryd.prog F_l36_JournalAdds))) ⟨fr 109 [(0, .val (.list an1 a2)), (1, .val (.int .i64 b3)), (4, .val (.bool false)), (5, .ptr 0 109 0), (6, .val r7), (7, .val (.int .i64 i100)), (10, .ptr 0 10 0), (11, .val (.int .i64 4)), (12, .lst true b161 37 l162), (13, .val (.int .i64 i163)), (19, .ptr 0 109 0), (20, .val (.list an1 a2)), (21, .val r7), (47, .val (.tup [.agg [.int .i64 0, .str [], .int .i64 0], .int .i64 4])), (48, .ptr 0 109 0), (49, .lst true false 5 (List.replicate 65537 [.int .u8 0])), (50, .val (.str s103)), (51, .val (.tup [.agg [.int .i64 0, .str [], .int .i64 0], .int .i64 4])), (52, .val (.agg [.int .i64 0, .str [], .int .i64 0])), (53, .val (.int .i64 4))], [bx 110 [(10, some [.val (.int .i64 0), .val (.str []), .val (.int .i64 0)]), (109, some [.lst true b101 34 l102, .val (.bool true)])]], KK⟩)

noncomputable def l36_JournalAdds_L6 (lb : Bool) (n : Nat) (k175 : Nat) (b101 : Bool) (l102 : List (List CV)) (an1 : Bool) (a2 : List (List CV)) (b3 : Int) (r7 : CV) (i100 : Int) (b161 : Bool) (l162 : List (List CV)) (i163 : Int) (s103 : List UInt8) (i169 : Int) : Option CV :=
  hold (loopC (E2 lb n 2 995) 2 (loopTemps (sub (B F_slices_IndexFunc_journal_Record) [1, 0, 1, 0, 0]) ++ [5]) [] (sub (B F_slices_IndexFunc_journal_Record) [1, 0, 1, 0, 0]) (blockK 0 (seqK (E2 lb n 2 998) (sub (B F_slices_IndexFunc_journal_Record) [1, 0]) (sub (B F_slices_IndexFunc_journal_Record) [1, 1]) (retK Tryd.prog (R F_slices_IndexFunc_journal_Record) 2 (inlK (opAt (opsOf (sub (B F_journal_Log_Records) [1, 1, 0])) 5) ⟨fr 23 [(0, .ptr 0 109 0), (1, .val (.int .i64 1)), (3, .ptr 1 3 0), (4, .lst true true 34 []), (8, .ptr 0 109 0), (9, .ptr 0 109 0), (10, .ptr 0 109 0), (11, .val (.list b101 l102)), (12, .clo F_journal_Log_Records_1 [.ptr 1 3 0])], [bx 110 [(10, some [.val (.int .i64 0), .val (.str []), .val (.int .i64 0)]), (109, some [.lst true b101 34 l102, .val (.bool true)])], bx 23 [(3, some [.val (.int .i64 1)])]], KK⟩ (opsK Tryd.prog (C lb n) (I8 lb n) 1 (opsOf (sub (B F_journal_Log_Records) [1, 1, 0])) ((opsOf (sub (B F_journal_Log_Records) [1, 1, 0])).drop 6) ((seqK (E1 lb n 1 997) (sub (B F_journal_Log_Records) [1, 1, 0]) (sub (B F_journal_Log_Records) [1, 1, 1]) (retK Tryd.prog (R F_journal_Log_Records) 1 (inlK (opAt (opsOf (sub (B F_l36_JournalAdds) [1, 1, 1, 1, 1, 1, 1, 1, 1, 0])) 1) ⟨fr 109 [(0, .val (.list an1 a2)), (1, .val (.int .i64 b3)), (4, .val (.bool false)), (5, .ptr 0 109 0), (6, .val r7), (7, .val (.int .i64 i100)), (10, .ptr 0 10 0), (11, .val (.int .i64 4)), (12, .lst true b161 37 l162), (13, .val (.int .i64 i163)), (19, .ptr 0 109 0), (20, .val (.list an1 a2)), (21, .val r7), (47, .val (.tup [.agg [.int .i64 0, .str [], .int .i64 0], .int .i64 4])), (48, .ptr 0 109 0), (49, .lst true false 5 (List.replicate 65537 [.int .u8 0])), (50, .val (.str s103)), (51, .val (.tup [.agg [.int .i64 0, .str [], .int .i64 0], .int .i64 4])), (52, .val (.agg [.int .i64 0, .str [], .int .i64 0])), (53, .val (.int .i64 4)), (85, .ptr 0 109 0)], [bx 110 [(10, some [.val (.int .i64 0), .val (.str []), .val (.int .i64 0)]), (109, some [.lst true b101 34 l102, .val (.bool true)])]], KK⟩ (opsK Tryd.prog (C lb n) (I9 lb n) 0 (opsOf (sub (B F_l36_JournalAdds) [1, 1, 1, 1, 1, 1, 1, 1, 1, 0])) ((opsOf (sub (B F_l36_JournalAdds) [1, 1, 1, 1, 1, 1, 1, 1, 1, 0])).drop 2) ((seqK (E0 lb n 0 990) (sub (B F_l36_JournalAdds) [1, 1, 1, 1, 1, 1, 1, 1, 1, 0]) (sub (B F_l36_JournalAdds) [1, 1, 1, 1, 1, 1, 1, 1, 1, 1]) (retK Tryd.prog (R F_l36_JournalAdds) 0 (outK (tightF Tryd.prog F_l36_JournalAdds)))) .normal))))) .normal)))))) k175 ⟨fr 19 [(0, .val (.list b101 l102)), (1, .clo F_journal_Log_Records_1 [.ptr 1 3 0]), (4, .val (.int .i64 0)), (6, .val (.list b101 l102)), (7, .val (.int .i64 (l102.length : Int))), (8, .val (.int .i64 i169))], [bx 110 [(10, some [.val (.int .i64 0), .val (.str []), .val (.int .i64 0)]), (109, some [.lst true b101 34 l102, .val (.bool true)])], bx 23 [(3, some [.val (.int .i64 1)])], bx 19 []], KK⟩)

noncomputable def l36_JournalAdds_L7 (lb : Bool) (n : Nat) (k197 : Nat) (b3 : Int) (b101 : Bool) (l102 : List (List CV)) (an1 : Bool) (a2 : List (List CV)) (r7 : CV) (i100 : Int) (b161 : Bool) (l162 : List (List CV)) (i163 : Int) (x183 : CV) (x185 : CV) (s103 : List UInt8) (r181 : CV) (i191 : Int) : Option CV :=
  hold (loopC (E2 lb n 2 995) 2 (loopTemps (sub (B F_slices_IndexFunc_journal_Record) [1, 0, 1, 0, 0]) ++ [5]) [] (sub (B F_slices_IndexFunc_journal_Record) [1, 0, 1, 0, 0]) (blockK 0 (seqK (E2 lb n 2 998) (sub (B F_slices_IndexFunc_journal_Record) [1, 0]) (sub (B F_slices_IndexFunc_journal_Record) [1, 1]) (retK Tryd.prog (R F_slices_IndexFunc_journal_Record) 2 (inlK (opAt (opsOf (sub (B F_journal_Log_Records) [1, 1, 0])) 5) ⟨fr 23 [(0, .ptr 0 109 0), (1, .val (.int .i64 b3)), (3, .ptr 1 3 0), (4, .lst true true 34 []), (8, .ptr 0 109 0), (9, .ptr 0 109 0), (10, .ptr 0 109 0), (11, .val (.list b101 l102)), (12, .clo F_journal_Log_Records_1 [.ptr 1 3 0])], [bx 110 [(10, some [.val (.int .i64 0), .val (.str []), .val (.int .i64 0)]), (109, some [.lst true b101 34 l102, .val (.bool true)])], bx 23 [(3, some [.val (.int .i64 b3)])]], KK⟩ (opsK Tryd.prog (C lb n) (I8 lb n) 1 (opsOf (sub (B F_journal_Log_Records) [1, 1, 0])) ((opsOf (sub (B F_journal_Log_Records) [1, 1, 0])).drop 6) ((seqK (E1 lb n 1 997) (sub (B F_journal_Log_Records) [1, 1, 0]) (sub (B F_journal_Log_Records) [1, 1, 1]) (retK Tryd.prog (R F_journal_Log_Records) 1 (inlK (opAt (opsOf (sub (B F_l36_JournalAdds) [1, 1, 1, 1, 1, 1, 1, 1, 1, 1, 0])) 2) ⟨fr 109 [(0, .val (.list an1 a2)), (1, .val (.int .i64 b3)), (4, .val (.bool false)), (5, .ptr 0 109 0), (6, .val r7), (7, .val (.int .i64 i100)), (10, .ptr 0 10 0), (11, .val (.int .i64 4)), (12, .lst true b161 37 l162), (13, .val (.int .i64 i163)), (14, .val x183), (15, .val x185), (19, .ptr 0 109 0), (20, .val (.list an1 a2)), (21, .val r7), (47, .val (.tup [.agg [.int .i64 0, .str [], .int .i64 0], .int .i64 4])), (48, .ptr 0 109 0), (49, .lst true false 5 (List.replicate 65537 [.int .u8 0])), (50, .val (.str s103)), (51, .val (.tup [.agg [.int .i64 0, .str [], .int .i64 0], .int .i64 4])), (52, .val (.agg [.int .i64 0, .str [], .int .i64 0])), (53, .val (.int .i64 4)), (84, .val r181), (85, .ptr 0 109 0), (86, .val (.list true [])), (87, .val r181), (88, .val x183), (89, .val x185), (90, .ptr 0 109 0), (91, .val (.int .i64 b3))], [bx 110 [(10, some [.val (.int .i64 0), .val (.str []), .val (.int .i64 0)]), (109, some [.lst true b101 34 l102, .val (.bool true)])]], KK⟩ (opsK Tryd.prog (C lb n) (I9 lb n) 0 (opsOf (sub (B F_l36_JournalAdds) [1, 1, 1, 1, 1, 1, 1, 1, 1, 1, 0])) ((opsOf (sub (B F_l36_JournalAdds) [1, 1, 1, 1, 1, 1, 1, 1, 1, 1, 0])).drop 3) ((seqK (E0 lb n 0 989) (sub (B F_l36_JournalAdds) [1, 1, 1, 1, 1, 1, 1, 1, 1, 1, 0]) (sub (B F_l36_JournalAdds) [1, 1, 1, 1, 1, 1, 1, 1, 1, 1, 1]) (retK Tryd.prog (R F_l36_JournalAdds) 0 (outK (tightF Tryd.prog F_l36_JournalAdds)))) .normal))))) .normal)))))) k197 ⟨fr 19 [(0, .val (.list b101 l102)), (1, .clo F_journal_Log_Records_1 [.ptr 1 3 0]), (4, .val (.int .i64 0)), (6, .val (.list b101 l102)), (7, .val (.int .i64 (l102.length : Int))), (8, .val (.int .i64 i191))], [bx 110 [(10, some [.val (.int .i64 0), .val (.str []), .val (.int .i64 0)]), (109, some [.lst true b101 34 l102, .val (.bool true)])], bx 23 [(3, some [.val (.int .i64 b3)])], bx 19 []], KK⟩)

noncomputable def l36_JournalAdds_J8 (lb : Bool) (n : Nat) (b3 : Int) (b101 : Bool) (l102 : List (List CV)) (an1 : Bool) (a2 : List (List CV)) (r7 : CV) (i100 : Int) (b161 : Bool) (l162 : List (List CV)) (i163 : Int) (x183 : CV) (x185 : CV) (s103 : List UInt8) (r181 : CV) : Option CV :=
  hold (E2 lb n 2 998 (sub (B F_slices_IndexFunc_journal_Record) [1, 1]) (retK Tryd.prog (R F_slices_IndexFunc_journal_Record) 2 (inlK (opAt (opsOf (sub (B F_journal_Log_Records) [1, 1, 0])) 5) ⟨fr 23 [(0, .ptr 0 109 0), (1, .val (.int .i64 b3)), (3, .ptr 1 3 0), (4, .lst true true 34 []), (8, .ptr 0 109 0), (9, .ptr 0 109 0), (10, .ptr 0 109 0), (11, .val (.list b101 l102)), (12, .clo F_journal_Log_Records_1 [.ptr 1 3 0])], [bx 110 [(10, some [.val (.int .i64 0), .val (.str []), .val (.int .i64 0)]), (109, some [.lst true b101 34 l102, .val (.bool true)])], bx 23 [(3, some [.val (.int .i64 b3)])]], KK⟩ (opsK Tryd.prog (C lb n) (I8 lb n) 1 (opsOf (sub (B F_journal_Log_Records) [1, 1, 0])) ((opsOf (sub (B F_journal_Log_Records) [1, 1, 0])).drop 6) ((seqK (E1 lb n 1 997) (sub (B F_journal_Log_Records) [1, 1, 0]) (sub (B F_journal_Log_Records) [1, 1, 1]) (retK Tryd.prog (R F_journal_Log_Records) 1 (inlK (opAt (opsOf (sub (B F_l36_JournalAdds) [1, 1, 1, 1, 1, 1, 1, 1, 1, 1, 0])) 2) ⟨fr 109 [(0, .val (.list an1 a2)), (1, .val (.int .i64 b3)), (4, .val (.bool false)), (5, .ptr 0 109 0), (6, .val r7), (7, .val (.int .i64 i100)), (10, .ptr 0 10 0), (11, .val (.int .i64 4)), (12, .lst true b161 37 l162), (13, .val (.int .i64 i163)), (14, .val x183), (15, .val x185), (19, .ptr 0 109 0), (20, .val (.list an1 a2)), (21, .val r7), (47, .val (.tup [.agg [.int .i64 0, .str [], .int .i64 0], .int .i64 4])), (48, .ptr 0 109 0), (49, .lst true false 5 (List.replicate 65537 [.int .u8 0])), (50, .val (.str s103)), (51, .val (.tup [.agg [.int .i64 0, .str [], .int .i64 0], .int .i64 4])), (52, .val (.agg [.int .i64 0, .str [], .int .i64 0])), (53, .val (.int .i64 4)), (84, .val r181), (85, .ptr 0 109 0), (86, .val (.list true [])), (87, .val r181), (88, .val x183), (89, .val x185), (90, .ptr 0 109 0), (91, .val (.int .i64 b3))], [bx 110 [(10, some [.val (.int .i64 0), .val (.str []), .val (.int .i64 0)]), (109, some [.lst true b101 34 l102, .val (.bool true)])]], KK⟩ (opsK Tryd.prog (C lb n) (I9 lb n) 0 (opsOf (sub (B F_l36_JournalAdds) [1, 1, 1, 1, 1, 1, 1, 1, 1, 1, 0])) ((opsOf (sub (B F_l36_JournalAdds) [1, 1, 1, 1, 1, 1, 1, 1, 1, 1, 0])).drop 3) ((seqK (E0 lb n 0 989) (sub (B F_l36_JournalAdds) [1, 1, 1, 1, 1, 1, 1, 1, 1, 1, 0]) (sub (B F_l36_JournalAdds) [1, 1, 1, 1, 1, 1, 1, 1, 1, 1, 1]) (retK Tryd.prog (R F_l36_JournalAdds) 0 (outK (tightF Tryd.prog F_l36_JournalAdds)))) .normal))))) .normal)))) ⟨fr 19 [(0, .val (.list b101 l102)), (1, .clo F_journal_Log_Records_1 [.ptr 1 3 0]), (4, .val (.int .i64 0))], [bx 110 [(10, some [.val (.int .i64 0), .val (.str []), .val (.int .i64 0)]), (109, some [.lst true b101 34 l102, .val (.bool true)])], bx 23 [(3, some [.val (.int .i64 b3)])], bx 19 []], KK⟩)

theorem l36_JournalAdds_J8_eq (lb : Bool) (n : Nat) (b3 : Int) (b101 : Bool) (l102 : List (List CV)) (an1 : Bool) (a2 : List (List CV)) (r7 : CV) (i100 : Int) (b161 : Bool) (l162 : List (List CV)) (i163 : Int) (x183 : CV) (x185 : CV) (s103 : List UInt8) (r181 : CV) :
  l36_JournalAdds_J8 lb n b3 b101 l102 an1 a2 r7 i100 b161 l162 i163 x183 x185 s103 r181 =
 optO (C lb n F_l36_from [.list true []]) fun r218 =>
 optO (C lb n F_r36_Same [r218, .list b161 l162]) fun r219 =>
 optO (CV.asB r219) fun b220 =>
 bif b220 then
 (optO (CV.asL r7) fun p221 =>
 optO (CV.asI .i64 x183) fun i222 =>
 bif (i222 == (p221.2.length : Int)) then
 (optO (CV.asI .i64 x185) fun i223 =>
 bif (i223 == 0) then
 (optO (C lb n F_l36_awake []) fun r224 =>
 some (r224))
 else
 (some (.bool false)))
 else
 (some (.bool false)))
 else
 (some (.bool false)) := (hold_eq _).trans (by kernel_rfl)

theorem l36_JournalAdds_L7_succ (lb : Bool) (n k197 : Nat) (b3 : Int) (b101 : Bool) (l102 : List (List CV)) (an1 : Bool) (a2 : List (List CV)) (r7 : CV) (i100 : Int) (b161 : Bool) (l162 : List (List CV)) (i163 : Int) (x183 : CV) (x185 : CV) (s103 : List UInt8) (r181 : CV) (i191 : Int) :
  l36_JournalAdds_L7 lb n (k197 + 1) b3 b101 l102 an1 a2 r7 i100 b161 l162 i163 x183 x185 s103 r181 i191 =
 bif (decide (i191 < (l102.length : Int))) then
 (optO (atL l102 i191) fun c198 =>
 chkO (c198.length == 3) (
 optO (c198[0]?) fun x199 =>
 optO (c198[1]?) fun x200 =>
 optO (c198[2]?) fun x201 =>
 optO (CV.asI .i64 x199) fun i202 =>
 bif (decide (i202 ≥ b3)) then
 (bif (decide (i191 < 0)) then
 (optO (C lb n F_l36_from [.list true []]) fun r203 =>
 optO (C lb n F_r36_Same [r203, .list b161 l162]) fun r204 =>
 optO (CV.asB r204) fun b205 =>
 bif b205 then
 (optO (CV.asL r7) fun p206 =>
 optO (CV.asI .i64 x183) fun i207 =>
 bif (i207 == (p206.2.length : Int)) then
 (optO (CV.asI .i64 x185) fun i208 =>
 bif (i208 == 0) then
 (optO (C lb n F_l36_awake []) fun r209 =>
 some (r209))
 else
 (some (.bool false)))
 else
 (some (.bool false)))
 else
 (some (.bool false)))
 else
 (chkO (l102.all (·.length == 3)) (
 chkO (decide ((0 : Int) ≤ i191 ∧ i191 ≤ (l102.length : Int))) (
 optO (C lb n F_slices_Clone_journal_Record [.list b101 ((l102.take ((l102.length : Int).toNat)).drop i191.toNat)]) fun r210 =>
 optO (C lb n F_l36_from [r210]) fun r211 =>
 optO (C lb n F_r36_Same [r211, .list b161 l162]) fun r212 =>
 optO (CV.asB r212) fun b213 =>
 bif b213 then
 (optO (CV.asL r7) fun p214 =>
 optO (CV.asI .i64 x183) fun i215 =>
 bif (i215 == (p214.2.length : Int)) then
 (optO (CV.asI .i64 x185) fun i216 =>
 bif (i216 == 0) then
 (optO (C lb n F_l36_awake []) fun r217 =>
 some (r217))
 else
 (some (.bool false)))
 else
 (some (.bool false)))
 else
 (some (.bool false))))))
 else
 (l36_JournalAdds_L7 lb n k197 b3 b101 l102 an1 a2 r7 i100 b161 l162 i163 x183 x185 s103 r181 (IntKind.wrap .i64 (i191 + 1)))))
 else
 (l36_JournalAdds_J8 lb n b3 b101 l102 an1 a2 r7 i100 b161 l162 i163 x183 x185 s103 r181 ) := (hold_eq _).trans (by kernel_rfl)

theorem l36_JournalAdds_L7_zero (lb : Bool) (n : Nat) (b3 : Int) (b101 : Bool) (l102 : List (List CV)) (an1 : Bool) (a2 : List (List CV)) (r7 : CV) (i100 : Int) (b161 : Bool) (l162 : List (List CV)) (i163 : Int) (x183 : CV) (x185 : CV) (s103 : List UInt8) (r181 : CV) (i191 : Int) :
  l36_JournalAdds_L7 lb n 0 b3 b101 l102 an1 a2 r7 i100 b161 l162 i163 x183 x185 s103 r181 i191 =
 none := (hold_eq _).trans (by kernel_rfl)

noncomputable def l36_JournalAdds_L9 (lb : Bool) (n : Nat) (k242 : Nat) (b3 : Int) (b101 : Bool) (l102 : List (List CV)) (an1 : Bool) (a2 : List (List CV)) (r7 : CV) (i100 : Int) (b161 : Bool) (l162 : List (List CV)) (i163 : Int) (x228 : CV) (x230 : CV) (s103 : List UInt8) (r226 : CV) (r225 : CV) (i236 : Int) : Option CV :=
  hold (loopC (E2 lb n 2 995) 2 (loopTemps (sub (B F_slices_IndexFunc_journal_Record) [1, 0, 1, 0, 0]) ++ [5]) [] (sub (B F_slices_IndexFunc_journal_Record) [1, 0, 1, 0, 0]) (blockK 0 (seqK (E2 lb n 2 998) (sub (B F_slices_IndexFunc_journal_Record) [1, 0]) (sub (B F_slices_IndexFunc_journal_Record) [1, 1]) (retK Tryd.prog (R F_slices_IndexFunc_journal_Record) 2 (inlK (opAt (opsOf (sub (B F_journal_Log_Records) [1, 1, 0])) 5) ⟨fr 23 [(0, .ptr 0 109 0), (1, .val (.int .i64 b3)), (3, .ptr 1 3 0), (4, .lst true true 34 []), (8, .ptr 0 109 0), (9, .ptr 0 109 0), (10, .ptr 0 109 0), (11, .val (.list b101 l102)), (12, .clo F_journal_Log_Records_1 [.ptr 1 3 0])], [bx 110 [(10, some [.val (.int .i64 0), .val (.str []), .val (.int .i64 0)]), (109, some [.lst true b101 34 l102, .val (.bool true)])], bx 23 [(3, some [.val (.int .i64 b3)])]], KK⟩ (opsK Tryd.prog (C lb n) (I8 lb n) 1 (opsOf (sub (B F_journal_Log_Records) [1, 1, 0])) ((opsOf (sub (B F_journal_Log_Records) [1, 1, 0])).drop 6) ((seqK (E1 lb n 1 997) (sub (B F_journal_Log_Records) [1, 1, 0]) (sub (B F_journal_Log_Records) [1, 1, 1]) (retK Tryd.prog (R F_journal_Log_Records) 1 (inlK (opAt (opsOf (sub (B F_l36_JournalAdds) [1, 1, 1, 1, 1, 1, 1, 1, 1, 1, 0])) 2) ⟨fr 109 [(0, .val (.list an1 a2)), (1, .val (.int .i64 b3)), (4, .val (.bool false)), (5, .ptr 0 109 0), (6, .val r7), (7, .val (.int .i64 i100)), (10, .ptr 0 10 0), (11, .val (.int .i64 4)), (12, .lst true b161 37 l162), (13, .val (.int .i64 i163)), (14, .val x228), (15, .val x230), (19, .ptr 0 109 0), (20, .val (.list an1 a2)), (21, .val r7), (47, .val (.tup [.agg [.int .i64 0, .str [], .int .i64 0], .int .i64 4])), (48, .ptr 0 109 0), (49, .lst true false 5 (List.replicate 65537 [.int .u8 0])), (50, .val (.str s103)), (51, .val (.tup [.agg [.int .i64 0, .str [], .int .i64 0], .int .i64 4])), (52, .val (.agg [.int .i64 0, .str [], .int .i64 0])), (53, .val (.int .i64 4)), (84, .val r226), (85, .ptr 0 109 0), (86, .val r225), (87, .val r226), (88, .val x228), (89, .val x230), (90, .ptr 0 109 0), (91, .val (.int .i64 b3))], [bx 110 [(10, some [.val (.int .i64 0), .val (.str []), .val (.int .i64 0)]), (109, some [.lst true b101 34 l102, .val (.bool true)])]], KK⟩ (opsK Tryd.prog (C lb n) (I9 lb n) 0 (opsOf (sub (B F_l36_JournalAdds) [1, 1, 1, 1, 1, 1, 1, 1, 1, 1, 0])) ((opsOf (sub (B F_l36_JournalAdds) [1, 1, 1, 1, 1, 1, 1, 1, 1, 1, 0])).drop 3) ((seqK (E0 lb n 0 989) (sub (B F_l36_JournalAdds) [1, 1, 1, 1, 1, 1, 1, 1, 1, 1, 0]) (sub (B F_l36_JournalAdds) [1, 1, 1, 1, 1, 1, 1, 1, 1, 1, 1]) (retK Tryd.prog (R F_l36_JournalAdds) 0 (outK (tightF Tryd.prog F_l36_JournalAdds)))) .normal))))) .normal)))))) k242 ⟨fr 19 [(0, .val (.list b101 l102)), (1, .clo F_journal_Log_Records_1 [.ptr 1 3 0]), (4, .val (.int .i64 0)), (6, .val (.list b101 l102)), (7, .val (.int .i64 (l102.length : Int))), (8, .val (.int .i64 i236))], [bx 110 [(10, some [.val (.int .i64 0), .val (.str []), .val (.int .i64 0)]), (109, some [.lst true b101 34 l102, .val (.bool true)])], bx 23 [(3, some [.val (.int .i64 b3)])], bx 19 []], KK⟩)

noncomputable def l36_JournalAdds_J10 (lb : Bool) (n : Nat) (b3 : Int) (b101 : Bool) (l102 : List (List CV)) (an1 : Bool) (a2 : List (List CV)) (r7 : CV) (i100 : Int) (b161 : Bool) (l162 : List (List CV)) (i163 : Int) (x228 : CV) (x230 : CV) (s103 : List UInt8) (r226 : CV) (r225 : CV) : Option CV :=
  hold (E2 lb n 2 998 (sub (B F_slices_IndexFunc_journal_Record) [1, 1]) (retK Tryd.prog (R F_slices_IndexFunc_journal_Record) 2 (inlK (opAt (opsOf (sub (B F_journal_Log_Records) [1, 1, 0])) 5) ⟨fr 23 [(0, .ptr 0 109 0), (1, .val (.int .i64 b3)), (3, .ptr 1 3 0), (4, .lst true true 34 []), (8, .ptr 0 109 0), (9, .ptr 0 109 0), (10, .ptr 0 109 0), (11, .val (.list b101 l102)), (12, .clo F_journal_Log_Records_1 [.ptr 1 3 0])], [bx 110 [(10, some [.val (.int .i64 0), .val (.str []), .val (.int .i64 0)]), (109, some [.lst true b101 34 l102, .val (.bool true)])], bx 23 [(3, some [.val (.int .i64 b3)])]], KK⟩ (opsK Tryd.prog (C lb n) (I8 lb n) 1 (opsOf (sub (B F_journal_Log_Records) [1, 1, 0])) ((opsOf (sub (B F_journal_Log_Records) [1, 1, 0])).drop 6) ((seqK (E1 lb n 1 997) (sub (B F_journal_Log_Records) [1, 1, 0]) (sub (B F_journal_Log_Records) [1, 1, 1]) (retK Tryd.prog (R F_journal_Log_Records) 1 (inlK (opAt (opsOf (sub (B F_l36_JournalAdds) [1, 1, 1, 1, 1, 1, 1, 1, 1, 1, 0])) 2) ⟨fr 109 [(0, .val (.list an1 a2)), (1, .val (.int .i64 b3)), (4, .val (.bool false)), (5, .ptr 0 109 0), (6, .val r7), (7, .val (.int .i64 i100)), (10, .ptr 0 10 0), (11, .val (.int .i64 4)), (12, .lst true b161 37 l162), (13, .val (.int .i64 i163)), (14, .val x228), (15, .val x230), (19, .ptr 0 109 0), (20, .val (.list an1 a2)), (21, .val r7), (47, .val (.tup [.agg [.int .i64 0, .str [], .int .i64 0], .int .i64 4])), (48, .ptr 0 109 0), (49, .lst true false 5 (List.replicate 65537 [.int .u8 0])), (50, .val (.str s103)), (51, .val (.tup [.agg [.int .i64 0, .str [], .int .i64 0], .int .i64 4])), (52, .val (.agg [.int .i64 0, .str [], .int .i64 0])), (53, .val (.int .i64 4)), (84, .val r226), (85, .ptr 0 109 0), (86, .val r225), (87, .val r226), (88, .val x228), (89, .val x230), (90, .ptr 0 109 0), (91, .val (.int .i64 b3))], [bx 110 [(10, some [.val (.int .i64 0), .val (.str []), .val (.int .i64 0)]), (109, some [.lst true b101 34 l102, .val (.bool true)])]], KK⟩ (opsK Tryd.prog (C lb n) (I9 lb n) 0 (opsOf (sub (B F_l36_JournalAdds) [1, 1, 1, 1, 1, 1, 1, 1, 1, 1, 0])) ((opsOf (sub (B F_l36_JournalAdds) [1, 1, 1, 1, 1, 1, 1, 1, 1, 1, 0])).drop 3) ((seqK (E0 lb n 0 989) (sub (B F_l36_JournalAdds) [1, 1, 1, 1, 1, 1, 1, 1, 1, 1, 0]) (sub (B F_l36_JournalAdds) [1, 1, 1, 1, 1, 1, 1, 1, 1, 1, 1]) (retK Tryd.prog (R F_l36_JournalAdds) 0 (outK (tightF Tryd.prog F_l36_JournalAdds)))) .normal))))) .normal)))) ⟨fr 19 [(0, .val (.list b101 l102)), (1, .clo F_journal_Log_Records_1 [.ptr 1 3 0]), (4, .val (.int .i64 0))], [bx 110 [(10, some [.val (.int .i64 0), .val (.str []), .val (.int .i64 0)]), (109, some [.lst true b101 34 l102, .val (.bool true)])], bx 23 [(3, some [.val (.int .i64 b3)])], bx 19 []], KK⟩)

theorem l36_JournalAdds_J10_eq (lb : Bool) (n : Nat) (b3 : Int) (b101 : Bool) (l102 : List (List CV)) (an1 : Bool) (a2 : List (List CV)) (r7 : CV) (i100 : Int) (b161 : Bool) (l162 : List (List CV)) (i163 : Int) (x228 : CV) (x230 : CV) (s103 : List UInt8) (r226 : CV) (r225 : CV) :
  l36_JournalAdds_J10 lb n b3 b101 l102 an1 a2 r7 i100 b161 l162 i163 x228 x230 s103 r226 r225 =
 optO (C lb n F_l36_from [.list true []]) fun r263 =>
 optO (C lb n F_r36_Same [r263, .list b161 l162]) fun r264 =>
 optO (CV.asB r264) fun b265 =>
 bif b265 then
 (optO (CV.asL r7) fun p266 =>
 optO (CV.asI .i64 x228) fun i267 =>
 bif (i267 == (p266.2.length : Int)) then
 (optO (CV.asI .i64 x230) fun i268 =>
 bif (i268 == 0) then
 (optO (C lb n F_l36_awake []) fun r269 =>
 some (r269))
 else
 (some (.bool false)))
 else
 (some (.bool false)))
 else
 (some (.bool false)) := (hold_eq _).trans (by kernel_rfl)

theorem l36_JournalAdds_L9_succ (lb : Bool) (n k242 : Nat) (b3 : Int) (b101 : Bool) (l102 : List (List CV)) (an1 : Bool) (a2 : List (List CV)) (r7 : CV) (i100 : Int) (b161 : Bool) (l162 : List (List CV)) (i163 : Int) (x228 : CV) (x230 : CV) (s103 : List UInt8) (r226 : CV) (r225 : CV) (i236 : Int) :
  l36_JournalAdds_L9 lb n (k242 + 1) b3 b101 l102 an1 a2 r7 i100 b161 l162 i163 x228 x230 s103 r226 r225 i236 =
 bif (decide (i236 < (l102.length : Int))) then
 (optO (atL l102 i236) fun c243 =>
 chkO (c243.length == 3) (
 optO (c243[0]?) fun x244 =>
 optO (c243[1]?) fun x245 =>
 optO (c243[2]?) fun x246 =>
 optO (CV.asI .i64 x244) fun i247 =>
 bif (decide (i247 ≥ b3)) then
 (bif (decide (i236 < 0)) then
 (optO (C lb n F_l36_from [.list true []]) fun r248 =>
 optO (C lb n F_r36_Same [r248, .list b161 l162]) fun r249 =>
 optO (CV.asB r249) fun b250 =>
 bif b250 then
 (optO (CV.asL r7) fun p251 =>
 optO (CV.asI .i64 x228) fun i252 =>
 bif (i252 == (p251.2.length : Int)) then
 (optO (CV.asI .i64 x230) fun i253 =>
 bif (i253 == 0) then
 (optO (C lb n F_l36_awake []) fun r254 =>
 some (r254))
 else
 (some (.bool false)))
 else
 (some (.bool false)))
 else
 (some (.bool false)))
 else
 (chkO (l102.all (·.length == 3)) (
 chkO (decide ((0 : Int) ≤ i236 ∧ i236 ≤ (l102.length : Int))) (
 optO (C lb n F_slices_Clone_journal_Record [.list b101 ((l102.take ((l102.length : Int).toNat)).drop i236.toNat)]) fun r255 =>
 optO (C lb n F_l36_from [r255]) fun r256 =>
 optO (C lb n F_r36_Same [r256, .list b161 l162]) fun r257 =>
 optO (CV.asB r257) fun b258 =>
 bif b258 then
 (optO (CV.asL r7) fun p259 =>
 optO (CV.asI .i64 x228) fun i260 =>
 bif (i260 == (p259.2.length : Int)) then
 (optO (CV.asI .i64 x230) fun i261 =>
 bif (i261 == 0) then
 (optO (C lb n F_l36_awake []) fun r262 =>
 some (r262))
 else
 (some (.bool false)))
 else
 (some (.bool false)))
 else
 (some (.bool false))))))
 else
 (l36_JournalAdds_L9 lb n k242 b3 b101 l102 an1 a2 r7 i100 b161 l162 i163 x228 x230 s103 r226 r225 (IntKind.wrap .i64 (i236 + 1)))))
 else
 (l36_JournalAdds_J10 lb n b3 b101 l102 an1 a2 r7 i100 b161 l162 i163 x228 x230 s103 r226 r225 ) := (hold_eq _).trans (by kernel_rfl)

theorem l36_JournalAdds_L9_zero (lb : Bool) (n : Nat) (b3 : Int) (b101 : Bool) (l102 : List (List CV)) (an1 : Bool) (a2 : List (List CV)) (r7 : CV) (i100 : Int) (b161 : Bool) (l162 : List (List CV)) (i163 : Int) (x228 : CV) (x230 : CV) (s103 : List UInt8) (r226 : CV) (r225 : CV) (i236 : Int) :
  l36_JournalAdds_L9 lb n 0 b3 b101 l102 an1 a2 r7 i100 b161 l162 i163 x228 x230 s103 r226 r225 i236 =
 none := (hold_eq _).trans (by kernel_rfl)

noncomputable def l36_JournalAdds_J11 (lb : Bool) (n : Nat) (b101 : Bool) (l102 : List (List CV)) (an1 : Bool) (a2 : List (List CV)) (b3 : Int) (r7 : CV) (i100 : Int) (b161 : Bool) (l162 : List (List CV)) (i163 : Int) (s103 : List UInt8) : Option CV :=
  hold (E2 lb n 2 998 (sub (B F_slices_IndexFunc_journal_Record) [1, 1]) (retK Tryd.prog (R F_slices_IndexFunc_journal_Record) 2 (inlK (opAt (opsOf (sub (B F_journal_Log_Records) [1, 1, 0])) 5) ⟨fr 23 [(0, .ptr 0 109 0), (1, .val (.int .i64 1)), (3, .ptr 1 3 0), (4, .lst true true 34 []), (8, .ptr 0 109 0), (9, .ptr 0 109 0), (10, .ptr 0 109 0), (11, .val (.list b101 l102)), (12, .clo F_journal_Log_Records_1 [.ptr 1 3 0])], [bx 110 [(10, some [.val (.int .i64 0), .val (.str []), .val (.int .i64 0)]), (109, some [.lst true b101 34 l102, .val (.bool true)])], bx 23 [(3, some [.val (.int .i64 1)])]], KK⟩ (opsK Tryd.prog (C lb n) (I8 lb n) 1 (opsOf (sub (B F_journal_Log_Records) [1, 1, 0])) ((opsOf (sub (B F_journal_Log_Records) [1, 1, 0])).drop 6) ((seqK (E1 lb n 1 997) (sub (B F_journal_Log_Records) [1, 1, 0]) (sub (B F_journal_Log_Records) [1, 1, 1]) (retK Tryd.prog (R F_journal_Log_Records) 1 (inlK (opAt (opsOf (sub (B F_l36_JournalAdds) [1, 1, 1, 1, 1, 1, 1, 1, 1, 0])) 1) ⟨fr 109 [(0, .val (.list an1 a2)), (1, .val (.int .i64 b3)), (4, .val (.bool false)), (5, .ptr 0 109 0), (6, .val r7), (7, .val (.int .i64 i100)), (10, .ptr 0 10 0), (11, .val (.int .i64 4)), (12, .lst true b161 37 l162), (13, .val (.int .i64 i163)), (19, .ptr 0 109 0), (20, .val (.list an1 a2)), (21, .val r7), (47, .val (.tup [.agg [.int .i64 0, .str [], .int .i64 0], .int .i64 4])), (48, .ptr 0 109 0), (49, .lst true false 5 (List.replicate 65537 [.int .u8 0])), (50, .val (.str s103)), (51, .val (.tup [.agg [.int .i64 0, .str [], .int .i64 0], .int .i64 4])), (52, .val (.agg [.int .i64 0, .str [], .int .i64 0])), (53, .val (.int .i64 4)), (85, .ptr 0 109 0)], [bx 110 [(10, some [.val (.int .i64 0), .val (.str []), .val (.int .i64 0)]), (109, some [.lst true b101 34 l102, .val (.bool true)])]], KK⟩ (opsK Tryd.prog (C lb n) (I9 lb n) 0 (opsOf (sub (B F_l36_JournalAdds) [1, 1, 1, 1, 1, 1, 1, 1, 1, 0])) ((opsOf (sub (B F_l36_JournalAdds) [1, 1, 1, 1, 1, 1, 1, 1, 1, 0])).drop 2) ((seqK (E0 lb n 0 990) (sub (B F_l36_JournalAdds) [1, 1, 1, 1, 1, 1, 1, 1, 1, 0]) (sub (B F_l36_JournalAdds) [1, 1, 1, 1, 1, 1, 1, 1, 1, 1]) (retK Tryd.prog (R F_l36_JournalAdds) 0 (outK (tightF Tryd.prog F_l36_JournalAdds)))) .normal))))) .normal)))) ⟨fr 19 [(0, .val (.list b101 l102)), (1, .clo F_journal_Log_Records_1 [.ptr 1 3 0]), (4, .val (.int .i64 0))], [bx 110 [(10, some [.val (.int .i64 0), .val (.str []), .val (.int .i64 0)]), (109, some [.lst true b101 34 l102, .val (.bool true)])], bx 23 [(3, some [.val (.int .i64 1)])], bx 19 []], KK⟩)

theorem l36_JournalAdds_J11_eq (lb : Bool) (n : Nat) (b101 : Bool) (l102 : List (List CV)) (an1 : Bool) (a2 : List (List CV)) (b3 : Int) (r7 : CV) (i100 : Int) (b161 : Bool) (l162 : List (List CV)) (i163 : Int) (s103 : List UInt8) :
  l36_JournalAdds_J11 lb n b101 l102 an1 a2 b3 r7 i100 b161 l162 i163 s103 =
 optO (C lb n F_journal_Verify [.list true []]) fun r270 =>
 optO (CV.asT r270) fun t271 =>
 optO (t271[0]?) fun x272 =>
 optO (CV.asT r270) fun t273 =>
 optO (t273[1]?) fun x274 =>
 l36_JournalAdds_L7 lb n n b3 b101 l102 an1 a2 r7 i100 b161 l162 i163 x272 x274 s103 r270 0 := (hold_eq _).trans (by kernel_rfl)

theorem l36_JournalAdds_L6_succ (lb : Bool) (n k175 : Nat) (b101 : Bool) (l102 : List (List CV)) (an1 : Bool) (a2 : List (List CV)) (b3 : Int) (r7 : CV) (i100 : Int) (b161 : Bool) (l162 : List (List CV)) (i163 : Int) (s103 : List UInt8) (i169 : Int) :
  l36_JournalAdds_L6 lb n (k175 + 1) b101 l102 an1 a2 b3 r7 i100 b161 l162 i163 s103 i169 =
 bif (decide (i169 < (l102.length : Int))) then
 (optO (atL l102 i169) fun c176 =>
 chkO (c176.length == 3) (
 optO (c176[0]?) fun x177 =>
 optO (c176[1]?) fun x178 =>
 optO (c176[2]?) fun x179 =>
 optO (CV.asI .i64 x177) fun i180 =>
 bif (decide (i180 ≥ 1)) then
 (bif (decide (i169 < 0)) then
 (optO (C lb n F_journal_Verify [.list true []]) fun r181 =>
 optO (CV.asT r181) fun t182 =>
 optO (t182[0]?) fun x183 =>
 optO (CV.asT r181) fun t184 =>
 optO (t184[1]?) fun x185 =>
 l36_JournalAdds_L7 lb n n b3 b101 l102 an1 a2 r7 i100 b161 l162 i163 x183 x185 s103 r181 0)
 else
 (chkO (l102.all (·.length == 3)) (
 chkO (decide ((0 : Int) ≤ i169 ∧ i169 ≤ (l102.length : Int))) (
 optO (C lb n F_slices_Clone_journal_Record [.list b101 ((l102.take ((l102.length : Int).toNat)).drop i169.toNat)]) fun r225 =>
 optO (C lb n F_journal_Verify [r225]) fun r226 =>
 optO (CV.asT r226) fun t227 =>
 optO (t227[0]?) fun x228 =>
 optO (CV.asT r226) fun t229 =>
 optO (t229[1]?) fun x230 =>
 l36_JournalAdds_L9 lb n n b3 b101 l102 an1 a2 r7 i100 b161 l162 i163 x228 x230 s103 r226 r225 0))))
 else
 (l36_JournalAdds_L6 lb n k175 b101 l102 an1 a2 b3 r7 i100 b161 l162 i163 s103 (IntKind.wrap .i64 (i169 + 1)))))
 else
 (l36_JournalAdds_J11 lb n b101 l102 an1 a2 b3 r7 i100 b161 l162 i163 s103 ) := (hold_eq _).trans (by kernel_rfl)

theorem l36_JournalAdds_L6_zero (lb : Bool) (n : Nat) (b101 : Bool) (l102 : List (List CV)) (an1 : Bool) (a2 : List (List CV)) (b3 : Int) (r7 : CV) (i100 : Int) (b161 : Bool) (l162 : List (List CV)) (i163 : Int) (s103 : List UInt8) (i169 : Int) :
  l36_JournalAdds_L6 lb n 0 b101 l102 an1 a2 b3 r7 i100 b161 l162 i163 s103 i169 =
 none := (hold_eq _).trans (by kernel_rfl)

theorem l36_JournalAdds_J5_eq (lb : Bool) (n : Nat) (an1 : Bool) (a2 : List (List CV)) (b3 : Int) (r7 : CV) (i100 : Int) (s103 : List UInt8) (b101 : Bool) (l102 : List (List CV)) (b161 : Bool) (l162 : List (List CV)) (i163 : Int) :
  l36_JournalAdds_J5 lb n an1 a2 b3 r7 i100 s103 b101 l102 b161 l162 i163 =
 l36_JournalAdds_L6 lb n n b101 l102 an1 a2 b3 r7 i100 b161 l162 i163 s103 0 := (hold_eq _).trans (by kernel_rfl)

theorem l36_JournalAdds_L4_succ (lb : Bool) (n k150 : Nat) (an1 : Bool) (a2 : List (List CV)) (b3 : Int) (r7 : CV) (i100 : Int) (s103 : List UInt8) (b101 : Bool) (l102 : List (List CV)) (b137 : Bool) (l138 : List (List CV)) (i139 : Int) :
  l36_JournalAdds_L4 lb n (k150 + 1) an1 a2 b3 r7 i100 s103 b101 l102 b137 l138 i139 =
 optO (CV.asL r7) fun p151 =>
 bif (decide (i139 < (p151.2.length : Int))) then
 (optO (CV.asL r7) fun p152 =>
 optO (atL p152.2 i139) fun c153 =>
 chkO (c153.length == 3) (
 optO (c153[0]?) fun x154 =>
 optO (CV.asI .i64 x154) fun i155 =>
 bif (decide (i155 ≥ b3)) then
 (optO (CV.asL r7) fun p156 =>
 optO (atL p156.2 i139) fun c157 =>
 chkO (c157.length == 3) (
 optO (c157[0]?) fun x158 =>
 optO (c157[1]?) fun x159 =>
 optO (c157[2]?) fun x160 =>
 chkO (room (l138.length + 1) 32) (
 l36_JournalAdds_L4 lb n k150 an1 a2 b3 r7 i100 s103 b101 l102 (b137 && false) (l138 ++ [[x158, x159, x160]]) (IntKind.wrap .i64 (i139 + 1)))))
 else
 (l36_JournalAdds_L4 lb n k150 an1 a2 b3 r7 i100 s103 b101 l102 b137 l138 (IntKind.wrap .i64 (i139 + 1)))))
 else
 (l36_JournalAdds_J5 lb n an1 a2 b3 r7 i100 s103 b101 l102 b137 l138 i139) := (hold_eq _).trans (by kernel_rfl)

theorem l36_JournalAdds_L4_zero (lb : Bool) (n : Nat) (an1 : Bool) (a2 : List (List CV)) (b3 : Int) (r7 : CV) (i100 : Int) (s103 : List UInt8) (b101 : Bool) (l102 : List (List CV)) (b137 : Bool) (l138 : List (List CV)) (i139 : Int) :
  l36_JournalAdds_L4 lb n 0 an1 a2 b3 r7 i100 s103 b101 l102 b137 l138 i139 =
 none := (hold_eq _).trans (by kernel_rfl)

noncomputable def l36_JournalAdds_J12 (lb : Bool) (n : Nat) (b101 : Bool) (l102 : List (List CV)) (an1 : Bool) (a2 : List (List CV)) (b3 : Int) (r7 : CV) (i100 : Int) (s103 : List UInt8) : Option CV :=
  hold (E2 lb n 2 998 (sub (B F_slices_IndexFunc_journal_Record) [1, 1]) (retK Tryd.prog (R F_slices_IndexFunc_journal_Record) 2 (inlK (opAt (opsOf (sub (B F_journal_Log_Records) [1, 1, 0])) 5) ⟨fr 23 [(0, .ptr 0 109 0), (1, .val (.int .i64 (-5))), (3, .ptr 1 3 0), (4, .lst true true 34 []), (8, .ptr 0 109 0), (9, .ptr 0 109 0), (10, .ptr 0 109 0), (11, .val (.list b101 l102)), (12, .clo F_journal_Log_Records_1 [.ptr 1 3 0])], [bx 110 [(10, some [.val (.int .i64 0), .val (.str []), .val (.int .i64 0)]), (109, some [.lst true b101 34 l102, .val (.bool true)])], bx 23 [(3, some [.val (.int .i64 (-5))])]], KK⟩ (opsK Tryd.prog (C lb n) (I8 lb n) 1 (opsOf (sub (B F_journal_Log_Records) [1, 1, 0])) ((opsOf (sub (B F_journal_Log_Records) [1, 1, 0])).drop 6) ((seqK (E1 lb n 1 997) (sub (B F_journal_Log_Records) [1, 1, 0]) (sub (B F_journal_Log_Records) [1, 1, 1]) (retK Tryd.prog (R F_journal_Log_Records) 1 (inlK (opAt (opsOf (sub (B F_l36_JournalAdds) [1, 1, 1, 1, 1, 1, 0, 0])) 4) ⟨fr 109 [(0, .val (.list an1 a2)), (1, .val (.int .i64 b3)), (4, .val (.bool false)), (5, .ptr 0 109 0), (6, .val r7), (7, .val (.int .i64 i100)), (10, .ptr 0 10 0), (11, .val (.int .i64 4)), (19, .ptr 0 109 0), (20, .val (.list an1 a2)), (21, .val r7), (47, .val (.tup [.agg [.int .i64 0, .str [], .int .i64 0], .int .i64 4])), (48, .ptr 0 109 0), (49, .lst true false 5 (List.replicate 65537 [.int .u8 0])), (50, .val (.str s103)), (51, .val (.tup [.agg [.int .i64 0, .str [], .int .i64 0], .int .i64 4])), (52, .val (.agg [.int .i64 0, .str [], .int .i64 0])), (53, .val (.int .i64 4)), (54, .val (.int .i64 4)), (55, .val (.bool false)), (56, .val (.bool false)), (57, .ptr 0 109 0)], [bx 110 [(10, some [.val (.int .i64 0), .val (.str []), .val (.int .i64 0)]), (109, some [.lst true b101 34 l102, .val (.bool true)])]], KK⟩ (opsK Tryd.prog (C lb n) (I9 lb n) 0 (opsOf (sub (B F_l36_JournalAdds) [1, 1, 1, 1, 1, 1, 0, 0])) ((opsOf (sub (B F_l36_JournalAdds) [1, 1, 1, 1, 1, 1, 0, 0])).drop 5) ((seqK (E0 lb n 0 992) (sub (B F_l36_JournalAdds) [1, 1, 1, 1, 1, 1, 0, 0]) (sub (B F_l36_JournalAdds) [1, 1, 1, 1, 1, 1, 0, 1]) (seqK (E0 lb n 0 993) (sub (B F_l36_JournalAdds) [1, 1, 1, 1, 1, 1, 0]) (sub (B F_l36_JournalAdds) [1, 1, 1, 1, 1, 1, 1]) (retK Tryd.prog (R F_l36_JournalAdds) 0 (outK (tightF Tryd.prog F_l36_JournalAdds))))) .normal))))) .normal)))) ⟨fr 19 [(0, .val (.list b101 l102)), (1, .clo F_journal_Log_Records_1 [.ptr 1 3 0]), (4, .val (.int .i64 0))], [bx 110 [(10, some [.val (.int .i64 0), .val (.str []), .val (.int .i64 0)]), (109, some [.lst true b101 34 l102, .val (.bool true)])], bx 23 [(3, some [.val (.int .i64 (-5))])], bx 19 []], KK⟩)

theorem l36_JournalAdds_J12_eq (lb : Bool) (n : Nat) (b101 : Bool) (l102 : List (List CV)) (an1 : Bool) (a2 : List (List CV)) (b3 : Int) (r7 : CV) (i100 : Int) (s103 : List UInt8) :
  l36_JournalAdds_J12 lb n b101 l102 an1 a2 b3 r7 i100 s103 =
 optO (C lb n F_l36_from [.list true []]) fun r318 =>
 optO (C lb n F_r36_Same [r318, r7]) fun r319 =>
 optO (CV.asB r319) fun b320 =>
 bif (!b320) then
 (some (.bool false))
 else
 (l36_JournalAdds_L4 lb n n an1 a2 b3 r7 i100 s103 b101 l102 true [] 0) := (hold_eq _).trans (by kernel_rfl)

theorem l36_JournalAdds_L3_succ (lb : Bool) (n k115 : Nat) (b101 : Bool) (l102 : List (List CV)) (an1 : Bool) (a2 : List (List CV)) (b3 : Int) (r7 : CV) (i100 : Int) (s103 : List UInt8) (i109 : Int) :
  l36_JournalAdds_L3 lb n (k115 + 1) b101 l102 an1 a2 b3 r7 i100 s103 i109 =
 bif (decide (i109 < (l102.length : Int))) then
 (optO (atL l102 i109) fun c116 =>
 chkO (c116.length == 3) (
 optO (c116[0]?) fun x117 =>
 optO (c116[1]?) fun x118 =>
 optO (c116[2]?) fun x119 =>
 optO (CV.asI .i64 x117) fun i120 =>
 bif (decide (i120 ≥ (-5))) then
 (bif (decide (i109 < 0)) then
 (optO (C lb n F_l36_from [.list true []]) fun r121 =>
 optO (C lb n F_r36_Same [r121, r7]) fun r122 =>
 optO (CV.asB r122) fun b123 =>
 bif (!b123) then
 (some (.bool false))
 else
 (l36_JournalAdds_L4 lb n n an1 a2 b3 r7 i100 s103 b101 l102 true [] 0))
 else
 (chkO (l102.all (·.length == 3)) (
 chkO (decide ((0 : Int) ≤ i109 ∧ i109 ≤ (l102.length : Int))) (
 optO (C lb n F_slices_Clone_journal_Record [.list b101 ((l102.take ((l102.length : Int).toNat)).drop i109.toNat)]) fun r287 =>
 optO (C lb n F_l36_from [r287]) fun r288 =>
 optO (C lb n F_r36_Same [r288, r7]) fun r289 =>
 optO (CV.asB r289) fun b290 =>
 bif (!b290) then
 (some (.bool false))
 else
 (l36_JournalAdds_L4 lb n n an1 a2 b3 r7 i100 s103 b101 l102 true [] 0)))))
 else
 (l36_JournalAdds_L3 lb n k115 b101 l102 an1 a2 b3 r7 i100 s103 (IntKind.wrap .i64 (i109 + 1)))))
 else
 (l36_JournalAdds_J12 lb n b101 l102 an1 a2 b3 r7 i100 s103 ) := (hold_eq _).trans (by kernel_rfl)

theorem l36_JournalAdds_L3_zero (lb : Bool) (n : Nat) (b101 : Bool) (l102 : List (List CV)) (an1 : Bool) (a2 : List (List CV)) (b3 : Int) (r7 : CV) (i100 : Int) (s103 : List UInt8) (i109 : Int) :
  l36_JournalAdds_L3 lb n 0 b101 l102 an1 a2 b3 r7 i100 s103 i109 =
 none := (hold_eq _).trans (by kernel_rfl)

theorem l36_JournalAdds_J2_eq (lb : Bool) (n : Nat) (an1 : Bool) (a2 : List (List CV)) (b3 : Int) (r7 : CV) (i100 : Int) (b101 : Bool) (l102 : List (List CV)) :
  l36_JournalAdds_J2 lb n an1 a2 b3 r7 i100 b101 l102 =
 optO (bytesOf (List.replicate 65537 [.int .u8 0])) fun s103 =>
 bif (decide ((s103.length : Int) > 65536)) then
 (l36_JournalAdds_L3 lb n n b101 l102 an1 a2 b3 r7 i100 s103 0)
 else
 (optO (C lb n F_journal_last [.list b101 l102]) fun r348 =>
 optO (CV.asT r348) fun t349 =>
 optO (t349[0]?) fun x350 =>
 optO (CV.asT r348) fun t351 =>
 optO (t351[1]?) fun x352 =>
 optO (CV.asI .i64 x350) fun i353 =>
 optO (C lb n F_journal_Sum [x352, .str s103]) fun r354 =>
 chkO (CV.isCell r354) (
 chkO (room (l102.length + 1) 32) (
 some (.bool false)))) := (hold_eq _).trans (by kernel_rfl)

theorem l36_JournalAdds_L1_succ (lb : Bool) (n k71 : Nat) (an1 : Bool) (a2 : List (List CV)) (b3 : Int) (r7 : CV) (i39 : Int) (b40 : Bool) (l41 : List (List CV)) :
  l36_JournalAdds_L1 lb n (k71 + 1) an1 a2 b3 r7 i39 b40 l41 =
 bif (decide (i39 < (a2.length : Int))) then
 (optO (atL a2 i39) fun c72 =>
 chkO (c72.length == 1) (
 optO (c72[0]?) fun x73 =>
 optO (CV.asS x73) fun s74 =>
 bif (decide ((s74.length : Int) > 65536)) then
 (optO (CV.asL r7) fun p75 =>
 optO (atL p75.2 i39) fun c76 =>
 chkO (c76.length == 3) (
 optO (c76[0]?) fun x77 =>
 optO (c76[1]?) fun x78 =>
 optO (c76[2]?) fun x79 =>
 optO (CV.asI .i64 x77) fun i80 =>
 optO (CV.asS x78) fun s81 =>
 optO (CV.asI .i64 x79) fun i82 =>
 bif (!(((0 : Int) == i80) && ((([] : List UInt8) == s81) && (((0 : Int) == i82) && true)))) then
 (some (.bool false))
 else
 (some (.bool false))))
 else
 (optO (C lb n F_journal_last [.list b40 l41]) fun r83 =>
 optO (CV.asT r83) fun t84 =>
 optO (t84[0]?) fun x85 =>
 optO (CV.asT r83) fun t86 =>
 optO (t86[1]?) fun x87 =>
 optO (CV.asI .i64 x85) fun i88 =>
 optO (C lb n F_journal_Sum [x87, x73]) fun r89 =>
 chkO (CV.isCell x73) (
 chkO (CV.isCell r89) (
 chkO (room (l41.length + 1) 32) (
 optO (CV.asL r7) fun p90 =>
 optO (atL p90.2 i39) fun c91 =>
 chkO (c91.length == 3) (
 optO (c91[0]?) fun x92 =>
 optO (c91[1]?) fun x93 =>
 optO (c91[2]?) fun x94 =>
 optO (CV.asI .i64 x92) fun i95 =>
 optO (CV.asS x73) fun s96 =>
 optO (CV.asS x93) fun s97 =>
 optO (CV.asI .i64 r89) fun i98 =>
 optO (CV.asI .i64 x94) fun i99 =>
 bif (!(((IntKind.wrap .i64 (i88 + 1)) == i95) && ((s96 == s97) && ((i98 == i99) && true)))) then
 (some (.bool false))
 else
 (l36_JournalAdds_L1 lb n k71 an1 a2 b3 r7 (IntKind.wrap .i64 (i39 + 1)) (b40 && false) (l41 ++ [[CV.int .i64 (IntKind.wrap .i64 (i88 + 1)), x73, r89]])))))))))
 else
 (l36_JournalAdds_J2 lb n an1 a2 b3 r7 i39 b40 l41) := (hold_eq _).trans (by kernel_rfl)

theorem l36_JournalAdds_L1_zero (lb : Bool) (n : Nat) (an1 : Bool) (a2 : List (List CV)) (b3 : Int) (r7 : CV) (i39 : Int) (b40 : Bool) (l41 : List (List CV)) :
  l36_JournalAdds_L1 lb n 0 an1 a2 b3 r7 i39 b40 l41 =
 none := (hold_eq _).trans (by kernel_rfl)

theorem l36_JournalAdds_eq (lb : Bool) (n : Nat) (an1 : Bool) (a2 : List (List CV)) (b3 : Int) :
  top lb n F_l36_JournalAdds [.list an1 a2, .int .i64 b3] =
 optO (C lb n F_r01_Long [.list an1 a2, .int .i64 1000]) fun r4 =>
 optO (CV.asB r4) fun b5 =>
 bif b5 then
 (optO (C lb n F_l36_awake []) fun r6 =>
 some (r6))
 else
 (optO (C lb n F_r36_Of [.list an1 a2]) fun r7 =>
 l36_JournalAdds_L1 lb n n an1 a2 b3 r7 0 true []) := by kernel_rfl

end Go.Proofs
