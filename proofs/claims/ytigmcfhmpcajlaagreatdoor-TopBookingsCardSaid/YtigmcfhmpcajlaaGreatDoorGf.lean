/- Equations of functions, printed by program. Conditions: none. -/
import Derived.Test.YtigmcfhmpcajlaaGreatDoorEv
namespace Go.Proofs
open Go.Am
set_option maxRecDepth 100000
set_option linter.unusedVariables false
theorem QiX (lb n jg) (a2 : LL) :
 top lb n QcP [.list jg a2] =
 optO (C lb n QeF [.int .u64 (IntKind.wrap .u64 ((a2.length : Int)))]) fun r3 =>
 optO (C lb n Qap [.list jg a2, .int .i64 0, .int .i64 (a2.length : Int), r3]) fun r4 =>
 some (.tup []) := by kernel_rfl
noncomputable def slices_pdqsortOrdered_int_L1 :=
 fun lb n (w4 : Nat) (jg : Bool) (a2 : LL) wv wx w7 wW w5 =>
 hold (QaA (E0 lb n 0 996) 0 (Qag (sub (B Qap) [1, 1, 0, 0]) ++ [10, 11, 12, 11, 12, 13, 14, 15, 16, 17, 18]) [] (sub (B Qap) [1, 1, 0, 0]) (Qal 0 (retK Tryz.prog (R Qap) 0 (outK (Qah Tryz.prog Qap)))) w4 ⟨fr 134 [(0, .val (.list jg a2)), (1, vV wv), (2, vV wx), (3, vI w7), (8, vB wW), (9, vV w5)], [bx 134 []], KK⟩)
noncomputable def QcT (lb n w4 : Nat) (jg : Bool) (a2 : LL) (wv wx : CV) (wW : Bool) (w5 : CV) (w8 w9 kL : Int) : Option CV :=
 hold (E0 lb n 0 991 (sub (B Qap) [1, 1, 0, 0, 0, 1, 1, 1, 1]) (Qal 1 (Qbq 0 (Qag (sub (B Qap) [1, 1, 0, 0]) ++ [10, 11, 12, 11, 12, 13, 14, 15, 16, 17, 18]) [] (QaA (E0 lb n 0 996) 0 (Qag (sub (B Qap) [1, 1, 0, 0]) ++ [10, 11, 12, 11, 12, 13, 14, 15, 16, 17, 18]) [] (sub (B Qap) [1, 1, 0, 0]) (Qal 0 (retK Tryz.prog (R Qap) 0 (outK (Qah Tryz.prog Qap)))) w4) (Qal 0 (retK Tryz.prog (R Qap) 0 (outK (Qah Tryz.prog Qap)))))) ⟨fr 134 [(0, .val (.list jg a2)), (1, vV wv), (2, vV wx), (3, vI kL), (8, vB wW), (9, vV w5), (10, .val (.int .i64 (IntKind.wrap .i64 (w8 - w9)))), (19, vV wx), (20, vV wv), (21, .val (.int .i64 (IntKind.wrap .i64 (w8 - w9))))], [bx 134 []], KK⟩)
theorem Qd6 (lb n w4 : Nat) (jg : Bool) (a2 : LL) (wv wx : CV) (w7 : Int) (wW : Bool) (w5 : CV) :
 slices_pdqsortOrdered_int_L1 lb n (w4 + 1) jg a2 wv wx w7 wW w5 =
 optO (CV.asI .i64 wx) fun w8 =>
 optO (CV.asI .i64 wv) fun w9 =>
 bif (decide ((IntKind.wrap .i64 (w8 - w9)) ≤ 12)) then
 (optO (C lb n Qaf [.list jg a2, wv, wx]) fun n4 =>
 some (.tup []))
 else
 (bif (w7 == 0) then
 (optO (C lb n Qff [.list jg a2, wv, wx]) fun n5 =>
 some (.tup []))
 else
 (bif (!wW) then
 (optO (C lb n Qd5 [.list jg a2, wv, wx]) fun n6 =>
 QcT lb n w4 jg a2 wv wx wW w5 w8 w9 (IntKind.wrap .i64 (w7 - 1)))
 else
 (QcT lb n w4 jg a2 wv wx wW w5 w8 w9 w7))) := (Qai _).trans (by kernel_rfl)
theorem Qfg (lb n : Nat) (jg : Bool) (a2 : LL) (b3 c4 d5 : Int) :
 top lb n Qap [.list jg a2, .int .i64 b3, .int .i64 c4, .int .i64 d5] =
 slices_pdqsortOrdered_int_L1 lb n n jg a2 (.int .i64 b3) (.int .i64 c4) d5 true (.bool true) := by kernel_rfl
noncomputable def QaX (lb n wS : Nat) (jg : Bool) (a2 : LL) (b3 c4 wm : Int) : Option CV :=
 hold (QaA (E0 lb n 0 997) 0 (Qag (sub (B Qaf) [1, 0, 0]) ++ [7, 7]) [] (sub (B Qaf) [1, 0, 0]) (Qal 0 (retK Tryz.prog (R Qaf) 0 (outK (Qah Tryz.prog Qaf)))) wS ⟨fr 49 [(0, .val (.list jg a2)), (1, vI b3), (2, vI c4), (6, vI wm), (8, vI b3), (9, .val (.int .i64 (IntKind.wrap .i64 (b3 + 1))))], [bx 49 []], KK⟩)
noncomputable def Qce (lb n kv wS : Nat) (jg : Bool) (a2 : LL) (b3 c4 wm : Int) : Option CV :=
 hold (QaA (E0 lb n 0 991) 0 (Qag (sub (B Qaf) [1, 0, 0, 1, 0, 0, 1, 0, 0]) ++ []) [] (sub (B Qaf) [1, 0, 0, 1, 0, 0, 1, 0, 0]) (Qal 2 (Qal 1 (seqK (E0 lb n 0 995) (sub (B Qaf) [1, 0, 0, 1, 0]) (sub (B Qaf) [1, 0, 0, 1, 1]) (Qbq 0 (Qag (sub (B Qaf) [1, 0, 0]) ++ [7, 7]) [] (QaA (E0 lb n 0 997) 0 (Qag (sub (B Qaf) [1, 0, 0]) ++ [7, 7]) [] (sub (B Qaf) [1, 0, 0]) (Qal 0 (retK Tryz.prog (R Qaf) 0 (outK (Qah Tryz.prog Qaf)))) wS) (Qal 0 (retK Tryz.prog (R Qaf) 0 (outK (Qah Tryz.prog Qaf)))))))) kv ⟨fr 49 [(0, .val (.list jg a2)), (1, vI b3), (2, vI c4), (6, vI wm), (7, vI wm), (8, vI b3), (9, .val (.int .i64 (IntKind.wrap .i64 (b3 + 1)))), (15, vI wm)], [bx 49 []], KK⟩)
noncomputable def Qbo (lb n wS : Nat) (jg : Bool) (a2 : LL) (b3 c4 wm ky : Int) : Option CV :=
 hold (E0 lb n 0 995 (sub (B Qaf) [1, 0, 0, 1, 1]) (Qbq 0 (Qag (sub (B Qaf) [1, 0, 0]) ++ [7, 7]) [] (QaA (E0 lb n 0 997) 0 (Qag (sub (B Qaf) [1, 0, 0]) ++ [7, 7]) [] (sub (B Qaf) [1, 0, 0]) (Qal 0 (retK Tryz.prog (R Qaf) 0 (outK (Qah Tryz.prog Qaf)))) wS) (Qal 0 (retK Tryz.prog (R Qaf) 0 (outK (Qah Tryz.prog Qaf))))) ⟨fr 49 [(0, .val (.list jg a2)), (1, vI b3), (2, vI c4), (6, vI wm), (7, vI ky), (8, vI b3), (9, .val (.int .i64 (IntKind.wrap .i64 (b3 + 1))))], [bx 49 []], KK⟩)
theorem Qdo (lb n wS : Nat) (jg : Bool) (a2 : LL) (b3 c4 wm ky : Int) :
 Qbo lb n wS jg a2 b3 c4 wm ky =
 QaX lb n wS jg a2 b3 c4 (IntKind.wrap .i64 (wm + 1)) := (Qai _).trans (by kernel_rfl)
theorem Qc8 (lb n kv wS : Nat) (jg : Bool) (a2 : LL) (b3 c4 wm : Int) :
 Qce lb n (kv + 1) wS jg a2 b3 c4 wm =
 bif (decide (wm > b3)) then
 (optO (atL a2 wm) fun c68 =>
 chkO (c68.length == 1) (
 optO (c68[0]?) fun nN =>
 optO (atL a2 (IntKind.wrap .i64 (wm - 1))) fun c70 =>
 chkO (c70.length == 1) (
 optO (c70[0]?) fun nB =>
 optO (C lb n Qfb [nN, nB]) fun ku =>
 optO (CV.asB ku) fun kj =>
 bif kj then
 (optO (atL a2 (IntKind.wrap .i64 (wm - 1))) fun c74 =>
 chkO (c74.length == 1) (
 optO (c74[0]?) fun pf =>
 optO (atL a2 wm) fun c76 =>
 chkO (c76.length == 1) (
 optO (c76[0]?) fun pd =>
 optO (atL a2 wm) fun c78 =>
 chkO (c78.length == 1) (
 none))))
 else
 (Qbo lb n wS jg a2 b3 c4 wm wm))))
 else
 (Qbo lb n wS jg a2 b3 c4 wm wm) := (Qai _).trans (by kernel_rfl)
theorem Qa7 (lb n wS : Nat) (jg : Bool) (a2 : LL) (b3 c4 wm : Int) :
 QaX lb n (wS + 1) jg a2 b3 c4 wm =
 bif (decide (wm < c4)) then
 (Qce lb n n wS jg a2 b3 c4 wm )
 else
 (some (.tup [])) := (Qai _).trans (by kernel_rfl)
theorem Qca (lb n : Nat) (jg : Bool) (a2 : LL) (b3 c4 : Int) :
 top lb n Qaf [.list jg a2, .int .i64 b3, .int .i64 c4] =
 QaX lb n n jg a2 b3 c4 (IntKind.wrap .i64 (b3 + 1)) := by kernel_rfl
theorem Qly (lb n : Nat) (a1 b2 : Int) :
 top lb n Qfb [.int .i64 a1, .int .i64 b2] =
 optO (C lb n Qdj [.int .i64 a1]) fun r3 =>
 optO (CV.asB r3) fun b4 =>
 bif b4 then
 (optO (C lb n Qdj [.int .i64 b2]) fun r5 =>
 optO (CV.asB r5) fun b6 =>
 bif (!b6) then
 (some (.bool true))
 else
 (some (.bool (decide (a1 < b2)))))
 else
 (some (.bool (decide (a1 < b2)))) := by kernel_rfl
theorem Qky (lb n : Nat) (a1 : Int) :
 top lb n Qdj [.int .i64 a1] =
 some (.bool (a1 != a1)) := by kernel_rfl
theorem QkF (lb n : Nat) (a1 : Int) :
 top lb n QeF [.int .u64 a1] =
 optO (C lb n QaW [.int .u64 a1]) fun r2 =>
 some (r2) := by kernel_rfl
noncomputable def Qdr (lb n : Nat) (i2 i3 : Int) : Option CV :=
 hold (E0 lb n 0 998 (sub (B QaW) [1, 1]) (retK Tryz.prog (R QaW) 0 (outK (Qah Tryz.prog QaW))) ⟨fr 25 [(0, .val (.int .u64 i2)), (2, vI i3)], [bx 25 []], KK⟩)
noncomputable def QcJ (lb n : Nat) (i4 i5 : Int) : Option CV :=
 hold (E0 lb n 0 997 (sub (B QaW) [1, 1, 1]) (retK Tryz.prog (R QaW) 0 (outK (Qah Tryz.prog QaW))) ⟨fr 25 [(0, .val (.int .u64 i4)), (2, vI i5)], [bx 25 []], KK⟩)
theorem QcQ (lb n : Nat) (i4 i5 : Int) :
 QcJ lb n i4 i5 =
 bif (decide (i4 ≥ 256)) then
 (optO (atS [0, 1, 2, 2, 3, 3, 3, 3, 4, 4, 4, 4, 4, 4, 4, 4, 5, 5, 5, 5, 5, 5, 5, 5, 5, 5, 5, 5, 5, 5, 5, 5, 6, 6, 6, 6, 6, 6, 6, 6, 6, 6, 6, 6, 6, 6, 6, 6, 6, 6, 6, 6, 6, 6, 6, 6, 6, 6, 6, 6, 6, 6, 6, 6, 7, 7, 7, 7, 7, 7, 7, 7, 7, 7, 7, 7, 7, 7, 7, 7, 7, 7, 7, 7, 7, 7, 7, 7, 7, 7, 7, 7, 7, 7, 7, 7, 7, 7, 7, 7, 7, 7, 7, 7, 7, 7, 7, 7, 7, 7, 7, 7, 7, 7, 7, 7, 7, 7, 7, 7, 7, 7, 7, 7, 7, 7, 7, 7, 8, 8, 8, 8, 8, 8, 8, 8, 8, 8, 8, 8, 8, 8, 8, 8, 8, 8, 8, 8, 8, 8, 8, 8, 8, 8, 8, 8, 8, 8, 8, 8, 8, 8, 8, 8, 8, 8, 8, 8, 8, 8, 8, 8, 8, 8, 8, 8, 8, 8, 8, 8, 8, 8, 8, 8, 8, 8, 8, 8, 8, 8, 8, 8, 8, 8, 8, 8, 8, 8, 8, 8, 8, 8, 8, 8, 8, 8, 8, 8, 8, 8, 8, 8, 8, 8, 8, 8, 8, 8, 8, 8, 8, 8, 8, 8, 8, 8, 8, 8, 8, 8, 8, 8, 8, 8, 8, 8, 8, 8, 8, 8, 8, 8, 8, 8, 8, 8, 8, 8, 8, 8, 8, 8, 8, 8, 8, 8] (IntKind.wrap .u8 (Int.fdiv i4 (2 ^ 8)))) fun c6 =>
 some (.int .i64 (IntKind.wrap .i64 ((IntKind.wrap .i64 (i5 + 8)) + (IntKind.wrap .i64 ((c6.toNat : Int)))))))
 else
 (optO (atS [0, 1, 2, 2, 3, 3, 3, 3, 4, 4, 4, 4, 4, 4, 4, 4, 5, 5, 5, 5, 5, 5, 5, 5, 5, 5, 5, 5, 5, 5, 5, 5, 6, 6, 6, 6, 6, 6, 6, 6, 6, 6, 6, 6, 6, 6, 6, 6, 6, 6, 6, 6, 6, 6, 6, 6, 6, 6, 6, 6, 6, 6, 6, 6, 7, 7, 7, 7, 7, 7, 7, 7, 7, 7, 7, 7, 7, 7, 7, 7, 7, 7, 7, 7, 7, 7, 7, 7, 7, 7, 7, 7, 7, 7, 7, 7, 7, 7, 7, 7, 7, 7, 7, 7, 7, 7, 7, 7, 7, 7, 7, 7, 7, 7, 7, 7, 7, 7, 7, 7, 7, 7, 7, 7, 7, 7, 7, 7, 8, 8, 8, 8, 8, 8, 8, 8, 8, 8, 8, 8, 8, 8, 8, 8, 8, 8, 8, 8, 8, 8, 8, 8, 8, 8, 8, 8, 8, 8, 8, 8, 8, 8, 8, 8, 8, 8, 8, 8, 8, 8, 8, 8, 8, 8, 8, 8, 8, 8, 8, 8, 8, 8, 8, 8, 8, 8, 8, 8, 8, 8, 8, 8, 8, 8, 8, 8, 8, 8, 8, 8, 8, 8, 8, 8, 8, 8, 8, 8, 8, 8, 8, 8, 8, 8, 8, 8, 8, 8, 8, 8, 8, 8, 8, 8, 8, 8, 8, 8, 8, 8, 8, 8, 8, 8, 8, 8, 8, 8, 8, 8, 8, 8, 8, 8, 8, 8, 8, 8, 8, 8, 8, 8, 8, 8, 8, 8] (IntKind.wrap .u8 (i4))) fun c7 =>
 some (.int .i64 (IntKind.wrap .i64 (i5 + (IntKind.wrap .i64 ((c7.toNat : Int))))))) := (Qai _).trans (by kernel_rfl)
theorem Qhr (lb n : Nat) (i2 i3 : Int) :
 Qdr lb n i2 i3 =
 bif (decide (i2 ≥ 65536)) then
 (QcJ lb n  (Int.fdiv i2 (2 ^ 16)) (IntKind.wrap .i64 (i3 + 16)))
 else
 (QcJ lb n  i2 i3) := (Qai _).trans (by kernel_rfl)
theorem QiY (lb n : Nat) (a1 : Int) :
 top lb n QaW [.int .u64 a1] =
 bif (decide (a1 ≥ 4294967296)) then
 (Qdr lb n  (Int.fdiv a1 (2 ^ 32)) 32)
 else
 (Qdr lb n  a1 0) := by kernel_rfl
end Go.Proofs
