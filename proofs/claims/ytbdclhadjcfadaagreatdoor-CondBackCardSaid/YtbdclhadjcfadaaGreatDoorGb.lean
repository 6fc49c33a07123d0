/- Equations of functions, printed by program. Conditions: none. -/
import Derived.Test.YtbdclhadjcfadaaGreatDoorEv
namespace Go.Proofs
open Go.Am
set_option maxRecDepth 100000
set_option linter.unusedVariables false
theorem QlT (lb n) (a1 : Int) :
 top lb n QdX [.int .i64 a1] =
 optO (C lb n QaA [.int .i64 a1]) fun r2 =>
 optO (CV.asT r2) fun t3 =>
 optO (t3[0]?) fun x4 =>
 optO (CV.asT r2) fun t5 =>
 optO (t5[1]?) fun x6 =>
 optO (CV.asT r2) fun t7 =>
 optO (t7[2]?) fun x9 =>
 optO (CV.asI .i64 x4) fun jn =>
 bif (jn == 0) then
 (some (.str []))
 else
 (optO (CV.asI .i64 x4) fun jD =>
 optO (C lb n QbX [.int .i64 (IntKind.wrap .i64 (Int.tdiv jD 100))]) fun jo =>
 optO (CV.asI .i64 x4) fun jI =>
 optO (C lb n QbX [.int .i64 (Int.tmod jI 100)]) fun wA =>
 optO (CV.asS jo) fun wh =>
 optO (CV.asS wA) fun wp =>
 chkO (decide (wh.length + wp.length ≤ 9223372036854775807)) (
 chkO (decide ((wh ++ wp).length + [45].length ≤ 9223372036854775807)) (
 optO (C lb n QbX [x6]) fun jF =>
 optO (CV.asS jF) fun wO =>
 chkO (decide (((wh ++ wp) ++ [45]).length + wO.length ≤ 9223372036854775807)) (
 chkO (decide ((((wh ++ wp) ++ [45]) ++ wO).length + [45].length ≤ 9223372036854775807)) (
 optO (C lb n QbX [x9]) fun qw =>
 optO (CV.asS qw) fun gb =>
 chkO (decide (((((wh ++ wp) ++ [45]) ++ wO) ++ [45]).length + gb.length ≤ 9223372036854775807)) (
 some (.str (((((wh ++ wp) ++ [45]) ++ wO) ++ [45]) ++ gb)))))))) := by kernel_rfl
noncomputable def calendar_Date_L1 :=
 fun lb n (k7 : Nat) a1 i4 =>
 hold (QaC (E0 lb n 0 994) 0 (Qal (sub (B QaA) [1,1,1,0,0,0]) ++ []) [] (sub (B QaA) [1,1,1,0,0,0]) (Qan 0 (seqK (E0 lb n 0 996) (sub (B QaA) [1,1,1,0]) (sub (B QaA) [1,1,1,1]) (retK Tryz.prog (R QaA) 0 (outK (Qak Tryz.prog QaA))))) k7 ⟨fr 48 [(0,vI a1),(2,vI 0),(3,vI 0),(4,vI 0),(5,vI i4),(15,vI a1),(16, .val (.int .i64 (IntKind.wrap .i64 (Int.tdiv a1 366)))),(17, .val (.int .i64 (IntKind.wrap .i64 (2000 + (IntKind.wrap .i64 (Int.tdiv a1 366))))))],[bx 48 []],KK⟩)
noncomputable def QhX (lb n : Nat) (a1 jD : Int) : Option CV :=
 hold (E0 lb n 0 996 (sub (B QaA) [1,1,1,1]) (retK Tryz.prog (R QaA) 0 (outK (Qak Tryz.prog QaA))) ⟨fr 48 [(0,vI a1),(2,vI 0),(3,vI 0),(4,vI 0),(5,vI jD),(15,vI a1),(16, .val (.int .i64 (IntKind.wrap .i64 (Int.tdiv a1 366)))),(17, .val (.int .i64 (IntKind.wrap .i64 (2000 + (IntKind.wrap .i64 (Int.tdiv a1 366))))))],[bx 48 []],KK⟩)
noncomputable def QdQ (lb n vh : Nat) (a1 jD : Int) (jo : CV) (jI wz wb : Int) : Option CV :=
 hold (QaC (E0 lb n 0 991) 0 (Qal (sub (B QaA) [1,1,1,1,1,0,1,0,0]) ++ [7,8]) [] (sub (B QaA) [1,1,1,1,1,0,1,0,0]) (Qan 2 (seqK (E0 lb n 0 994) (sub (B QaA) [1,1,1,1,1,0]) (sub (B QaA) [1,1,1,1,1,1]) (retK Tryz.prog (R QaA) 0 (outK (Qak Tryz.prog QaA))))) vh ⟨fr 48 [(0,vI a1),(2,vI 0),(3,vI 0),(4,vI 0),(5,vI jD),(6,vI wz),(15,vI a1),(16, .val (.int .i64 (IntKind.wrap .i64 (Int.tdiv a1 366)))),(17, .val (.int .i64 (IntKind.wrap .i64 (2000 + (IntKind.wrap .i64 (Int.tdiv a1 366)))))),(25,vI a1),(26,vI jD),(27,vV jo),(28, .val (.int .i64 (IntKind.wrap .i64 (a1 - jI)))),(29,vI wb)],[bx 48 []],KK⟩)
noncomputable def QmJ (lb n : Nat) (a1 jD : Int) (jo : CV) (jI wG : Int) : Option CV :=
 hold (E0 lb n 0 994 (sub (B QaA) [1,1,1,1,1,1]) (retK Tryz.prog (R QaA) 0 (outK (Qak Tryz.prog QaA))) ⟨fr 48 [(0,vI a1),(2,vI 0),(3,vI 0),(4,vI 0),(5,vI jD),(6,vI wG),(15,vI a1),(16, .val (.int .i64 (IntKind.wrap .i64 (Int.tdiv a1 366)))),(17, .val (.int .i64 (IntKind.wrap .i64 (2000 + (IntKind.wrap .i64 (Int.tdiv a1 366)))))),(25,vI a1),(26,vI jD),(27,vV jo),(28, .val (.int .i64 (IntKind.wrap .i64 (a1 - jI))))],[bx 48 []],KK⟩)
theorem Qfo (lb n vh : Nat) (a1 jD : Int) (jo : CV) (jI wz wb : Int) :
 QdQ lb n (vh + 1) a1 jD jo jI wz wb =
 bif (decide (wb < 12)) then
 (optO (C lb n Qbu [.int .i64 jD, .int .i64 (IntKind.wrap .i64 (wb + 1))]) fun yf =>
 optO (CV.asI .i64 yf) fun jJ =>
 bif (decide (wz < jJ)) then
 (some (.tup [.int .i64 jD, .int .i64 (IntKind.wrap .i64 (wb + 1)), .int .i64 (IntKind.wrap .i64 (wz + 1))]))
 else
 (optO (CV.asI .i64 yf) fun jT =>
 QdQ lb n vh a1 jD jo jI (IntKind.wrap .i64 (wz - jT)) (IntKind.wrap .i64 (wb + 1))))
 else
 (QmJ lb n a1 jD jo jI wz) := (Qaf _).trans (by kernel_rfl)
theorem Qkt (lb n : Nat) (a1 jD : Int) :
 QhX lb n a1 jD =
 optO (C lb n Qc6 [.int .i64 jD]) fun jo =>
 optO (CV.asI .i64 jo) fun jI =>
 QdQ lb n n a1 jD jo jI (IntKind.wrap .i64 (a1 - jI)) 0 := (Qaf _).trans (by kernel_rfl)
theorem Qft (lb n k7 : Nat) (a1 i4 : Int) :
 calendar_Date_L1 lb n (k7 + 1) a1 i4 =
 optO (C lb n Qc6 [.int .i64 (IntKind.wrap .i64 (i4 + 1))]) fun r9 =>
 optO (CV.asI .i64 r9) fun jn =>
 bif (decide (jn ≤ a1)) then
 (calendar_Date_L1 lb n k7 a1 (IntKind.wrap .i64 (i4 + 1)))
 else
 (QhX lb n a1 i4) := (Qaf _).trans (by kernel_rfl)
theorem QmC (lb n : Nat) (a1 : Int) :
 top lb n QaA [.int .i64 a1] =
 bif (decide (a1 < 0)) then
 (some (.tup [.int .i64 0, .int .i64 0, .int .i64 0]))
 else
 (bif (decide (a1 ≥ 36525)) then
 (some (.tup [.int .i64 0, .int .i64 0, .int .i64 0]))
 else
 (calendar_Date_L1 lb n n a1 (IntKind.wrap .i64 (2000 + (IntKind.wrap .i64 (Int.tdiv a1 366)))))) := by kernel_rfl
theorem Qnl (lb n : Nat) (a1 : Int) :
 top lb n QbX [.int .i64 a1] =
 optO (bytesOf [[CV.int .u8 (IntKind.wrap .u8 (IntKind.wrap .i64 (48 + (IntKind.wrap .i64 (Int.tdiv a1 10)))))],[CV.int .u8 (IntKind.wrap .u8 (IntKind.wrap .i64 (48 + (Int.tmod a1 10))))]]) fun s2 =>
 some (.str s2) := by kernel_rfl
theorem QlN (lb n : Nat) (a1 : Int) :
 top lb n Qc6 [.int .i64 a1] =
 some (.int .i64 (IntKind.wrap .i64 ((IntKind.wrap .i64 (365 * (IntKind.wrap .i64 (a1 - 2000)))) + (IntKind.wrap .i64 (Int.tdiv (IntKind.wrap .i64 ((IntKind.wrap .i64 (a1 - 2000)) + 3)) 4))))) := by kernel_rfl
end Go.Proofs
