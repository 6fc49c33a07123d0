/- Equations of functions, printed by program. Conditions: none. -/
import Derived.Test.YtbdclhadjcfadaaGreatDoorEv
namespace Go.Proofs
open Go.Am
set_option maxRecDepth 100000
set_option linter.unusedVariables false
noncomputable def r01_Same_L1 :=
 fun lb n (yr:Nat) (jl:Bool) (a2:LL) (yP:Bool) (b4:LL) wu =>
 hold (Qau (E0 lb n 0 994) 0 (Qah (sub (B Qce) [1,1,0,1,0,0]) ++ []) [] (sub (B Qce) [1,1,0,1,0,0]) (Qak 0 (seqK (E0 lb n 0 997) (sub (B Qce) [1,1,0]) (sub (B Qce) [1,1,1]) (retK Tryz.prog (R Qce) 0 (outK (Qag Tryz.prog Qce))))) yr ⟨fr 26 [(0, .val (.list jl a2)),(1, .val (.list yP b4)),(4,vB false),(5,vI wu)],[bx 26 []],KK⟩)
noncomputable def Qph (lb n:Nat) (jl:Bool) (a2:LL) (yP:Bool) (b4:LL) (yc:Int):Option CV :=
 hold (E0 lb n 0 997 (sub (B Qce) [1,1,1]) (retK Tryz.prog (R Qce) 0 (outK (Qag Tryz.prog Qce))) ⟨fr 26 [(0, .val (.list jl a2)),(1, .val (.list yP b4)),(4,vB false),(5,vI yc)],[bx 26 []],KK⟩)
theorem Qsp (lb n:Nat) (jl:Bool) (a2:LL) (yP:Bool) (b4:LL) (yc:Int) :
 Qph lb n jl a2 yP b4 yc =
 some (.bool true) := (Qac _).trans (by kernel_rfl)
theorem Qj1 (lb n yr:Nat) (jl:Bool) (a2:LL) (yP:Bool) (b4:LL) (wu:Int) :
 r01_Same_L1 lb n (yr + 1) jl a2 yP b4 wu =
 bif (decide (wu < (a2.length:Int))) then
 (optO (atL a2 wu) fun c21 =>
 chkO (c21.length == 1) (
 optO (c21[0]?) fun jH =>
 optO (atL b4 wu) fun nN =>
 chkO (nN.length == 1) (
 optO (nN[0]?) fun zS =>
 optO (CV.asS jH) fun y8 =>
 optO (CV.asS zS) fun ns =>
 bif (!(y8 == ns)) then
 (some (.bool false))
 else
 (r01_Same_L1 lb n yr jl a2 yP b4 (IntKind.wrap .i64 (wu + 1))))))
 else
 (Qph lb n jl a2 yP b4 wu) := (Qac _).trans (by kernel_rfl)
theorem Qwv (lb n:Nat) (jl:Bool) (a2:LL) (yP:Bool) (b4:LL) :
 top lb n Qce [.list jl a2, .list yP b4] =
 bif ((a2.length:Int) != (b4.length:Int)) then
 (some (.bool false))
 else
 (r01_Same_L1 lb n n jl a2 yP b4 0) := by kernel_rfl
theorem QqT (lb n:Nat) (a1:Int) :
 top lb n Qb2 [.int .i64 a1] =
 optO (C lb n QhB [.int .i64 a1]) fun r2 =>
 some (r2) := by kernel_rfl
theorem Qr7 (lb n:Nat) (a1:Int) :
 top lb n QcP [.int .i64 a1] =
 bif (decide (a1 < 0)) then
 (optO (C lb n Qfu [.int .u64 (IntKind.wrap .u64 ((IntKind.wrap .u64 (IntKind.wrap .i64 (0 - (IntKind.wrap .i64 (a1 + 1))))) + 1))]) fun r2 =>
 optO (CV.asS r2) fun s3 =>
 chkO (decide (([45]:LB).length + s3.length ≤ 9223372036854775807)) (
 some (.str (([45]:LB) ++ s3))))
 else
 (optO (C lb n Qfu [.int .u64 (IntKind.wrap .u64 (a1))]) fun r4 =>
 some (r4)) := by kernel_rfl
theorem QqQ (lb n:Nat) (a1:LB) :
 top lb n QaZ [.str a1] =
 optO (C lb n QhV [.str a1, .int .i64 2, .int .i64 2]) fun r2 =>
 optO (CV.asB r2) fun b3 =>
 bif b3 then
 (optO (C lb n Qav [.str a1, .fn Qb8]) fun r4 =>
 optO (CV.asB r4) fun b5 =>
 some (.bool (!b5)))
 else
 (some (.bool false)) := by kernel_rfl
theorem Qqx (lb n:Nat) (a1:LB) :
 top lb n QaY [.str a1] =
 bif ((a1.length:Int) == 3) then
 (optO (C lb n Qav [.str a1, .fn Qb3]) fun r2 =>
 some (r2))
 else
 (some (.bool false)) := by kernel_rfl
theorem Qnd (lb n:Nat) (a1:Int) :
 top lb n Qfu [.int .u64 a1] =
 bif (decide (a1 < 10)) then
 (chkO (decide ((0:Int) ≤ (IntKind.wrap .u64 (a1 + 1)) ∧ (IntKind.wrap .u64 (a1 + 1)) ≤ 10)) (
 chkO (decide ((0:Int) ≤ a1 ∧ a1 ≤ (IntKind.wrap .u64 (a1 + 1)))) (
 some (.str ((([48,49,50,51,52,53,54,55,56,57]:LB).take ((IntKind.wrap .u64 (a1 + 1)).toNat)).drop a1.toNat)))))
 else
 (optO (C lb n Qfu [.int .u64 (IntKind.wrap .u64 (Int.tdiv a1 10))]) fun r2 =>
 chkO (decide ((0:Int) ≤ (IntKind.wrap .u64 ((Int.tmod a1 10) + 1)) ∧ (IntKind.wrap .u64 ((Int.tmod a1 10) + 1)) ≤ 10)) (
 chkO (decide ((0:Int) ≤ (Int.tmod a1 10) ∧ (Int.tmod a1 10) ≤ (IntKind.wrap .u64 ((Int.tmod a1 10) + 1)))) (
 optO (CV.asS r2) fun s3 =>
 chkO (decide (s3.length + ((([48,49,50,51,52,53,54,55,56,57]:LB).take ((IntKind.wrap .u64 ((Int.tmod a1 10) + 1)).toNat)).drop ((Int.tmod a1 10).toNat)).length ≤ 9223372036854775807)) (
 some (.str (s3 ++ ((([48,49,50,51,52,53,54,55,56,57]:LB).take ((IntKind.wrap .u64 ((Int.tmod a1 10) + 1)).toNat)).drop ((Int.tmod a1 10).toNat)))))))) := by kernel_rfl
noncomputable def Qgd (lb n:Nat) (a1:LB) (c2:UInt8) (s3:LB):Option CV :=
 hold (E0 lb n 0 996 (sub (B Qaz) [1,1,1,1]) (retK Tryz.prog (R Qaz) 0 (outK (Qag Tryz.prog Qaz))) ⟨fr 81 [(0,vS a1),(2,vI 0),(3,vI 0),(4, .val (.bool ((c2.toNat:Int) == 45))),(5,vS s3),(9,vS a1),(10, .val (.int .i64 (a1.length:Int))),(11, .val (.bool (decide ((a1.length:Int) > 0)))),(12,vB true),(13,vS a1),(14, .val (.int .u8 (c2.toNat:Int))),(15, .val (.bool ((c2.toNat:Int) == 45))),(16, .val (.bool ((c2.toNat:Int) == 45))),(17,vS a1)],[bx 81 []],KK⟩)
noncomputable def Qdo (lb n ye:Nat) (a1:LB) (c2:UInt8) (s3:LB) (i9:Int):Option CV :=
 hold (Qau (E0 lb n 0 991) 0 (Qah (sub (B Qaz) [1,1,1,1,1,0,1,0,0]) ++ []) [] (sub (B Qaz) [1,1,1,1,1,0,1,0,0]) (Qak 0 (seqK (E0 lb n 0 994) (sub (B Qaz) [1,1,1,1,1,0]) (sub (B Qaz) [1,1,1,1,1,1]) (retK Tryz.prog (R Qaz) 0 (outK (Qag Tryz.prog Qaz))))) ye ⟨fr 81 [(0,vS a1),(2,vI 0),(3,vI 0),(4, .val (.bool ((c2.toNat:Int) == 45))),(5,vS s3),(6,vI i9),(9,vS a1),(10, .val (.int .i64 (a1.length:Int))),(11, .val (.bool (decide ((a1.length:Int) > 0)))),(12,vB true),(13,vS a1),(14, .val (.int .u8 (c2.toNat:Int))),(15, .val (.bool ((c2.toNat:Int) == 45))),(16, .val (.bool ((c2.toNat:Int) == 45))),(17,vS a1)],[bx 81 []],KK⟩)
noncomputable def QiW (lb n:Nat) (a1:LB) (c2:UInt8) (s3:LB) (jC:Int):Option CV :=
 hold (E0 lb n 0 994 (sub (B Qaz) [1,1,1,1,1,1]) (retK Tryz.prog (R Qaz) 0 (outK (Qag Tryz.prog Qaz))) ⟨fr 81 [(0,vS a1),(2,vI 0),(3,vI 0),(4, .val (.bool ((c2.toNat:Int) == 45))),(5,vS s3),(6,vI jC),(9,vS a1),(10, .val (.int .i64 (a1.length:Int))),(11, .val (.bool (decide ((a1.length:Int) > 0)))),(12,vB true),(13,vS a1),(14, .val (.int .u8 (c2.toNat:Int))),(15, .val (.bool ((c2.toNat:Int) == 45))),(16, .val (.bool ((c2.toNat:Int) == 45))),(17,vS a1)],[bx 81 []],KK⟩)
noncomputable def QeP (lb n vA:Nat) (a1:LB) (c2:UInt8) (s3:LB) (jC i20 i21:Int):Option CV :=
 hold (Qau (E0 lb n 0 988) 0 (Qah (sub (B Qaz) [1,1,1,1,1,1,1,1,0,1,0,0]) ++ []) [] (sub (B Qaz) [1,1,1,1,1,1,1,1,0,1,0,0]) (Qak 2 (seqK (E0 lb n 0 991) (sub (B Qaz) [1,1,1,1,1,1,1,1,0]) (sub (B Qaz) [1,1,1,1,1,1,1,1,1]) (retK Tryz.prog (R Qaz) 0 (outK (Qag Tryz.prog Qaz))))) vA ⟨fr 81 [(0,vS a1),(2,vI 0),(3,vI 0),(4, .val (.bool ((c2.toNat:Int) == 45))),(5,vS s3),(6,vI jC),(7, .val (.int .u64 i20)),(8,vI i21),(9,vS a1),(10, .val (.int .i64 (a1.length:Int))),(11, .val (.bool (decide ((a1.length:Int) > 0)))),(12,vB true),(13,vS a1),(14, .val (.int .u8 (c2.toNat:Int))),(15, .val (.bool ((c2.toNat:Int) == 45))),(16, .val (.bool ((c2.toNat:Int) == 45))),(17,vS a1)],[bx 81 []],KK⟩)
noncomputable def QiX (lb n:Nat) (a1:LB) (c2:UInt8) (s3:LB) (jC jL jX:Int):Option CV :=
 hold (E0 lb n 0 991 (sub (B Qaz) [1,1,1,1,1,1,1,1,1]) (retK Tryz.prog (R Qaz) 0 (outK (Qag Tryz.prog Qaz))) ⟨fr 81 [(0,vS a1),(2,vI 0),(3,vI 0),(4, .val (.bool ((c2.toNat:Int) == 45))),(5,vS s3),(6,vI jC),(7, .val (.int .u64 jL)),(8,vI jX),(9,vS a1),(10, .val (.int .i64 (a1.length:Int))),(11, .val (.bool (decide ((a1.length:Int) > 0)))),(12,vB true),(13,vS a1),(14, .val (.int .u8 (c2.toNat:Int))),(15, .val (.bool ((c2.toNat:Int) == 45))),(16, .val (.bool ((c2.toNat:Int) == 45))),(17,vS a1)],[bx 81 []],KK⟩)
theorem Qqr (lb n:Nat) (a1:LB) (c2:UInt8) (s3:LB) (jC jL jX:Int) :
 QiX lb n a1 c2 s3 jC jL jX =
 bif ((c2.toNat:Int) == 45) then
 (bif (decide (jL ≤ 9223372036854775808)) then
 (some (.tup [.int .i64 (IntKind.wrap .i64 ((IntKind.wrap .i64 (0 - (IntKind.wrap .i64 (IntKind.wrap .u64 (jL - 1))))) - 1)), .int .i64 0]))
 else
 (bif ((c2.toNat:Int) == 45) then
 (some (.tup [.int .i64 0, .int .i64 4]))
 else
 (bif (decide (jL ≥ 9223372036854775808)) then
 (some (.tup [.int .i64 0, .int .i64 4]))
 else
 (some (.tup [.int .i64 (IntKind.wrap .i64 (jL)), .int .i64 0])))))
 else
 (bif ((c2.toNat:Int) == 45) then
 (some (.tup [.int .i64 0, .int .i64 4]))
 else
 (bif (decide (jL ≥ 9223372036854775808)) then
 (some (.tup [.int .i64 0, .int .i64 4]))
 else
 (some (.tup [.int .i64 (IntKind.wrap .i64 (jL)), .int .i64 0])))) := (Qac _).trans (by kernel_rfl)
theorem QiA (lb n vA:Nat) (a1:LB) (c2:UInt8) (s3:LB) (jC i20 i21:Int) :
 QeP lb n (vA + 1) a1 c2 s3 jC i20 i21 =
 bif (decide (i21 < (s3.length:Int))) then
 (optO (atS s3 i21) fun yh =>
 QeP lb n vA a1 c2 s3 jC (IntKind.wrap .u64 ((IntKind.wrap .u64 (10 * i20)) + (IntKind.wrap .u64 (IntKind.wrap .u8 ((yh.toNat:Int) - 48))))) (IntKind.wrap .i64 (i21 + 1)))
 else
 (QiX lb n a1 c2 s3 jC i20 i21) := (Qac _).trans (by kernel_rfl)
theorem QpO (lb n:Nat) (a1:LB) (c2:UInt8) (s3:LB) (jC:Int) :
 QiW lb n a1 c2 s3 jC =
 bif (decide ((s3.length:Int) > 19)) then
 (some (.tup [.int .i64 0, .int .i64 4]))
 else
 (QeP lb n n a1 c2 s3 jC 0 0) := (Qac _).trans (by kernel_rfl)
theorem Qfr (lb n ye:Nat) (a1:LB) (c2:UInt8) (s3:LB) (i9:Int) :
 Qdo lb n (ye + 1) a1 c2 s3 i9 =
 bif (decide (i9 < (s3.length:Int))) then
 (optO (atS s3 i9) fun js =>
 optO (C lb n Qid [.int .u8 (js.toNat:Int)]) fun yk =>
 optO (CV.asB yk) fun j9 =>
 bif (!j9) then
 (some (.tup [.int .i64 0, .int .i64 3]))
 else
 (Qdo lb n ye a1 c2 s3 (IntKind.wrap .i64 (i9 + 1))))
 else
 (QiW lb n a1 c2 s3 i9) := (Qac _).trans (by kernel_rfl)
theorem QpX (lb n:Nat) (a1:LB) (c2:UInt8) (s3:LB) :
 Qgd lb n a1 c2 s3 =
 bif (s3 == []) then
 (some (.tup [.int .i64 0, .int .i64 3]))
 else
 (optO (atS s3 0) fun c4 =>
 bif ((c4.toNat:Int) == 48) then
 (bif ((c2.toNat:Int) == 45) then
 (some (.tup [.int .i64 0, .int .i64 3]))
 else
 (bif (decide ((s3.length:Int) > 1)) then
 (some (.tup [.int .i64 0, .int .i64 3]))
 else
 (Qdo lb n n a1 c2 s3 0)))
 else
 (Qdo lb n n a1 c2 s3 0)) := (Qac _).trans (by kernel_rfl)
noncomputable def Qnc (lb n:Nat) (a1:LB):Option CV :=
 hold (E0 lb n 0 996 (sub (B Qaz) [1,1,1,1]) (retK Tryz.prog (R Qaz) 0 (outK (Qag Tryz.prog Qaz))) ⟨fr 81 [(0,vS a1),(2,vI 0),(3,vI 0),(4,vB false),(5,vS a1),(9,vS a1),(10, .val (.int .i64 (a1.length:Int))),(11, .val (.bool (decide ((a1.length:Int) > 0)))),(12,vB false),(13, .undef),(14, .undef),(15, .undef),(16,vB false),(17,vS a1)],[bx 81 []],KK⟩)
noncomputable def QmO (lb n lD:Nat) (a1:LB) (j0:Int):Option CV :=
 hold (Qau (E0 lb n 0 991) 0 (Qah (sub (B Qaz) [1,1,1,1,1,0,1,0,0]) ++ []) [] (sub (B Qaz) [1,1,1,1,1,0,1,0,0]) (Qak 0 (seqK (E0 lb n 0 994) (sub (B Qaz) [1,1,1,1,1,0]) (sub (B Qaz) [1,1,1,1,1,1]) (retK Tryz.prog (R Qaz) 0 (outK (Qag Tryz.prog Qaz))))) lD ⟨fr 81 [(0,vS a1),(2,vI 0),(3,vI 0),(4,vB false),(5,vS a1),(6,vI j0),(9,vS a1),(10, .val (.int .i64 (a1.length:Int))),(11, .val (.bool (decide ((a1.length:Int) > 0)))),(12,vB false),(13, .undef),(14, .undef),(15, .undef),(16,vB false),(17,vS a1)],[bx 81 []],KK⟩)
theorem Qp1 (lb n:Nat) (a1:LB) :
 Qnc lb n a1 =
 bif (a1 == []) then
 (some (.tup [.int .i64 0, .int .i64 3]))
 else
 (optO (atS a1 0) fun gz =>
 bif ((gz.toNat:Int) == 48) then
 (bif (decide ((a1.length:Int) > 1)) then
 (some (.tup [.int .i64 0, .int .i64 3]))
 else
 (QmO lb n n a1 0))
 else
 (QmO lb n n a1 0)) := (Qac _).trans (by kernel_rfl)
theorem Qub (lb n:Nat) (a1:LB) :
 top lb n Qaz [.str a1] =
 bif (decide ((a1.length:Int) > 0)) then
 (optO (atS a1 0) fun c2 =>
 bif ((c2.toNat:Int) == 45) then
 (chkO (decide ((0:Int) ≤ 1 ∧ 1 ≤ (a1.length:Int))) (
 Qgd lb n a1 c2 ((a1.take ((a1.length:Int).toNat)).drop 1)))
 else
 (Qgd lb n a1 c2 a1))
 else
 (Qnc lb n a1 ) := by kernel_rfl
theorem Qu4 (lb n:Nat) (a1:LB) (b2 c3:Int) :
 top lb n QhV [.str a1, .int .i64 b2, .int .i64 c3] =
 bif (decide ((a1.length:Int) ≥ b2)) then
 (bif (decide ((a1.length:Int) ≤ c3)) then
 (optO (C lb n Qav [.str a1, .fn QcM]) fun r4 =>
 some (r4))
 else
 (some (.bool false)))
 else
 (some (.bool false)) := by kernel_rfl
theorem Qt6 (lb n:Nat) (a1:Int) :
 top lb n Qb8 [.int .u8 a1] =
 bif (decide (a1 ≥ 48)) then
 (some (.bool (decide (a1 ≤ 57))))
 else
 (some (.bool false)) := by kernel_rfl
theorem QqN (lb n:Nat) (a1:Int) :
 top lb n Qb3 [.int .u8 a1] =
 bif (decide (a1 ≥ 65)) then
 (some (.bool (decide (a1 ≤ 90))))
 else
 (some (.bool false)) := by kernel_rfl
theorem Qwi (lb n:Nat) (a1:Int) :
 top lb n Qid [.int .u8 a1] =
 bif (decide (a1 ≥ 48)) then
 (some (.bool (decide (a1 ≤ 57))))
 else
 (some (.bool false)) := by kernel_rfl
theorem Qsu (lb n:Nat) (a1:Int) :
 top lb n QcM [.int .u8 a1] =
 optO (C lb n Qb3 [.int .u8 a1]) fun r2 =>
 optO (CV.asB r2) fun b3 =>
 bif b3 then
 (some (.bool true))
 else
 (optO (C lb n Qb8 [.int .u8 a1]) fun r4 =>
 some (r4)) := by kernel_rfl
theorem Qsf (lb n:Nat) (a1:LB) :
 top lb n QiY [.str a1] =
 optO (C lb n Qb0 [.str a1, .int .i64 2, .int .i64 2]) fun r2 =>
 optO (CV.asB r2) fun b3 =>
 bif b3 then
 (optO (atS a1 0) fun c4 =>
 optO (C lb n Qe2 [.int .u8 (c4.toNat:Int)]) fun r5 =>
 optO (CV.asB r5) fun b6 =>
 bif b6 then
 (some (.bool true))
 else
 (optO (atS a1 1) fun c7 =>
 optO (C lb n Qe2 [.int .u8 (c7.toNat:Int)]) fun r9 =>
 some (r9)))
 else
 (some (.bool false)) := by kernel_rfl
theorem Qr0 (lb n:Nat) (a1:LB) :
 top lb n QiL [.str a1] =
 optO (C lb n QbC [.str a1, .int .i64 3]) fun r2 =>
 some (r2) := by kernel_rfl
noncomputable def Qf6 (lb n yr:Nat) (a1:LB) (b2 c3 wu:Int):Option CV :=
 hold (Qau (E0 lb n 0 995) 0 (Qah (sub (B Qb0) [1,0,1,0,0]) ++ []) [] (sub (B Qb0) [1,0,1,0,0]) (Qak 0 (seqK (E0 lb n 0 998) (sub (B Qb0) [1,0]) (sub (B Qb0) [1,1]) (retK Tryz.prog (R Qb0) 0 (outK (Qag Tryz.prog Qb0))))) yr ⟨fr 36 [(0,vS a1),(1,vI b2),(2,vI c3),(6,vB false),(7,vI wu)],[bx 36 []],KK⟩)
noncomputable def Qpi (lb n:Nat) (a1:LB) (b2 c3 yc:Int):Option CV :=
 hold (E0 lb n 0 998 (sub (B Qb0) [1,1]) (retK Tryz.prog (R Qb0) 0 (outK (Qag Tryz.prog Qb0))) ⟨fr 36 [(0,vS a1),(1,vI b2),(2,vI c3),(6,vB false),(7,vI yc)],[bx 36 []],KK⟩)
theorem Qsg (lb n:Nat) (a1:LB) (b2 c3 yc:Int) :
 Qpi lb n a1 b2 c3 yc =
 bif (decide ((a1.length:Int) ≥ b2)) then
 (some (.bool (decide ((a1.length:Int) ≤ c3))))
 else
 (some (.bool false)) := (Qac _).trans (by kernel_rfl)
theorem QjU (lb n yr:Nat) (a1:LB) (b2 c3 wu:Int) :
 Qf6 lb n (yr + 1) a1 b2 c3 wu =
 bif (decide (wu < (a1.length:Int))) then
 (optO (atS a1 wu) fun c21 =>
 optO (C lb n Qe2 [.int .u8 (c21.toNat:Int)]) fun mb =>
 optO (CV.asB mb) fun nC =>
 bif (!nC) then
 (optO (atS a1 wu) fun yh =>
 optO (C lb n Qid [.int .u8 (yh.toNat:Int)]) fun od =>
 optO (CV.asB od) fun lC =>
 bif (!lC) then
 (some (.bool false))
 else
 (Qf6 lb n yr a1 b2 c3 (IntKind.wrap .i64 (wu + 1))))
 else
 (Qf6 lb n yr a1 b2 c3 (IntKind.wrap .i64 (wu + 1))))
 else
 (Qpi lb n a1 b2 c3 wu) := (Qac _).trans (by kernel_rfl)
theorem QwS (lb n:Nat) (a1:LB) (b2 c3:Int) :
 top lb n Qb0 [.str a1, .int .i64 b2, .int .i64 c3] =
 Qf6 lb n n a1 b2 c3 0 := by kernel_rfl
theorem Qsh (lb n:Nat) (a1:LB) :
 top lb n Qdn [.str a1] =
 optO (C lb n Qdv [.str a1, .str [45]]) fun r2 =>
 optO (CV.asS r2) fun s3 =>
 bif (s3 == []) then
 (some (.tup [.int .i64 0, .int .i64 3]))
 else
 (optO (C lb n Qav [r2, .fn Qb8]) fun r4 =>
 optO (CV.asB r4) fun b5 =>
 bif (!b5) then
 (some (.tup [.int .i64 0, .int .i64 3]))
 else
 (optO (CV.asS r2) fun s6 =>
 optO (atS s6 0) fun c7 =>
 bif ((c7.toNat:Int) == 48) then
 (bif (!(a1 == [48])) then
 (some (.tup [.int .i64 0, .int .i64 3]))
 else
 (optO (C lb n QdB [.str a1]) fun r9 =>
 optO (CV.asT r9) fun kY =>
 optO (kY[0]?) fun y4 =>
 optO (CV.asT r9) fun kf =>
 optO (kf[1]?) fun yR =>
 optO (CV.asE yR) fun mT =>
 bif (!mT) then
 (some (.tup [.int .i64 0, .int .i64 4]))
 else
 (some (.tup [y4, .int .i64 0]))))
 else
 (optO (C lb n QdB [.str a1]) fun yk =>
 optO (CV.asT yk) fun oe =>
 optO (oe[0]?) fun oz =>
 optO (CV.asT yk) fun y0 =>
 optO (y0[1]?) fun jq =>
 optO (CV.asE jq) fun mH =>
 bif (!mH) then
 (some (.tup [.int .i64 0, .int .i64 4]))
 else
 (some (.tup [oz, .int .i64 0]))))) := by kernel_rfl
theorem Qvi (lb n:Nat) (a1:Int) :
 top lb n Qe2 [.int .u8 a1] =
 bif (decide (a1 ≥ 65)) then
 (some (.bool (decide (a1 ≤ 90))))
 else
 (some (.bool false)) := by kernel_rfl
noncomputable def QfA (lb n ya:Nat) (a1:LB) (b2 i6:Int):Option CV :=
 hold (Qau (E0 lb n 0 995) 0 (Qah (sub (B QbC) [1,0,1,0,0]) ++ []) [] (sub (B QbC) [1,0,1,0,0]) (Qak 0 (seqK (E0 lb n 0 998) (sub (B QbC) [1,0]) (sub (B QbC) [1,1]) (retK Tryz.prog (R QbC) 0 (outK (Qag Tryz.prog QbC))))) ya ⟨fr 21 [(0,vS a1),(1,vI b2),(4,vB false),(5,vI i6)],[bx 21 []],KK⟩)
noncomputable def QlU (lb n:Nat) (a1:LB) (b2 we:Int):Option CV :=
 hold (E0 lb n 0 998 (sub (B QbC) [1,1]) (retK Tryz.prog (R QbC) 0 (outK (Qag Tryz.prog QbC))) ⟨fr 21 [(0,vS a1),(1,vI b2),(4,vB false),(5,vI we)],[bx 21 []],KK⟩)
theorem Qo0 (lb n:Nat) (a1:LB) (b2 we:Int) :
 QlU lb n a1 b2 we =
 some (.bool ((a1.length:Int) == b2)) := (Qac _).trans (by kernel_rfl)
theorem Qhv (lb n ya:Nat) (a1:LB) (b2 i6:Int) :
 QfA lb n (ya + 1) a1 b2 i6 =
 bif (decide (i6 < (a1.length:Int))) then
 (optO (atS a1 i6) fun oD =>
 optO (C lb n Qe2 [.int .u8 (oD.toNat:Int)]) fun ou =>
 optO (CV.asB ou) fun ov =>
 bif (!ov) then
 (some (.bool false))
 else
 (QfA lb n ya a1 b2 (IntKind.wrap .i64 (i6 + 1))))
 else
 (QlU lb n a1 b2 i6) := (Qac _).trans (by kernel_rfl)
theorem QrN (lb n:Nat) (a1:LB) (b2:Int) :
 top lb n QbC [.str a1, .int .i64 b2] =
 QfA lb n n a1 b2 0 := by kernel_rfl
noncomputable def Qcx (lb n wv:Nat) (a1:LB) (i5:Int):Option CV :=
 hold (Qau (E0 lb n 0 995) 0 (Qah (sub (B Qav) [1,0,1,0,0]) ++ [5]) [] (sub (B Qav) [1,0,1,0,0]) (Qak 0 (seqK (E0 lb n 0 998) (sub (B Qav) [1,0]) (sub (B Qav) [1,1]) (retK Tryz.prog (R Qav) 0 (outK (Qag Tryz.prog Qav))))) wv ⟨fr 18 [(0,vS a1),(1, .val (.fn Qb8)),(4,vB false),(6,vS a1),(7, .val (.int .i64 (a1.length:Int))),(8,vI i5)],[bx 18 []],KK⟩)
noncomputable def Qfe (lb n:Nat) (a1:LB):Option CV :=
 hold (E0 lb n 0 998 (sub (B Qav) [1,1]) (retK Tryz.prog (R Qav) 0 (outK (Qag Tryz.prog Qav))) ⟨fr 18 [(0,vS a1),(1, .val (.fn Qb8)),(4,vB false)],[bx 18 []],KK⟩)
theorem Qip (lb n:Nat) (a1:LB) :
 Qfe lb n a1 =
 some (.bool true) := (Qac _).trans (by kernel_rfl)
theorem Qec (lb n wv:Nat) (a1:LB) (i5:Int) :
 Qcx lb n (wv + 1) a1 i5 =
 bif (decide (i5 < (a1.length:Int))) then
 (optO (atS a1 i5) fun vL =>
 optO (C lb n Qb8 [.int .u8 (vL.toNat:Int)]) fun jk =>
 optO (CV.asB jk) fun jz =>
 bif (!jz) then
 (some (.bool false))
 else
 (Qcx lb n wv a1 (IntKind.wrap .i64 (i5 + 1))))
 else
 (Qfe lb n a1 ) := (Qac _).trans (by kernel_rfl)
theorem QjJ (lb n:Nat) (a1:LB) :
 top lb n Qav [.str a1, .fn Qb8] =
 Qcx lb n n a1 0 := by kernel_rfl
noncomputable def Qcg (lb n wv:Nat) (a1:LB) (i5:Int):Option CV :=
 hold (Qau (E0 lb n 0 995) 0 (Qah (sub (B Qav) [1,0,1,0,0]) ++ [5]) [] (sub (B Qav) [1,0,1,0,0]) (Qak 0 (seqK (E0 lb n 0 998) (sub (B Qav) [1,0]) (sub (B Qav) [1,1]) (retK Tryz.prog (R Qav) 0 (outK (Qag Tryz.prog Qav))))) wv ⟨fr 18 [(0,vS a1),(1, .val (.fn Qb3)),(4,vB false),(6,vS a1),(7, .val (.int .i64 (a1.length:Int))),(8,vI i5)],[bx 18 []],KK⟩)
noncomputable def QeK (lb n:Nat) (a1:LB):Option CV :=
 hold (E0 lb n 0 998 (sub (B Qav) [1,1]) (retK Tryz.prog (R Qav) 0 (outK (Qag Tryz.prog Qav))) ⟨fr 18 [(0,vS a1),(1, .val (.fn Qb3)),(4,vB false)],[bx 18 []],KK⟩)
theorem Qho (lb n:Nat) (a1:LB) :
 QeK lb n a1 =
 some (.bool true) := (Qac _).trans (by kernel_rfl)
theorem QdT (lb n wv:Nat) (a1:LB) (i5:Int) :
 Qcg lb n (wv + 1) a1 i5 =
 bif (decide (i5 < (a1.length:Int))) then
 (optO (atS a1 i5) fun vL =>
 optO (C lb n Qb3 [.int .u8 (vL.toNat:Int)]) fun jk =>
 optO (CV.asB jk) fun jz =>
 bif (!jz) then
 (some (.bool false))
 else
 (Qcg lb n wv a1 (IntKind.wrap .i64 (i5 + 1))))
 else
 (QeK lb n a1 ) := (Qac _).trans (by kernel_rfl)
theorem QiQ (lb n:Nat) (a1:LB) :
 top lb n Qav [.str a1, .fn Qb3] =
 Qcg lb n n a1 0 := by kernel_rfl
noncomputable def Qcr (lb n wv:Nat) (a1:LB) (i5:Int):Option CV :=
 hold (Qau (E0 lb n 0 995) 0 (Qah (sub (B Qav) [1,0,1,0,0]) ++ [5]) [] (sub (B Qav) [1,0,1,0,0]) (Qak 0 (seqK (E0 lb n 0 998) (sub (B Qav) [1,0]) (sub (B Qav) [1,1]) (retK Tryz.prog (R Qav) 0 (outK (Qag Tryz.prog Qav))))) wv ⟨fr 18 [(0,vS a1),(1, .val (.fn QcM)),(4,vB false),(6,vS a1),(7, .val (.int .i64 (a1.length:Int))),(8,vI i5)],[bx 18 []],KK⟩)
noncomputable def Qfb (lb n:Nat) (a1:LB):Option CV :=
 hold (E0 lb n 0 998 (sub (B Qav) [1,1]) (retK Tryz.prog (R Qav) 0 (outK (Qag Tryz.prog Qav))) ⟨fr 18 [(0,vS a1),(1, .val (.fn QcM)),(4,vB false)],[bx 18 []],KK⟩)
theorem QhD (lb n:Nat) (a1:LB) :
 Qfb lb n a1 =
 some (.bool true) := (Qac _).trans (by kernel_rfl)
theorem Qd4 (lb n wv:Nat) (a1:LB) (i5:Int) :
 Qcr lb n (wv + 1) a1 i5 =
 bif (decide (i5 < (a1.length:Int))) then
 (optO (atS a1 i5) fun vL =>
 optO (C lb n QcM [.int .u8 (vL.toNat:Int)]) fun jk =>
 optO (CV.asB jk) fun jz =>
 bif (!jz) then
 (some (.bool false))
 else
 (Qcr lb n wv a1 (IntKind.wrap .i64 (i5 + 1))))
 else
 (Qfb lb n a1 ) := (Qac _).trans (by kernel_rfl)
theorem Qjn (lb n:Nat) (a1:LB) :
 top lb n Qav [.str a1, .fn QcM] =
 Qcr lb n n a1 0 := by kernel_rfl
end Go.Proofs
