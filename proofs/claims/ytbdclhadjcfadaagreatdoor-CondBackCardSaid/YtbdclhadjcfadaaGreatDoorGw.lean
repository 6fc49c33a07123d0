/- Equations of functions, printed by program. Conditions: none. -/
import Derived.Test.YtbdclhadjcfadaaGreatDoorEv
namespace Go.Proofs.K5
open Go.Am
set_option maxRecDepth 100000
set_option linter.unusedVariables false
noncomputable def strings_IndexAny_J1 :=
 fun lb n a1 b2 =>
 hold (E0 lb n 0 996 (sub (B Qao) [1,1,1,1]) (retK Tryz.prog (R Qao) 0 (outK (Qak Tryz.prog Qao))) ⟨fr 55 [(0,vS a1),(1,vS b2),(4,vI 0)],[bx 55 []],KK⟩)
noncomputable def Qdk (lb n wQ : Nat) (a1 b2 : LB) (w6 : Nat) : Option CV :=
 hold (QaC (E0 lb n 0 992) 0 (Qal (sub (B Qao) [1,1,1,1,0,1,0,0]) ++ [9,10]) [] (sub (B Qao) [1,1,1,1,0,1,0,0]) (Qan 2 (seqK (E0 lb n 0 995) (sub (B Qao) [1,1,1,1,0]) (sub (B Qao) [1,1,1,1,1]) (retK Tryz.prog (R Qao) 0 (outK (Qak Tryz.prog Qao))))) wQ ⟨fr 55 [(0,vS a1),(1,vS b2),(4,vI 0),(44,vS a1),(45, .siter a1 w6)],[bx 55 []],KK⟩)
noncomputable def Qf0 (lb n : Nat) (a1 b2 : LB) : Option CV :=
 hold (E0 lb n 0 995 (sub (B Qao) [1,1,1,1,1]) (retK Tryz.prog (R Qao) 0 (outK (Qak Tryz.prog Qao))) ⟨fr 55 [(0,vS a1),(1,vS b2),(4,vI 0)],[bx 55 []],KK⟩)
theorem QeV (lb n : Nat) (a1 b2 : LB) :
 Qf0 lb n a1 b2 =
 some (.int .i64 (-1)) := (Qaf _).trans (by kernel_rfl)
theorem Qek (lb n wQ : Nat) (a1 b2 : LB) (w6 : Nat) :
 Qdk lb n (wQ + 1) a1 b2 w6 =
 bif (decide (w6 < a1.length)) then
 (optO (C lb n Qaa [.str b2, .int .i32 (((Utf8.decode ⟨a1.toArray⟩ w6).1 : Nat) : Int)]) fun yl =>
 optO (CV.asI .i64 yl) fun pB =>
 bif (decide (pB ≥ 0)) then
 (some (.int .i64 ((w6 : Nat) : Int)))
 else
 (Qdk lb n wQ a1 b2 (w6 + (Utf8.decode ⟨a1.toArray⟩ w6).2)))
 else
 (Qf0 lb n a1 b2 ) := (Qaf _).trans (by kernel_rfl)
theorem QiI (lb n : Nat) (a1 b2 : LB) :
 strings_IndexAny_J1 lb n a1 b2 =
 Qdk lb n n a1 b2 0 := (Qaf _).trans (by kernel_rfl)
theorem Qkw (lb n : Nat) (a1 b2 : LB) :
 top lb n Qao [.str a1, .str b2] =
 bif (b2 == []) then
 (some (.int .i64 (-1)))
 else
 (bif ((b2.length : Int) == 1) then
 (optO (atS b2 0) fun c3 =>
 bif (decide ((IntKind.wrap .i32 ((c3.toNat : Int))) ≥ 128)) then
 (optO (C lb n Qaa [.str a1, .int .i32 65533]) fun r4 =>
 some (r4))
 else
 (optO (C lb n Qaa [.str a1, .int .i32 (IntKind.wrap .i32 ((c3.toNat : Int)))]) fun r5 =>
 some (r5)))
 else
 (optO (C lb n QcG [.int .i64 (a1.length : Int)]) fun r6 =>
 optO (CV.asB r6) fun b7 =>
 bif b7 then
 (optO (C lb n QiM [.str b2]) fun r9 =>
 optO (CV.asT r9) fun yR =>
 optO (yR[0]?) fun w5 =>
 optO (CV.asT r9) fun yW =>
 optO (yW[1]?) fun yg =>
 none)
 else
 (strings_IndexAny_J1 lb n a1 b2 ))) := by kernel_rfl
noncomputable def Qb5 (lb n k5 : Nat) (a1 : LB) (b2 : Int) (p4 : Nat) : Option CV :=
 hold (QaC (E0 lb n 0 990) 0 (Qal (sub (B Qaa) [1,0,1,1,1,0,0,1,0,0]) ++ [5,6]) [] (sub (B Qaa) [1,0,1,1,1,0,0,1,0,0]) (Qan 9 (seqK (E0 lb n 0 993) (sub (B Qaa) [1,0,1,1,1,0,0]) (sub (B Qaa) [1,0,1,1,1,0,1]) (QaU (sub (B Qaa) [1,0,1,1,1,0]) (sub (B Qaa) [1,0,1,1,1,1]) (QaU (sub (B Qaa) [1,0,1,0]) (sub (B Qaa) [1,0,1,1]) (Qan 0 (retK Tryz.prog (R Qaa) 0 (outK (Qak Tryz.prog Qaa)))))))) k5 ⟨fr 187 [(0,vS a1),(1, .val (.int .i32 b2)),(4,vI 0),(160, .val (.bool (decide (b2 < 128)))),(161, .val (.int .i32 b2)),(162, .val (.bool (decide ((0 : Int) ≤ b2)))),(163,vB true),(164, .val (.int .i32 b2)),(165, .val (.bool (decide (b2 < 128)))),(166, .val (.bool (decide (b2 < 128)))),(171, .val (.bool (b2 == 65533))),(172, .val (.int .i32 b2)),(173, .val (.bool (b2 == 65533))),(174,vS a1),(175, .siter a1 p4)],[bx 187 []],KK⟩)
noncomputable def QfE (lb n : Nat) (a1 : LB) (b2 : Int) : Option CV :=
 hold (E0 lb n 0 993 (sub (B Qaa) [1,0,1,1,1,0,1]) (QaU (sub (B Qaa) [1,0,1,1,1,0]) (sub (B Qaa) [1,0,1,1,1,1]) (QaU (sub (B Qaa) [1,0,1,0]) (sub (B Qaa) [1,0,1,1]) (Qan 0 (retK Tryz.prog (R Qaa) 0 (outK (Qak Tryz.prog Qaa)))))) ⟨fr 187 [(0,vS a1),(1, .val (.int .i32 b2)),(4,vI 0),(160, .val (.bool (decide (b2 < 128)))),(161, .val (.int .i32 b2)),(162, .val (.bool (decide ((0 : Int) ≤ b2)))),(163,vB true),(164, .val (.int .i32 b2)),(165, .val (.bool (decide (b2 < 128)))),(166, .val (.bool (decide (b2 < 128)))),(171, .val (.bool (b2 == 65533))),(172, .val (.int .i32 b2)),(173, .val (.bool (b2 == 65533)))],[bx 187 []],KK⟩)
theorem Qh4 (lb n : Nat) (a1 : LB) (b2 : Int) :
 QfE lb n a1 b2 =
 some (.int .i64 (-1)) := (Qaf _).trans (by kernel_rfl)
theorem QcR (lb n k5 : Nat) (a1 : LB) (b2 : Int) (p4 : Nat) :
 Qb5 lb n (k5 + 1) a1 b2 p4 =
 bif (decide (p4 < a1.length)) then
 (bif ((((Utf8.decode ⟨a1.toArray⟩ p4).1 : Nat) : Int) == 65533) then
 (some (.int .i64 ((p4 : Nat) : Int)))
 else
 (Qb5 lb n k5 a1 b2 (p4 + (Utf8.decode ⟨a1.toArray⟩ p4).2)))
 else
 (QfE lb n a1 b2 ) := (Qaf _).trans (by kernel_rfl)
noncomputable def QfN (lb n wJ : Nat) (a1 : LB) (b2 : Int) (b7 : Bool) (r6 : CV) : Option CV :=
 hold (QaC (E0 lb n 0 984) 0 (Qal (sub (B Qaa) [1,0,1,1,1,1,1,1,0,1,1,1,1,0,0,0]) ++ [11,12,12]) [] (sub (B Qaa) [1,0,1,1,1,1,1,1,0,1,1,1,1,0,0,0]) (Qan 1 (seqK (E0 lb n 0 986) (sub (B Qaa) [1,0,1,1,1,1,1,1,0,1,1,1,1,0]) (sub (B Qaa) [1,0,1,1,1,1,1,1,0,1,1,1,1,1]) (QaU (sub (B Qaa) [1,0,1,1,1,1,1,0]) (sub (B Qaa) [1,0,1,1,1,1,1,1]) (QaU (sub (B Qaa) [1,0,1,1,1,0]) (sub (B Qaa) [1,0,1,1,1,1]) (QaU (sub (B Qaa) [1,0,1,0]) (sub (B Qaa) [1,0,1,1]) (Qan 0 (retK Tryz.prog (R Qaa) 0 (outK (Qak Tryz.prog Qaa))))))))) wJ ⟨fr 187 [(0,vS a1),(1, .val (.int .i32 b2)),(4,vI 0),(7, .val (.str ((Utf8.encode b2).data.toList))),(8, .val (.int .i64 (IntKind.wrap .i64 ((((Utf8.encode b2).data.toList).length : Int) - 1)))),(9, .val (.int .i64 (IntKind.wrap .i64 ((((Utf8.encode b2).data.toList).length : Int) - 1)))),(10,vI 0),(17, .val (.int .i32 b2)),(18, .val (.str ((Utf8.encode b2).data.toList))),(19, .val (.str ((Utf8.encode b2).data.toList))),(20, .val (.int .i64 (((Utf8.encode b2).data.toList).length : Int))),(21, .val (.int .i64 (IntKind.wrap .i64 ((((Utf8.encode b2).data.toList).length : Int) - 1)))),(22, .val (.int .i64 (IntKind.wrap .i64 ((((Utf8.encode b2).data.toList).length : Int) - 1)))),(160, .val (.bool (decide (b2 < 128)))),(161, .val (.int .i32 b2)),(162, .val (.bool (decide ((0 : Int) ≤ b2)))),(163,vB true),(164, .val (.int .i32 b2)),(165, .val (.bool (decide (b2 < 128)))),(166, .val (.bool (decide (b2 < 128)))),(171, .val (.bool (b2 == 65533))),(172, .val (.int .i32 b2)),(173, .val (.bool (b2 == 65533))),(183, .val (.bool (!b7))),(184, .val (.int .i32 b2)),(185,vV r6),(186, .val (.bool (!b7)))],[bx 187 []],KK⟩)
noncomputable def QjM (lb n wJ : Nat) (a1 : LB) (b2 : Int) (b7 : Bool) (r6 : CV) (qp : Int) (qJ : CV) : Option CV :=
 hold (E0 lb n 0 980 (sub (B Qaa) [1,0,1,1,1,1,1,1,0,1,1,1,1,0,0,0,1,0,0,1]) (Qan 2 (QeB 0 (Qal (sub (B Qaa) [1,0,1,1,1,1,1,1,0,1,1,1,1,0,0,0]) ++ [11,12,12]) [] (QaC (E0 lb n 0 984) 0 (Qal (sub (B Qaa) [1,0,1,1,1,1,1,1,0,1,1,1,1,0,0,0]) ++ [11,12,12]) [] (sub (B Qaa) [1,0,1,1,1,1,1,1,0,1,1,1,1,0,0,0]) (Qan 1 (seqK (E0 lb n 0 986) (sub (B Qaa) [1,0,1,1,1,1,1,1,0,1,1,1,1,0]) (sub (B Qaa) [1,0,1,1,1,1,1,1,0,1,1,1,1,1]) (QaU (sub (B Qaa) [1,0,1,1,1,1,1,0]) (sub (B Qaa) [1,0,1,1,1,1,1,1]) (QaU (sub (B Qaa) [1,0,1,1,1,0]) (sub (B Qaa) [1,0,1,1,1,1]) (QaU (sub (B Qaa) [1,0,1,0]) (sub (B Qaa) [1,0,1,1]) (Qan 0 (retK Tryz.prog (R Qaa) 0 (outK (Qak Tryz.prog Qaa))))))))) wJ) (Qan 1 (seqK (E0 lb n 0 986) (sub (B Qaa) [1,0,1,1,1,1,1,1,0,1,1,1,1,0]) (sub (B Qaa) [1,0,1,1,1,1,1,1,0,1,1,1,1,1]) (QaU (sub (B Qaa) [1,0,1,1,1,1,1,0]) (sub (B Qaa) [1,0,1,1,1,1,1,1]) (QaU (sub (B Qaa) [1,0,1,1,1,0]) (sub (B Qaa) [1,0,1,1,1,1]) (QaU (sub (B Qaa) [1,0,1,0]) (sub (B Qaa) [1,0,1,1]) (Qan 0 (retK Tryz.prog (R Qaa) 0 (outK (Qak Tryz.prog Qaa))))))))))) ⟨fr 187 [(0,vS a1),(1, .val (.int .i32 b2)),(4,vI 0),(7, .val (.str ((Utf8.encode b2).data.toList))),(8, .val (.int .i64 (IntKind.wrap .i64 ((((Utf8.encode b2).data.toList).length : Int) - 1)))),(9,vI qp),(10,vI 0),(11,vV qJ),(17, .val (.int .i32 b2)),(18, .val (.str ((Utf8.encode b2).data.toList))),(19, .val (.str ((Utf8.encode b2).data.toList))),(20, .val (.int .i64 (((Utf8.encode b2).data.toList).length : Int))),(21, .val (.int .i64 (IntKind.wrap .i64 ((((Utf8.encode b2).data.toList).length : Int) - 1)))),(22, .val (.int .i64 (IntKind.wrap .i64 ((((Utf8.encode b2).data.toList).length : Int) - 1)))),(160, .val (.bool (decide (b2 < 128)))),(161, .val (.int .i32 b2)),(162, .val (.bool (decide ((0 : Int) ≤ b2)))),(163,vB true),(164, .val (.int .i32 b2)),(165, .val (.bool (decide (b2 < 128)))),(166, .val (.bool (decide (b2 < 128)))),(171, .val (.bool (b2 == 65533))),(172, .val (.int .i32 b2)),(173, .val (.bool (b2 == 65533))),(183, .val (.bool (!b7))),(184, .val (.int .i32 b2)),(185,vV r6),(186, .val (.bool (!b7)))],[bx 187 []],KK⟩)
noncomputable def QjT (lb n wJ : Nat) (a1 : LB) (b2 : Int) (b7 : Bool) (r6 : CV) : Option CV :=
 hold (E0 lb n 0 980 (sub (B Qaa) [1,0,1,1,1,1,1,1,0,1,1,1,1,0,0,0,1,0,0,1]) (Qan 2 (QeB 0 (Qal (sub (B Qaa) [1,0,1,1,1,1,1,1,0,1,1,1,1,0,0,0]) ++ [11,12,12]) [] (QaC (E0 lb n 0 984) 0 (Qal (sub (B Qaa) [1,0,1,1,1,1,1,1,0,1,1,1,1,0,0,0]) ++ [11,12,12]) [] (sub (B Qaa) [1,0,1,1,1,1,1,1,0,1,1,1,1,0,0,0]) (Qan 1 (seqK (E0 lb n 0 986) (sub (B Qaa) [1,0,1,1,1,1,1,1,0,1,1,1,1,0]) (sub (B Qaa) [1,0,1,1,1,1,1,1,0,1,1,1,1,1]) (QaU (sub (B Qaa) [1,0,1,1,1,1,1,0]) (sub (B Qaa) [1,0,1,1,1,1,1,1]) (QaU (sub (B Qaa) [1,0,1,1,1,0]) (sub (B Qaa) [1,0,1,1,1,1]) (QaU (sub (B Qaa) [1,0,1,0]) (sub (B Qaa) [1,0,1,1]) (Qan 0 (retK Tryz.prog (R Qaa) 0 (outK (Qak Tryz.prog Qaa))))))))) wJ) (Qan 1 (seqK (E0 lb n 0 986) (sub (B Qaa) [1,0,1,1,1,1,1,1,0,1,1,1,1,0]) (sub (B Qaa) [1,0,1,1,1,1,1,1,0,1,1,1,1,1]) (QaU (sub (B Qaa) [1,0,1,1,1,1,1,0]) (sub (B Qaa) [1,0,1,1,1,1,1,1]) (QaU (sub (B Qaa) [1,0,1,1,1,0]) (sub (B Qaa) [1,0,1,1,1,1]) (QaU (sub (B Qaa) [1,0,1,0]) (sub (B Qaa) [1,0,1,1]) (Qan 0 (retK Tryz.prog (R Qaa) 0 (outK (Qak Tryz.prog Qaa))))))))))) ⟨fr 187 [(0,vS a1),(1, .val (.int .i32 b2)),(4,vI 0),(7, .val (.str ((Utf8.encode b2).data.toList))),(8, .val (.int .i64 (IntKind.wrap .i64 ((((Utf8.encode b2).data.toList).length : Int) - 1)))),(9, .val (.int .i64 (IntKind.wrap .i64 ((((Utf8.encode b2).data.toList).length : Int) - 1)))),(10,vI 0),(17, .val (.int .i32 b2)),(18, .val (.str ((Utf8.encode b2).data.toList))),(19, .val (.str ((Utf8.encode b2).data.toList))),(20, .val (.int .i64 (((Utf8.encode b2).data.toList).length : Int))),(21, .val (.int .i64 (IntKind.wrap .i64 ((((Utf8.encode b2).data.toList).length : Int) - 1)))),(22, .val (.int .i64 (IntKind.wrap .i64 ((((Utf8.encode b2).data.toList).length : Int) - 1)))),(160, .val (.bool (decide (b2 < 128)))),(161, .val (.int .i32 b2)),(162, .val (.bool (decide ((0 : Int) ≤ b2)))),(163,vB true),(164, .val (.int .i32 b2)),(165, .val (.bool (decide (b2 < 128)))),(166, .val (.bool (decide (b2 < 128)))),(171, .val (.bool (b2 == 65533))),(172, .val (.int .i32 b2)),(173, .val (.bool (b2 == 65533))),(183, .val (.bool (!b7))),(184, .val (.int .i32 b2)),(185,vV r6),(186, .val (.bool (!b7)))],[bx 187 []],KK⟩)
noncomputable def Qfu (lb n : Nat) (a1 : LB) (b2 : Int) (b7 : Bool) (r6 : CV) : Option CV :=
 hold (E0 lb n 0 986 (sub (B Qaa) [1,0,1,1,1,1,1,1,0,1,1,1,1,1]) (QaU (sub (B Qaa) [1,0,1,1,1,1,1,0]) (sub (B Qaa) [1,0,1,1,1,1,1,1]) (QaU (sub (B Qaa) [1,0,1,1,1,0]) (sub (B Qaa) [1,0,1,1,1,1]) (QaU (sub (B Qaa) [1,0,1,0]) (sub (B Qaa) [1,0,1,1]) (Qan 0 (retK Tryz.prog (R Qaa) 0 (outK (Qak Tryz.prog Qaa))))))) ⟨fr 187 [(0,vS a1),(1, .val (.int .i32 b2)),(4,vI 0),(7, .val (.str ((Utf8.encode b2).data.toList))),(8, .val (.int .i64 (IntKind.wrap .i64 ((((Utf8.encode b2).data.toList).length : Int) - 1)))),(9, .val (.int .i64 (IntKind.wrap .i64 ((((Utf8.encode b2).data.toList).length : Int) - 1)))),(10,vI 0),(17, .val (.int .i32 b2)),(18, .val (.str ((Utf8.encode b2).data.toList))),(19, .val (.str ((Utf8.encode b2).data.toList))),(20, .val (.int .i64 (((Utf8.encode b2).data.toList).length : Int))),(21, .val (.int .i64 (IntKind.wrap .i64 ((((Utf8.encode b2).data.toList).length : Int) - 1)))),(22, .val (.int .i64 (IntKind.wrap .i64 ((((Utf8.encode b2).data.toList).length : Int) - 1)))),(160, .val (.bool (decide (b2 < 128)))),(161, .val (.int .i32 b2)),(162, .val (.bool (decide ((0 : Int) ≤ b2)))),(163,vB true),(164, .val (.int .i32 b2)),(165, .val (.bool (decide (b2 < 128)))),(166, .val (.bool (decide (b2 < 128)))),(171, .val (.bool (b2 == 65533))),(172, .val (.int .i32 b2)),(173, .val (.bool (b2 == 65533))),(183, .val (.bool (!b7))),(184, .val (.int .i32 b2)),(185,vV r6),(186, .val (.bool (!b7)))],[bx 187 []],KK⟩)
theorem QhF (lb n : Nat) (a1 : LB) (b2 : Int) (b7 : Bool) (r6 : CV) :
 Qfu lb n a1 b2 b7 r6 =
 some (.int .i64 (-1)) := (Qaf _).trans (by kernel_rfl)
theorem Qei (lb n wJ : Nat) (a1 : LB) (b2 : Int) (b7 : Bool) (r6 : CV) :
 QfN lb n (wJ + 1) a1 b2 b7 r6 =
 bif (decide ((IntKind.wrap .i64 ((((Utf8.encode b2).data.toList).length : Int) - 1)) < (a1.length : Int))) then
 (optO (atS a1 (IntKind.wrap .i64 ((((Utf8.encode b2).data.toList).length : Int) - 1))) fun pL =>
 optO (atS ((Utf8.encode b2).data.toList) (IntKind.wrap .i64 ((((Utf8.encode b2).data.toList).length : Int) - 1))) fun pY =>
 bif ((pL.toNat : Int) != (pY.toNat : Int)) then
 (chkO (decide ((0 : Int) ≤ (IntKind.wrap .i64 ((IntKind.wrap .i64 ((((Utf8.encode b2).data.toList).length : Int) - 1)) + 1)) ∧ (IntKind.wrap .i64 ((IntKind.wrap .i64 ((((Utf8.encode b2).data.toList).length : Int) - 1)) + 1)) ≤ (a1.length : Int))) (
 optO (atS ((Utf8.encode b2).data.toList) (IntKind.wrap .i64 ((((Utf8.encode b2).data.toList).length : Int) - 1))) fun qb =>
 optO (C lb n Qcp [.str ((a1.take ((a1.length : Int).toNat)).drop ((IntKind.wrap .i64 ((IntKind.wrap .i64 ((((Utf8.encode b2).data.toList).length : Int) - 1)) + 1)).toNat)), .int .u8 (qb.toNat : Int)]) fun oF =>
 optO (CV.asI .i64 oF) fun w9 =>
 bif (decide (w9 < 0)) then
 (some (.int .i64 (-1)))
 else
 (optO (CV.asI .i64 oF) fun i37 =>
 QjM lb n wJ a1 b2 b7 r6 (IntKind.wrap .i64 ((IntKind.wrap .i64 ((((Utf8.encode b2).data.toList).length : Int) - 1)) + (IntKind.wrap .i64 (i37 + 1)))) oF)))
 else
 (QjT lb n wJ a1 b2 b7 r6 ))
 else
 (Qfu lb n a1 b2 b7 r6 ) := (Qaf _).trans (by kernel_rfl)
noncomputable def Qjn (lb n pR : Nat) (a1 : LB) (b2 : Int) (pK : Nat) : Option CV :=
 hold (QaC (E0 lb n 0 990) 0 (Qal (sub (B Qaa) [1,0,1,1,1,0,0,1,0,0]) ++ [5,6]) [] (sub (B Qaa) [1,0,1,1,1,0,0,1,0,0]) (Qan 9 (seqK (E0 lb n 0 993) (sub (B Qaa) [1,0,1,1,1,0,0]) (sub (B Qaa) [1,0,1,1,1,0,1]) (QaU (sub (B Qaa) [1,0,1,1,1,0]) (sub (B Qaa) [1,0,1,1,1,1]) (QaU (sub (B Qaa) [1,0,1,0]) (sub (B Qaa) [1,0,1,1]) (Qan 0 (retK Tryz.prog (R Qaa) 0 (outK (Qak Tryz.prog Qaa)))))))) pR ⟨fr 187 [(0,vS a1),(1, .val (.int .i32 b2)),(4,vI 0),(160,vB false),(161, .val (.int .i32 b2)),(162, .val (.bool (decide ((0 : Int) ≤ b2)))),(163,vB false),(164, .undef),(165, .undef),(166,vB false),(171, .val (.bool (b2 == 65533))),(172, .val (.int .i32 b2)),(173, .val (.bool (b2 == 65533))),(174,vS a1),(175, .siter a1 pK)],[bx 187 []],KK⟩)
noncomputable def Qjo (lb n pX : Nat) (a1 : LB) (b2 : Int) (yQ : Bool) (yn : CV) : Option CV :=
 hold (QaC (E0 lb n 0 984) 0 (Qal (sub (B Qaa) [1,0,1,1,1,1,1,1,0,1,1,1,1,0,0,0]) ++ [11,12,12]) [] (sub (B Qaa) [1,0,1,1,1,1,1,1,0,1,1,1,1,0,0,0]) (Qan 1 (seqK (E0 lb n 0 986) (sub (B Qaa) [1,0,1,1,1,1,1,1,0,1,1,1,1,0]) (sub (B Qaa) [1,0,1,1,1,1,1,1,0,1,1,1,1,1]) (QaU (sub (B Qaa) [1,0,1,1,1,1,1,0]) (sub (B Qaa) [1,0,1,1,1,1,1,1]) (QaU (sub (B Qaa) [1,0,1,1,1,0]) (sub (B Qaa) [1,0,1,1,1,1]) (QaU (sub (B Qaa) [1,0,1,0]) (sub (B Qaa) [1,0,1,1]) (Qan 0 (retK Tryz.prog (R Qaa) 0 (outK (Qak Tryz.prog Qaa))))))))) pX ⟨fr 187 [(0,vS a1),(1, .val (.int .i32 b2)),(4,vI 0),(7, .val (.str ((Utf8.encode b2).data.toList))),(8, .val (.int .i64 (IntKind.wrap .i64 ((((Utf8.encode b2).data.toList).length : Int) - 1)))),(9, .val (.int .i64 (IntKind.wrap .i64 ((((Utf8.encode b2).data.toList).length : Int) - 1)))),(10,vI 0),(17, .val (.int .i32 b2)),(18, .val (.str ((Utf8.encode b2).data.toList))),(19, .val (.str ((Utf8.encode b2).data.toList))),(20, .val (.int .i64 (((Utf8.encode b2).data.toList).length : Int))),(21, .val (.int .i64 (IntKind.wrap .i64 ((((Utf8.encode b2).data.toList).length : Int) - 1)))),(22, .val (.int .i64 (IntKind.wrap .i64 ((((Utf8.encode b2).data.toList).length : Int) - 1)))),(160,vB false),(161, .val (.int .i32 b2)),(162, .val (.bool (decide ((0 : Int) ≤ b2)))),(163,vB false),(164, .undef),(165, .undef),(166,vB false),(171, .val (.bool (b2 == 65533))),(172, .val (.int .i32 b2)),(173, .val (.bool (b2 == 65533))),(183, .val (.bool (!yQ))),(184, .val (.int .i32 b2)),(185,vV yn),(186, .val (.bool (!yQ)))],[bx 187 []],KK⟩)
theorem QcU (lb n : Nat) (a1 : LB) (b2 : Int) :
 top lb n Qaa [.str a1, .int .i32 b2] =
 bif (decide ((0 : Int) ≤ b2)) then
 (bif (decide (b2 < 128)) then
 (optO (C lb n Qcp [.str a1, .int .u8 (IntKind.wrap .u8 (b2))]) fun r3 =>
 some (r3))
 else
 (bif (b2 == 65533) then
 (Qb5 lb n n a1 b2 0)
 else
 (optO (C lb n Qb3 [.int .i32 b2]) fun r6 =>
 optO (CV.asB r6) fun b7 =>
 bif (!b7) then
 (some (.int .i64 (-1)))
 else
 (QfN lb n n a1 b2 b7 r6 ))))
 else
 (bif (b2 == 65533) then
 (Qjn lb n n a1 b2 0)
 else
 (optO (C lb n Qb3 [.int .i32 b2]) fun yn =>
 optO (CV.asB yn) fun yQ =>
 bif (!yQ) then
 (some (.int .i64 (-1)))
 else
 (Qjo lb n n a1 b2 yQ yn ))) := by kernel_rfl
theorem QbZ (lb n : Nat) (a1 : Int) :
 top lb n Qb3 [.int .i32 a1] =
 bif (decide ((0 : Int) ≤ a1)) then
 (bif (decide (a1 < 55296)) then
 (some (.bool true))
 else
 (bif (decide ((57343 : Int) < a1)) then
 (bif (decide (a1 ≤ 1114111)) then
 (some (.bool true))
 else
 (some (.bool false)))
 else
 (some (.bool false))))
 else
 (bif (decide ((57343 : Int) < a1)) then
 (bif (decide (a1 ≤ 1114111)) then
 (some (.bool true))
 else
 (some (.bool false)))
 else
 (some (.bool false))) := by kernel_rfl
theorem Qgi (lb n : Nat) (a1 : Int) :
 top lb n QcG [.int .i64 a1] =
 some (.bool (decide (a1 > 8))) := by kernel_rfl
end Go.Proofs.K5
