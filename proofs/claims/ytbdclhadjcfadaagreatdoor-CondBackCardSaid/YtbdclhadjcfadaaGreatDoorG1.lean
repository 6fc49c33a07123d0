/- Equations of functions, printed by program. Conditions: none. -/
import Derived.Test.YtbdclhadjcfadaaGreatDoorEv
namespace Go.Proofs
open Go.Am
set_option maxRecDepth 100000
set_option linter.unusedVariables false
theorem QnD (lb n) (a1 : Int) :
 top lb n QbG [.int .i64 a1] =
 optO (C lb n Qge [.int .i64 a1]) fun r2 =>
 some (r2) := by kernel_rfl
theorem QnR (lb n) (a1 : LB) :
 top lb n QaT [.str a1] =
 optO (C lb n QgD [.str a1, .int .i64 2, .int .i64 2]) fun r2 =>
 optO (CV.asB r2) fun b3 =>
 bif b3 then
 (optO (C lb n Qaq [.str a1, .fn QbN]) fun r4 =>
 optO (CV.asB r4) fun b5 =>
 some (.bool (!b5)))
 else
 (some (.bool false)) := by kernel_rfl
theorem Qnx (lb n) (a1 : LB) :
 top lb n QaS [.str a1] =
 bif ((a1.length : Int) == 3) then
 (optO (C lb n Qaq [.str a1, .fn QbE]) fun r2 =>
 some (r2))
 else
 (some (.bool false)) := by kernel_rfl
theorem QqB (lb n) (a1 : LB) (b2 c3 : Int) :
 top lb n QgD [.str a1, .int .i64 b2, .int .i64 c3] =
 bif (decide ((a1.length : Int) ≥ b2)) then
 (bif (decide ((a1.length : Int) ≤ c3)) then
 (optO (C lb n Qaq [.str a1, .fn Qcj]) fun r4 =>
 some (r4))
 else
 (some (.bool false)))
 else
 (some (.bool false)) := by kernel_rfl
theorem QpS (lb n) (a1 : Int) :
 top lb n QbN [.int .u8 a1] =
 bif (decide (a1 ≥ 48)) then
 (some (.bool (decide (a1 ≤ 57))))
 else
 (some (.bool false)) := by kernel_rfl
theorem Qnc (lb n) (a1 : Int) :
 top lb n QbE [.int .u8 a1] =
 bif (decide (a1 ≥ 65)) then
 (some (.bool (decide (a1 ≤ 90))))
 else
 (some (.bool false)) := by kernel_rfl
theorem Qoe (lb n) (a1 : Int) :
 top lb n Qcj [.int .u8 a1] =
 optO (C lb n QbE [.int .u8 a1]) fun r2 =>
 optO (CV.asB r2) fun b3 =>
 bif b3 then
 (some (.bool true))
 else
 (optO (C lb n QbN [.int .u8 a1]) fun r4 =>
 some (r4)) := by kernel_rfl
theorem Qoi (lb n) (a1 : LB) :
 top lb n QcO [.str a1] =
 optO (C lb n QcW [.str a1, .str [45]]) fun r2 =>
 optO (CV.asS r2) fun s3 =>
 bif (s3 == []) then
 (some (.tup [.int .i64 0, .int .i64 3]))
 else
 (optO (C lb n Qaq [r2, .fn QbN]) fun r4 =>
 optO (CV.asB r4) fun b5 =>
 bif (!b5) then
 (some (.tup [.int .i64 0, .int .i64 3]))
 else
 (optO (CV.asS r2) fun s6 =>
 optO (atS s6 0) fun c7 =>
 bif ((c7.toNat : Int) == 48) then
 (bif (!(a1 == [48])) then
 (some (.tup [.int .i64 0, .int .i64 3]))
 else
 (optO (C lb n Qc1 [.str a1]) fun r9 =>
 optO (CV.asT r9) fun yR =>
 optO (yR[0]?) fun w5 =>
 optO (CV.asT r9) fun yW =>
 optO (yW[1]?) fun yg =>
 optO (CV.asE yg) fun oz =>
 bif (!oz) then
 (some (.tup [.int .i64 0, .int .i64 4]))
 else
 (some (.tup [w5, .int .i64 0]))))
 else
 (optO (C lb n Qc1 [.str a1]) fun we =>
 optO (CV.asT we) fun y4 =>
 optO (y4[0]?) fun y6 =>
 optO (CV.asT we) fun wD =>
 optO (wD[1]?) fun jy =>
 optO (CV.asE jy) fun vZ =>
 bif (!vZ) then
 (some (.tup [.int .i64 0, .int .i64 4]))
 else
 (some (.tup [y6, .int .i64 0]))))) := by kernel_rfl
noncomputable def text_every_text_digit_L1 :=
 fun lb n (jN : Nat) a1 i5 =>
 hold (QaC (E0 lb n 0 995) 0 (Qal (sub (B Qaq) [1,0,1,0,0]) ++ [5]) [] (sub (B Qaq) [1,0,1,0,0]) (Qan 0 (seqK (E0 lb n 0 998) (sub (B Qaq) [1,0]) (sub (B Qaq) [1,1]) (retK Tryz.prog (R Qaq) 0 (outK (Qak Tryz.prog Qaq))))) jN ⟨fr 18 [(0,vS a1),(1, .val (.fn QbN)),(4,vB false),(6,vS a1),(7, .val (.int .i64 (a1.length : Int))),(8,vI i5)],[bx 18 []],KK⟩)
noncomputable def Qen (lb n : Nat) (a1 : LB) : Option CV :=
 hold (E0 lb n 0 998 (sub (B Qaq) [1,1]) (retK Tryz.prog (R Qaq) 0 (outK (Qak Tryz.prog Qaq))) ⟨fr 18 [(0,vS a1),(1, .val (.fn QbN)),(4,vB false)],[bx 18 []],KK⟩)
theorem QgJ (lb n : Nat) (a1 : LB) :
 Qen lb n a1 =
 some (.bool true) := (Qaf _).trans (by kernel_rfl)
theorem QdA (lb n jN : Nat) (a1 : LB) (i5 : Int) :
 text_every_text_digit_L1 lb n (jN + 1) a1 i5 =
 bif (decide (i5 < (a1.length : Int))) then
 (optO (atS a1 i5) fun yr =>
 optO (C lb n QbN [.int .u8 (yr.toNat : Int)]) fun jo =>
 optO (CV.asB jo) fun yS =>
 bif (!yS) then
 (some (.bool false))
 else
 (text_every_text_digit_L1 lb n jN a1 (IntKind.wrap .i64 (i5 + 1))))
 else
 (Qen lb n a1 ) := (Qaf _).trans (by kernel_rfl)
theorem QhR (lb n : Nat) (a1 : LB) :
 top lb n Qaq [.str a1, .fn QbN] =
 text_every_text_digit_L1 lb n n a1 0 := by kernel_rfl
noncomputable def QbP (lb n jN : Nat) (a1 : LB) (i5 : Int) : Option CV :=
 hold (QaC (E0 lb n 0 995) 0 (Qal (sub (B Qaq) [1,0,1,0,0]) ++ [5]) [] (sub (B Qaq) [1,0,1,0,0]) (Qan 0 (seqK (E0 lb n 0 998) (sub (B Qaq) [1,0]) (sub (B Qaq) [1,1]) (retK Tryz.prog (R Qaq) 0 (outK (Qak Tryz.prog Qaq))))) jN ⟨fr 18 [(0,vS a1),(1, .val (.fn QbE)),(4,vB false),(6,vS a1),(7, .val (.int .i64 (a1.length : Int))),(8,vI i5)],[bx 18 []],KK⟩)
noncomputable def Qd1 (lb n : Nat) (a1 : LB) : Option CV :=
 hold (E0 lb n 0 998 (sub (B Qaq) [1,1]) (retK Tryz.prog (R Qaq) 0 (outK (Qak Tryz.prog Qaq))) ⟨fr 18 [(0,vS a1),(1, .val (.fn QbE)),(4,vB false)],[bx 18 []],KK⟩)
theorem QfY (lb n : Nat) (a1 : LB) :
 Qd1 lb n a1 =
 some (.bool true) := (Qaf _).trans (by kernel_rfl)
theorem Qdp (lb n jN : Nat) (a1 : LB) (i5 : Int) :
 QbP lb n (jN + 1) a1 i5 =
 bif (decide (i5 < (a1.length : Int))) then
 (optO (atS a1 i5) fun yr =>
 optO (C lb n QbE [.int .u8 (yr.toNat : Int)]) fun jo =>
 optO (CV.asB jo) fun yS =>
 bif (!yS) then
 (some (.bool false))
 else
 (QbP lb n jN a1 (IntKind.wrap .i64 (i5 + 1))))
 else
 (Qd1 lb n a1 ) := (Qaf _).trans (by kernel_rfl)
theorem Qg4 (lb n : Nat) (a1 : LB) :
 top lb n Qaq [.str a1, .fn QbE] =
 QbP lb n n a1 0 := by kernel_rfl
noncomputable def Qb0 (lb n jN : Nat) (a1 : LB) (i5 : Int) : Option CV :=
 hold (QaC (E0 lb n 0 995) 0 (Qal (sub (B Qaq) [1,0,1,0,0]) ++ [5]) [] (sub (B Qaq) [1,0,1,0,0]) (Qan 0 (seqK (E0 lb n 0 998) (sub (B Qaq) [1,0]) (sub (B Qaq) [1,1]) (retK Tryz.prog (R Qaq) 0 (outK (Qak Tryz.prog Qaq))))) jN ⟨fr 18 [(0,vS a1),(1, .val (.fn Qcj)),(4,vB false),(6,vS a1),(7, .val (.int .i64 (a1.length : Int))),(8,vI i5)],[bx 18 []],KK⟩)
noncomputable def Qeg (lb n : Nat) (a1 : LB) : Option CV :=
 hold (E0 lb n 0 998 (sub (B Qaq) [1,1]) (retK Tryz.prog (R Qaq) 0 (outK (Qak Tryz.prog Qaq))) ⟨fr 18 [(0,vS a1),(1, .val (.fn Qcj)),(4,vB false)],[bx 18 []],KK⟩)
theorem Qf5 (lb n : Nat) (a1 : LB) :
 Qeg lb n a1 =
 some (.bool true) := (Qaf _).trans (by kernel_rfl)
theorem Qdy (lb n jN : Nat) (a1 : LB) (i5 : Int) :
 Qb0 lb n (jN + 1) a1 i5 =
 bif (decide (i5 < (a1.length : Int))) then
 (optO (atS a1 i5) fun yr =>
 optO (C lb n Qcj [.int .u8 (yr.toNat : Int)]) fun jo =>
 optO (CV.asB jo) fun yS =>
 bif (!yS) then
 (some (.bool false))
 else
 (Qb0 lb n jN a1 (IntKind.wrap .i64 (i5 + 1))))
 else
 (Qeg lb n a1 ) := (Qaf _).trans (by kernel_rfl)
theorem Qhh (lb n : Nat) (a1 : LB) :
 top lb n Qaq [.str a1, .fn Qcj] =
 Qb0 lb n n a1 0 := by kernel_rfl
end Go.Proofs
