/- Equations of functions, printed by program. Conditions: none. -/
import Derived.Test.YtigmcfhmpcajlaaGreatDoorEv
namespace Go.Proofs
open Go.Am
set_option maxRecDepth 100000
set_option linter.unusedVariables false
noncomputable def slices_choosePivotOrdered_int_J1 :=
 fun lb n (jf : Bool) (a2 : LL) b3 c4 ow =>
 hold (E0 lb n 0 993 (sub (B Qam) [1, 1, 1, 1, 1, 1, 1]) (retK Tryz.prog (R Qam) 0 (outK (Qae Tryz.prog Qam))) ⟨fr 57 [(0, .val (.list jf a2)), (1, vI b3), (2, vI c4), (6, vI 0), (7, vI 0), (8, .val (.int .i64 (IntKind.wrap .i64 (c4 - b3)))), (9, .ptr 0 9 0), (10, .val (.int .i64 (IntKind.wrap .i64 (b3 + (IntKind.wrap .i64 ((IntKind.wrap .i64 (Int.tdiv (IntKind.wrap .i64 (c4 - b3)) 4)) * 1)))))), (11, .val (.int .i64 (IntKind.wrap .i64 (b3 + (IntKind.wrap .i64 ((IntKind.wrap .i64 (Int.tdiv (IntKind.wrap .i64 (c4 - b3)) 4)) * 2)))))), (12, .val (.int .i64 (IntKind.wrap .i64 (b3 + (IntKind.wrap .i64 ((IntKind.wrap .i64 (Int.tdiv (IntKind.wrap .i64 (c4 - b3)) 4)) * 3)))))), (13, vI c4), (14, vI b3), (15, .val (.int .i64 (IntKind.wrap .i64 (c4 - b3)))), (16, vI b3), (17, .val (.int .i64 (IntKind.wrap .i64 (c4 - b3)))), (18, .val (.int .i64 (IntKind.wrap .i64 (Int.tdiv (IntKind.wrap .i64 (c4 - b3)) 4)))), (19, .val (.int .i64 (IntKind.wrap .i64 ((IntKind.wrap .i64 (Int.tdiv (IntKind.wrap .i64 (c4 - b3)) 4)) * 1)))), (20, .val (.int .i64 (IntKind.wrap .i64 (b3 + (IntKind.wrap .i64 ((IntKind.wrap .i64 (Int.tdiv (IntKind.wrap .i64 (c4 - b3)) 4)) * 1)))))), (21, vI b3), (22, .val (.int .i64 (IntKind.wrap .i64 (c4 - b3)))), (23, .val (.int .i64 (IntKind.wrap .i64 (Int.tdiv (IntKind.wrap .i64 (c4 - b3)) 4)))), (24, .val (.int .i64 (IntKind.wrap .i64 ((IntKind.wrap .i64 (Int.tdiv (IntKind.wrap .i64 (c4 - b3)) 4)) * 2)))), (25, .val (.int .i64 (IntKind.wrap .i64 (b3 + (IntKind.wrap .i64 ((IntKind.wrap .i64 (Int.tdiv (IntKind.wrap .i64 (c4 - b3)) 4)) * 2)))))), (26, vI b3), (27, .val (.int .i64 (IntKind.wrap .i64 (c4 - b3)))), (28, .val (.int .i64 (IntKind.wrap .i64 (Int.tdiv (IntKind.wrap .i64 (c4 - b3)) 4)))), (29, .val (.int .i64 (IntKind.wrap .i64 ((IntKind.wrap .i64 (Int.tdiv (IntKind.wrap .i64 (c4 - b3)) 4)) * 3)))), (30, .val (.int .i64 (IntKind.wrap .i64 (b3 + (IntKind.wrap .i64 ((IntKind.wrap .i64 (Int.tdiv (IntKind.wrap .i64 (c4 - b3)) 4)) * 3))))))], [bx 57 [(9, some [vI ow])]], KK⟩)
theorem Qe8 (lb n : Nat) (jf : Bool) (a2 : LL) (b3 c4 ow : Int) :
 slices_choosePivotOrdered_int_J1 lb n jf a2 b3 c4 ow =
 bif (ow == 0) then
 (some (.tup [.int .i64 (IntKind.wrap .i64 (b3 + (IntKind.wrap .i64 ((IntKind.wrap .i64 (Int.tdiv (IntKind.wrap .i64 (c4 - b3)) 4)) * 2)))), .int .i64 1]))
 else
 (bif (ow == 12) then
 (some (.tup [.int .i64 (IntKind.wrap .i64 (b3 + (IntKind.wrap .i64 ((IntKind.wrap .i64 (Int.tdiv (IntKind.wrap .i64 (c4 - b3)) 4)) * 2)))), .int .i64 2]))
 else
 (some (.tup [.int .i64 (IntKind.wrap .i64 (b3 + (IntKind.wrap .i64 ((IntKind.wrap .i64 (Int.tdiv (IntKind.wrap .i64 (c4 - b3)) 4)) * 2)))), .int .i64 0]))) := (Qaf _).trans (by kernel_rfl)
noncomputable def Qa7 (lb n : Nat) (jf : Bool) (a2 : LL) (b3 c4 zy yU : Int) : Option CV :=
 hold (E0 lb n 0 993 (sub (B Qam) [1, 1, 1, 1, 1, 1, 1]) (retK Tryz.prog (R Qam) 0 (outK (Qae Tryz.prog Qam))) ⟨fr 57 [(0, .val (.list jf a2)), (1, vI b3), (2, vI c4), (6, vI 0), (7, vI 0), (8, .val (.int .i64 (IntKind.wrap .i64 (c4 - b3)))), (9, .ptr 0 9 0), (10, .val (.int .i64 (IntKind.wrap .i64 (b3 + (IntKind.wrap .i64 ((IntKind.wrap .i64 (Int.tdiv (IntKind.wrap .i64 (c4 - b3)) 4)) * 1)))))), (11, vI zy), (12, .val (.int .i64 (IntKind.wrap .i64 (b3 + (IntKind.wrap .i64 ((IntKind.wrap .i64 (Int.tdiv (IntKind.wrap .i64 (c4 - b3)) 4)) * 3)))))), (13, vI c4), (14, vI b3), (15, .val (.int .i64 (IntKind.wrap .i64 (c4 - b3)))), (16, vI b3), (17, .val (.int .i64 (IntKind.wrap .i64 (c4 - b3)))), (18, .val (.int .i64 (IntKind.wrap .i64 (Int.tdiv (IntKind.wrap .i64 (c4 - b3)) 4)))), (19, .val (.int .i64 (IntKind.wrap .i64 ((IntKind.wrap .i64 (Int.tdiv (IntKind.wrap .i64 (c4 - b3)) 4)) * 1)))), (20, .val (.int .i64 (IntKind.wrap .i64 (b3 + (IntKind.wrap .i64 ((IntKind.wrap .i64 (Int.tdiv (IntKind.wrap .i64 (c4 - b3)) 4)) * 1)))))), (21, vI b3), (22, .val (.int .i64 (IntKind.wrap .i64 (c4 - b3)))), (23, .val (.int .i64 (IntKind.wrap .i64 (Int.tdiv (IntKind.wrap .i64 (c4 - b3)) 4)))), (24, .val (.int .i64 (IntKind.wrap .i64 ((IntKind.wrap .i64 (Int.tdiv (IntKind.wrap .i64 (c4 - b3)) 4)) * 2)))), (25, .val (.int .i64 (IntKind.wrap .i64 (b3 + (IntKind.wrap .i64 ((IntKind.wrap .i64 (Int.tdiv (IntKind.wrap .i64 (c4 - b3)) 4)) * 2)))))), (26, vI b3), (27, .val (.int .i64 (IntKind.wrap .i64 (c4 - b3)))), (28, .val (.int .i64 (IntKind.wrap .i64 (Int.tdiv (IntKind.wrap .i64 (c4 - b3)) 4)))), (29, .val (.int .i64 (IntKind.wrap .i64 ((IntKind.wrap .i64 (Int.tdiv (IntKind.wrap .i64 (c4 - b3)) 4)) * 3)))), (30, .val (.int .i64 (IntKind.wrap .i64 (b3 + (IntKind.wrap .i64 ((IntKind.wrap .i64 (Int.tdiv (IntKind.wrap .i64 (c4 - b3)) 4)) * 3))))))], [bx 57 [(9, some [vI yU])]], KK⟩)
theorem QfZ (lb n : Nat) (jf : Bool) (a2 : LL) (b3 c4 : Int) :
 top lb n Qam [.list jf a2, .int .i64 b3, .int .i64 c4] =
 bif (decide ((IntKind.wrap .i64 (c4 - b3)) ≥ 8)) then
 (bif (decide ((IntKind.wrap .i64 (c4 - b3)) ≥ 50)) then
 (E0 lb n 0 988 (sub (B Qam) [1, 1, 1, 1, 1, 1, 0, 1, 0, 0, 1, 0]) (Qeb (sub (B Qam) [1, 1, 1, 1, 1, 1, 0, 1, 0, 0, 1, 0]) (sub (B Qam) [1, 1, 1, 1, 1, 1, 0, 1, 0, 0, 1, 1]) (seqK (E0 lb n 0 990) (sub (B Qam) [1, 1, 1, 1, 1, 1, 0, 1, 0, 0]) (sub (B Qam) [1, 1, 1, 1, 1, 1, 0, 1, 0, 1]) (Qeb (sub (B Qam) [1, 1, 1, 1, 1, 1, 0, 1, 0]) (sub (B Qam) [1, 1, 1, 1, 1, 1, 0, 1, 1]) (seqK (E0 lb n 0 993) (sub (B Qam) [1, 1, 1, 1, 1, 1, 0]) (sub (B Qam) [1, 1, 1, 1, 1, 1, 1]) (retK Tryz.prog (R Qam) 0 (outK (Qae Tryz.prog Qam))))))) ⟨fr 57 [(0, .val (.list jf a2)), (1, vI b3), (2, vI c4), (6, vI 0), (7, vI 0), (8, .val (.int .i64 (IntKind.wrap .i64 (c4 - b3)))), (9, .ptr 0 9 0), (10, .val (.int .i64 (IntKind.wrap .i64 (b3 + (IntKind.wrap .i64 ((IntKind.wrap .i64 (Int.tdiv (IntKind.wrap .i64 (c4 - b3)) 4)) * 1)))))), (11, .val (.int .i64 (IntKind.wrap .i64 (b3 + (IntKind.wrap .i64 ((IntKind.wrap .i64 (Int.tdiv (IntKind.wrap .i64 (c4 - b3)) 4)) * 2)))))), (12, .val (.int .i64 (IntKind.wrap .i64 (b3 + (IntKind.wrap .i64 ((IntKind.wrap .i64 (Int.tdiv (IntKind.wrap .i64 (c4 - b3)) 4)) * 3)))))), (13, vI c4), (14, vI b3), (15, .val (.int .i64 (IntKind.wrap .i64 (c4 - b3)))), (16, vI b3), (17, .val (.int .i64 (IntKind.wrap .i64 (c4 - b3)))), (18, .val (.int .i64 (IntKind.wrap .i64 (Int.tdiv (IntKind.wrap .i64 (c4 - b3)) 4)))), (19, .val (.int .i64 (IntKind.wrap .i64 ((IntKind.wrap .i64 (Int.tdiv (IntKind.wrap .i64 (c4 - b3)) 4)) * 1)))), (20, .val (.int .i64 (IntKind.wrap .i64 (b3 + (IntKind.wrap .i64 ((IntKind.wrap .i64 (Int.tdiv (IntKind.wrap .i64 (c4 - b3)) 4)) * 1)))))), (21, vI b3), (22, .val (.int .i64 (IntKind.wrap .i64 (c4 - b3)))), (23, .val (.int .i64 (IntKind.wrap .i64 (Int.tdiv (IntKind.wrap .i64 (c4 - b3)) 4)))), (24, .val (.int .i64 (IntKind.wrap .i64 ((IntKind.wrap .i64 (Int.tdiv (IntKind.wrap .i64 (c4 - b3)) 4)) * 2)))), (25, .val (.int .i64 (IntKind.wrap .i64 (b3 + (IntKind.wrap .i64 ((IntKind.wrap .i64 (Int.tdiv (IntKind.wrap .i64 (c4 - b3)) 4)) * 2)))))), (26, vI b3), (27, .val (.int .i64 (IntKind.wrap .i64 (c4 - b3)))), (28, .val (.int .i64 (IntKind.wrap .i64 (Int.tdiv (IntKind.wrap .i64 (c4 - b3)) 4)))), (29, .val (.int .i64 (IntKind.wrap .i64 ((IntKind.wrap .i64 (Int.tdiv (IntKind.wrap .i64 (c4 - b3)) 4)) * 3)))), (30, .val (.int .i64 (IntKind.wrap .i64 (b3 + (IntKind.wrap .i64 ((IntKind.wrap .i64 (Int.tdiv (IntKind.wrap .i64 (c4 - b3)) 4)) * 3)))))), (31, .val (.int .i64 (IntKind.wrap .i64 (c4 - b3)))), (32, .val (.bool (decide ((IntKind.wrap .i64 (c4 - b3)) ≥ 8)))), (33, .val (.int .i64 (IntKind.wrap .i64 (c4 - b3)))), (34, .val (.bool (decide ((IntKind.wrap .i64 (c4 - b3)) ≥ 50))))], [bx 57 [(9, some [vI 0])]], KK⟩)
 else
 (optO (atL a2 (IntKind.wrap .i64 (b3 + (IntKind.wrap .i64 ((IntKind.wrap .i64 (Int.tdiv (IntKind.wrap .i64 (c4 - b3)) 4)) * 2))))) fun c5 =>
 chkO (c5.length == 1) (
 optO (c5[0]?) fun x6 =>
 optO (atL a2 (IntKind.wrap .i64 (b3 + (IntKind.wrap .i64 ((IntKind.wrap .i64 (Int.tdiv (IntKind.wrap .i64 (c4 - b3)) 4)) * 1))))) fun c7 =>
 chkO (c7.length == 1) (
 optO (c7[0]?) fun x9 =>
 optO (C lb n Qbh [x6, x9]) fun zN =>
 optO (CV.asB zN) fun jo =>
 bif jo then
 (optO (atL a2 (IntKind.wrap .i64 (b3 + (IntKind.wrap .i64 ((IntKind.wrap .i64 (Int.tdiv (IntKind.wrap .i64 (c4 - b3)) 4)) * 3))))) fun c12 =>
 chkO (c12.length == 1) (
 optO (c12[0]?) fun kA =>
 optO (atL a2 (IntKind.wrap .i64 (b3 + (IntKind.wrap .i64 ((IntKind.wrap .i64 (Int.tdiv (IntKind.wrap .i64 (c4 - b3)) 4)) * 1))))) fun c14 =>
 chkO (c14.length == 1) (
 optO (c14[0]?) fun mL =>
 optO (C lb n Qbh [kA, mL]) fun g9 =>
 optO (CV.asB g9) fun zj =>
 bif zj then
 (optO (atL a2 (IntKind.wrap .i64 (b3 + (IntKind.wrap .i64 ((IntKind.wrap .i64 (Int.tdiv (IntKind.wrap .i64 (c4 - b3)) 4)) * 3))))) fun c19 =>
 chkO (c19.length == 1) (
 optO (c19[0]?) fun jE =>
 optO (atL a2 (IntKind.wrap .i64 (b3 + (IntKind.wrap .i64 ((IntKind.wrap .i64 (Int.tdiv (IntKind.wrap .i64 (c4 - b3)) 4)) * 2))))) fun c21 =>
 chkO (c21.length == 1) (
 optO (c21[0]?) fun gH =>
 optO (C lb n Qbh [jE, gH]) fun jl =>
 optO (CV.asB jl) fun sP =>
 bif sP then
 (slices_choosePivotOrdered_int_J1 lb n jf a2 b3 c4 3)
 else
 (Qa7 lb n jf a2 b3 c4 (IntKind.wrap .i64 (b3 + (IntKind.wrap .i64 ((IntKind.wrap .i64 (Int.tdiv (IntKind.wrap .i64 (c4 - b3)) 4)) * 3)))) 2))))
 else
 (optO (atL a2 (IntKind.wrap .i64 (b3 + (IntKind.wrap .i64 ((IntKind.wrap .i64 (Int.tdiv (IntKind.wrap .i64 (c4 - b3)) 4)) * 1))))) fun c28 =>
 chkO (c28.length == 1) (
 optO (c28[0]?) fun jR =>
 optO (atL a2 (IntKind.wrap .i64 (b3 + (IntKind.wrap .i64 ((IntKind.wrap .i64 (Int.tdiv (IntKind.wrap .i64 (c4 - b3)) 4)) * 2))))) fun c30 =>
 chkO (c30.length == 1) (
 optO (c30[0]?) fun jQ =>
 optO (C lb n Qbh [jR, jQ]) fun sT =>
 optO (CV.asB sT) fun zn =>
 bif zn then
 (slices_choosePivotOrdered_int_J1 lb n jf a2 b3 c4 2)
 else
 (Qa7 lb n jf a2 b3 c4 (IntKind.wrap .i64 (b3 + (IntKind.wrap .i64 ((IntKind.wrap .i64 (Int.tdiv (IntKind.wrap .i64 (c4 - b3)) 4)) * 1)))) 1)))))))
 else
 (optO (atL a2 (IntKind.wrap .i64 (b3 + (IntKind.wrap .i64 ((IntKind.wrap .i64 (Int.tdiv (IntKind.wrap .i64 (c4 - b3)) 4)) * 3))))) fun c35 =>
 chkO (c35.length == 1) (
 optO (c35[0]?) fun kQ =>
 optO (atL a2 (IntKind.wrap .i64 (b3 + (IntKind.wrap .i64 ((IntKind.wrap .i64 (Int.tdiv (IntKind.wrap .i64 (c4 - b3)) 4)) * 2))))) fun c37 =>
 chkO (c37.length == 1) (
 optO (c37[0]?) fun nw =>
 optO (C lb n Qbh [kQ, nw]) fun zT =>
 optO (CV.asB zT) fun lk =>
 bif lk then
 (optO (atL a2 (IntKind.wrap .i64 (b3 + (IntKind.wrap .i64 ((IntKind.wrap .i64 (Int.tdiv (IntKind.wrap .i64 (c4 - b3)) 4)) * 3))))) fun c41 =>
 chkO (c41.length == 1) (
 optO (c41[0]?) fun lm =>
 optO (atL a2 (IntKind.wrap .i64 (b3 + (IntKind.wrap .i64 ((IntKind.wrap .i64 (Int.tdiv (IntKind.wrap .i64 (c4 - b3)) 4)) * 1))))) fun c43 =>
 chkO (c43.length == 1) (
 optO (c43[0]?) fun mP =>
 optO (C lb n Qbh [lm, mP]) fun ze =>
 optO (CV.asB ze) fun zZ =>
 bif zZ then
 (Qa7 lb n jf a2 b3 c4 (IntKind.wrap .i64 (b3 + (IntKind.wrap .i64 ((IntKind.wrap .i64 (Int.tdiv (IntKind.wrap .i64 (c4 - b3)) 4)) * 1)))) 2)
 else
 (Qa7 lb n jf a2 b3 c4 (IntKind.wrap .i64 (b3 + (IntKind.wrap .i64 ((IntKind.wrap .i64 (Int.tdiv (IntKind.wrap .i64 (c4 - b3)) 4)) * 3)))) 1))))
 else
 (optO (atL a2 (IntKind.wrap .i64 (b3 + (IntKind.wrap .i64 ((IntKind.wrap .i64 (Int.tdiv (IntKind.wrap .i64 (c4 - b3)) 4)) * 2))))) fun c47 =>
 chkO (c47.length == 1) (
 optO (c47[0]?) fun gU =>
 optO (atL a2 (IntKind.wrap .i64 (b3 + (IntKind.wrap .i64 ((IntKind.wrap .i64 (Int.tdiv (IntKind.wrap .i64 (c4 - b3)) 4)) * 1))))) fun c49 =>
 chkO (c49.length == 1) (
 optO (c49[0]?) fun ld =>
 optO (C lb n Qbh [gU, ld]) fun zl =>
 optO (CV.asB zl) fun sA =>
 bif sA then
 (Qa7 lb n jf a2 b3 c4 (IntKind.wrap .i64 (b3 + (IntKind.wrap .i64 ((IntKind.wrap .i64 (Int.tdiv (IntKind.wrap .i64 (c4 - b3)) 4)) * 1)))) 1)
 else
 (slices_choosePivotOrdered_int_J1 lb n jf a2 b3 c4 0)))))))))))
 else
 (slices_choosePivotOrdered_int_J1 lb n jf a2 b3 c4 0) := by kernel_rfl
noncomputable def Qci (lb n yE : Nat) (jf : Bool) (a2 : LL) (b3 c4 : Int) : Option CV :=
 hold (Qau (E0 lb n 0 994) 0 (Qaj (sub (B Qaa) [1, 1, 0, 1, 0, 0]) ++ [9, 9, 10, 10]) [] (sub (B Qaa) [1, 1, 0, 1, 0, 0]) (Qal 0 (seqK (E0 lb n 0 997) (sub (B Qaa) [1, 1, 0]) (sub (B Qaa) [1, 1, 1]) (retK Tryz.prog (R Qaa) 0 (outK (Qae Tryz.prog Qaa))))) yE ⟨fr 133 [(0, .val (.list jf a2)), (1, vI b3), (2, vI c4), (6, vB false), (7, .val (.int .i64 (IntKind.wrap .i64 (b3 + 1)))), (8, vI 0), (11, vI b3), (12, .val (.int .i64 (IntKind.wrap .i64 (b3 + 1))))], [bx 133 []], KK⟩)
noncomputable def Qa3 (lb n gp yE : Nat) (jf : Bool) (a2 : LL) (b3 c4 y0 : Int) : Option CV :=
 hold (Qau (E0 lb n 0 988) 0 (Qaj (sub (B Qaa) [1, 1, 0, 1, 0, 0, 1, 0, 0, 0, 0, 0]) ++ []) [] (sub (B Qaa) [1, 1, 0, 1, 0, 0, 1, 0, 0, 0, 0, 0]) (Qal 2 (seqK (E0 lb n 0 990) (sub (B Qaa) [1, 1, 0, 1, 0, 0, 1, 0, 0, 0]) (sub (B Qaa) [1, 1, 0, 1, 0, 0, 1, 0, 0, 1]) (Qal 1 (seqK (E0 lb n 0 992) (sub (B Qaa) [1, 1, 0, 1, 0, 0, 1, 0]) (sub (B Qaa) [1, 1, 0, 1, 0, 0, 1, 1]) (QbK 0 (Qaj (sub (B Qaa) [1, 1, 0, 1, 0, 0]) ++ [9, 9, 10, 10]) [] (Qau (E0 lb n 0 994) 0 (Qaj (sub (B Qaa) [1, 1, 0, 1, 0, 0]) ++ [9, 9, 10, 10]) [] (sub (B Qaa) [1, 1, 0, 1, 0, 0]) (Qal 0 (seqK (E0 lb n 0 997) (sub (B Qaa) [1, 1, 0]) (sub (B Qaa) [1, 1, 1]) (retK Tryz.prog (R Qaa) 0 (outK (Qae Tryz.prog Qaa))))) yE) (Qal 0 (seqK (E0 lb n 0 997) (sub (B Qaa) [1, 1, 0]) (sub (B Qaa) [1, 1, 1]) (retK Tryz.prog (R Qaa) 0 (outK (Qae Tryz.prog Qaa)))))))))) gp ⟨fr 133 [(0, .val (.list jf a2)), (1, vI b3), (2, vI c4), (6, vB false), (7, vI y0), (8, vI 0), (11, vI b3), (12, .val (.int .i64 (IntKind.wrap .i64 (b3 + 1))))], [bx 133 []], KK⟩)
noncomputable def Qby (lb n yE : Nat) (jf : Bool) (a2 : LL) (b3 c4 kN : Int) : Option CV :=
 hold (E0 lb n 0 990 (sub (B Qaa) [1, 1, 0, 1, 0, 0, 1, 0, 0, 1]) (Qal 1 (seqK (E0 lb n 0 992) (sub (B Qaa) [1, 1, 0, 1, 0, 0, 1, 0]) (sub (B Qaa) [1, 1, 0, 1, 0, 0, 1, 1]) (QbK 0 (Qaj (sub (B Qaa) [1, 1, 0, 1, 0, 0]) ++ [9, 9, 10, 10]) [] (Qau (E0 lb n 0 994) 0 (Qaj (sub (B Qaa) [1, 1, 0, 1, 0, 0]) ++ [9, 9, 10, 10]) [] (sub (B Qaa) [1, 1, 0, 1, 0, 0]) (Qal 0 (seqK (E0 lb n 0 997) (sub (B Qaa) [1, 1, 0]) (sub (B Qaa) [1, 1, 1]) (retK Tryz.prog (R Qaa) 0 (outK (Qae Tryz.prog Qaa))))) yE) (Qal 0 (seqK (E0 lb n 0 997) (sub (B Qaa) [1, 1, 0]) (sub (B Qaa) [1, 1, 1]) (retK Tryz.prog (R Qaa) 0 (outK (Qae Tryz.prog Qaa)))))))) ⟨fr 133 [(0, .val (.list jf a2)), (1, vI b3), (2, vI c4), (6, vB false), (7, vI kN), (8, vI 0), (11, vI b3), (12, .val (.int .i64 (IntKind.wrap .i64 (b3 + 1))))], [bx 133 []], KK⟩)
theorem QdR (lb n yE : Nat) (jf : Bool) (a2 : LL) (b3 c4 kN : Int) :
 Qby lb n yE jf a2 b3 c4 kN =
 bif (kN == c4) then
 (some (.bool true))
 else
 (bif (decide ((IntKind.wrap .i64 (c4 - b3)) < 50)) then
 (some (.bool false))
 else
 (optO (atL a2 (IntKind.wrap .i64 (kN - 1))) fun c59 =>
 chkO (c59.length == 1) (
 optO (c59[0]?) fun j7 =>
 optO (atL a2 kN) fun c61 =>
 chkO (c61.length == 1) (
 optO (c61[0]?) fun wb =>
 optO (atL a2 kN) fun c63 =>
 chkO (c63.length == 1) (
 none))))) := (Qaf _).trans (by kernel_rfl)
theorem QbT (lb n gp yE : Nat) (jf : Bool) (a2 : LL) (b3 c4 y0 : Int) :
 Qa3 lb n (gp + 1) yE jf a2 b3 c4 y0 =
 bif (decide (y0 < c4)) then
 (optO (atL a2 y0) fun c52 =>
 chkO (c52.length == 1) (
 optO (c52[0]?) fun gP =>
 optO (atL a2 (IntKind.wrap .i64 (y0 - 1))) fun c54 =>
 chkO (c54.length == 1) (
 optO (c54[0]?) fun zE =>
 optO (C lb n Qbh [gP, zE]) fun zK =>
 optO (CV.asB zK) fun kP =>
 bif (!kP) then
 (Qa3 lb n gp yE jf a2 b3 c4 (IntKind.wrap .i64 (y0 + 1)))
 else
 (Qby lb n yE jf a2 b3 c4 y0))))
 else
 (Qby lb n yE jf a2 b3 c4 y0) := (Qaf _).trans (by kernel_rfl)
theorem Qdy (lb n yE : Nat) (jf : Bool) (a2 : LL) (b3 c4 : Int) :
 Qci lb n (yE + 1) jf a2 b3 c4 =
 Qa3 lb n n yE jf a2 b3 c4 (IntKind.wrap .i64 (b3 + 1)) := (Qaf _).trans (by kernel_rfl)
theorem Qd8 (lb n : Nat) (jf : Bool) (a2 : LL) (b3 c4 : Int) :
 top lb n Qaa [.list jf a2, .int .i64 b3, .int .i64 c4] =
 Qci lb n n jf a2 b3 c4  := by kernel_rfl
end Go.Proofs
