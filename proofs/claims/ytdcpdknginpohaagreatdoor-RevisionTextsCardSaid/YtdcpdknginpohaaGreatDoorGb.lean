/- Equations of functions, printed by program. Conditions: none. -/
import Derived.Test.YtdcpdknginpohaaGreatDoorEv
namespace Go.Proofs
open Go.Am
set_option maxRecDepth 100000
set_option linter.unusedVariables false
noncomputable def r07_head_J1 :=
 fun lb n jm jn jf ji je (jl : Bool) (aleg7 : LL) (vF : Bool) (l12 : LL) =>
 hold (E0 lb n 0 997 (sub (B Qch) [1, 1, 1]) (QiU (R Qch) 83) ⟨fr 50 [(0, .val (.agg [.str jm, .int .i64 jn, .int .i64 jf, .int .i64 ji, .int .i64 je, .list jl aleg7])), (1, .ptr 0 1 0), (2, .lst true true 83 []), (3, .lst true vF 83 l12)], [bx 50 [(1, some [vS jm, vI jn, vI jf, vI ji, vI je, .val (.list jl aleg7)])]], KK⟩)
noncomputable def Qhi (lb n : Nat) (jm : LB) (jn jf ji je : Int) (jl : Bool) (aleg7 : LL) (j9 : Bool) (l14 : LL) : Option CV :=
 hold (E0 lb n 0 996 (sub (B Qch) [1, 1, 1, 1]) (QiU (R Qch) 83) ⟨fr 50 [(0, .val (.agg [.str jm, .int .i64 jn, .int .i64 jf, .int .i64 ji, .int .i64 je, .list jl aleg7])), (1, .ptr 0 1 0), (2, .lst true true 83 []), (3, .lst true j9 83 l14)], [bx 50 [(1, some [vS jm, vI jn, vI jf, vI ji, vI je, .val (.list jl aleg7)])]], KK⟩)
noncomputable def Qki (lb n : Nat) (jm : LB) (jn jf ji je : Int) (jl : Bool) (aleg7 : LL) (vW : Bool) (l20 : LL) : Option CV :=
 hold (E0 lb n 0 995 (sub (B Qch) [1, 1, 1, 1, 1]) (QiU (R Qch) 83) ⟨fr 50 [(0, .val (.agg [.str jm, .int .i64 jn, .int .i64 jf, .int .i64 ji, .int .i64 je, .list jl aleg7])), (1, .ptr 0 1 0), (2, .lst true true 83 []), (3, .lst true vW 83 l20)], [bx 50 [(1, some [vS jm, vI jn, vI jf, vI ji, vI je, .val (.list jl aleg7)])]], KK⟩)
theorem Qp8 (lb n : Nat) (jm : LB) (jn jf ji je : Int) (jl : Bool) (aleg7 : LL) (vW : Bool) (l20 : LL) :
 Qki lb n jm jn jf ji je jl aleg7 vW l20 =
 bif (decide ((aleg7.length : Int) < 1)) then
 (chkO (room (l20.length + 1) 24) (
 some (.list (vW && false) (l20 ++ [[CV.int .i64 4, CV.str [108, 101, 103, 115]]]))))
 else
 (bif (decide ((aleg7.length : Int) > 6)) then
 (chkO (room (l20.length + 1) 24) (
 some (.list (vW && false) (l20 ++ [[CV.int .i64 4, CV.str [108, 101, 103, 115]]]))))
 else
 (some (.list vW l20))) := (Qab _).trans (by kernel_rfl)
theorem Qqf (lb n : Nat) (jm : LB) (jn jf ji je : Int) (jl : Bool) (aleg7 : LL) (j9 : Bool) (l14 : LL) :
 Qhi lb n jm jn jf ji je jl aleg7 j9 l14 =
 optO (C lb n Qcf [.agg [.int .i64 jf, .int .i64 ji, .int .i64 je]]) fun w5 =>
 optO (CV.asI .i64 w5) fun i17 =>
 bif (i17 != 0) then
 (optO (C lb n Qcf [.agg [.int .i64 jf, .int .i64 ji, .int .i64 je]]) fun jo =>
 chkO (CV.isCell jo) (
 chkO (room (l14.length + 1) 24) (
 Qki lb n jm jn jf ji je jl aleg7 (j9 && false) (l14 ++ [[jo, CV.str [112, 101, 114, 105, 111, 100]]]))))
 else
 (Qki lb n jm jn jf ji je jl aleg7 j9 l14) := (Qab _).trans (by kernel_rfl)
theorem Qqs (lb n : Nat) (jm : LB) (jn jf ji je : Int) (jl : Bool) (aleg7 : LL) (vF : Bool) (l12 : LL) :
 r07_head_J1 lb n jm jn jf ji je jl aleg7 vF l12 =
 bif (decide (jn < 1)) then
 (chkO (room (l12.length + 1) 24) (
 Qhi lb n jm jn jf ji je jl aleg7 (vF && false) (l12 ++ [[CV.int .i64 2, CV.str [110, 117, 109, 98, 101, 114]]])))
 else
 (bif (decide (jn > 9999)) then
 (chkO (room (l12.length + 1) 24) (
 Qhi lb n jm jn jf ji je jl aleg7 (vF && false) (l12 ++ [[CV.int .i64 2, CV.str [110, 117, 109, 98, 101, 114]]])))
 else
 (Qhi lb n jm jn jf ji je jl aleg7 vF l12)) := (Qab _).trans (by kernel_rfl)
theorem QtS (lb n : Nat) (jm : LB) (jn jf ji je : Int) (jl : Bool) (aleg7 : LL) :
 top lb n Qch [.agg [.str jm, .int .i64 jn, .int .i64 jf, .int .i64 ji, .int .i64 je, .list jl aleg7]] =
 optO (C lb n QfQ [.str jm]) fun r9 =>
 optO (CV.asB r9) fun wC =>
 bif (!wC) then
 (r07_head_J1 lb n jm jn jf ji je jl aleg7 false [[CV.int .i64 5, CV.str [99, 97, 114, 114, 105, 101, 114]]])
 else
 (r07_head_J1 lb n jm jn jf ji je jl aleg7 true []) := by kernel_rfl
theorem Qnt (lb n : Nat) (a1 : Int) :
 top lb n Qd9 [.int .i64 a1] =
 optO (C lb n QaE [.int .i64 a1]) fun r2 =>
 optO (CV.asT r2) fun t3 =>
 optO (t3[0]?) fun x4 =>
 optO (CV.asT r2) fun t5 =>
 optO (t5[1]?) fun x6 =>
 optO (CV.asT r2) fun t7 =>
 optO (t7[2]?) fun x9 =>
 optO (CV.asI .i64 x4) fun we =>
 bif (we == 0) then
 (some (.str []))
 else
 (optO (CV.asI .i64 x4) fun jK =>
 optO (C lb n Qdo [.int .i64 (IntKind.wrap .i64 (Int.tdiv jK 100))]) fun jC =>
 optO (CV.asI .i64 x4) fun wq =>
 optO (C lb n Qdo [.int .i64 (Int.tmod wq 100)]) fun jG =>
 optO (CV.asS jC) fun s15 =>
 optO (CV.asS jG) fun s17 =>
 chkO (decide (s15.length + s17.length ≤ 9223372036854775807)) (
 chkO (decide ((s15 ++ s17).length + [45].length ≤ 9223372036854775807)) (
 optO (C lb n Qdo [x6]) fun jo =>
 optO (CV.asS jo) fun s19 =>
 chkO (decide (((s15 ++ s17) ++ [45]).length + s19.length ≤ 9223372036854775807)) (
 chkO (decide ((((s15 ++ s17) ++ [45]) ++ s19).length + [45].length ≤ 9223372036854775807)) (
 optO (C lb n Qdo [x9]) fun jy =>
 optO (CV.asS jy) fun s21 =>
 chkO (decide (((((s15 ++ s17) ++ [45]) ++ s19) ++ [45]).length + s21.length ≤ 9223372036854775807)) (
 some (.str (((((s15 ++ s17) ++ [45]) ++ s19) ++ [45]) ++ s21)))))))) := by kernel_rfl
noncomputable def Qef (lb n k7 : Nat) (a1 i4 : Int) : Option CV :=
 hold (QaB (E0 lb n 0 994) 0 (Qaj (sub (B QaE) [1, 1, 1, 0, 0, 0]) ++ []) [] (sub (B QaE) [1, 1, 1, 0, 0, 0]) (Qat 0 (seqK (E0 lb n 0 996) (sub (B QaE) [1, 1, 1, 0]) (sub (B QaE) [1, 1, 1, 1]) (retK Tryz.prog (R QaE) 0 (outK (Qad Tryz.prog QaE))))) k7 ⟨fr 48 [(0, vI a1), (2, vI 0), (3, vI 0), (4, vI 0), (5, vI i4), (15, vI a1), (16, .val (.int .i64 (IntKind.wrap .i64 (Int.tdiv a1 366)))), (17, .val (.int .i64 (IntKind.wrap .i64 (2000 + (IntKind.wrap .i64 (Int.tdiv a1 366))))))], [bx 48 []], KK⟩)
noncomputable def QiO (lb n : Nat) (a1 jK : Int) : Option CV :=
 hold (E0 lb n 0 996 (sub (B QaE) [1, 1, 1, 1]) (retK Tryz.prog (R QaE) 0 (outK (Qad Tryz.prog QaE))) ⟨fr 48 [(0, vI a1), (2, vI 0), (3, vI 0), (4, vI 0), (5, vI jK), (15, vI a1), (16, .val (.int .i64 (IntKind.wrap .i64 (Int.tdiv a1 366)))), (17, .val (.int .i64 (IntKind.wrap .i64 (2000 + (IntKind.wrap .i64 (Int.tdiv a1 366))))))], [bx 48 []], KK⟩)
noncomputable def Qeb (lb n yU : Nat) (a1 jK : Int) (jC : CV) (wq jv jY : Int) : Option CV :=
 hold (QaB (E0 lb n 0 991) 0 (Qaj (sub (B QaE) [1, 1, 1, 1, 1, 0, 1, 0, 0]) ++ [7, 8]) [] (sub (B QaE) [1, 1, 1, 1, 1, 0, 1, 0, 0]) (Qat 2 (seqK (E0 lb n 0 994) (sub (B QaE) [1, 1, 1, 1, 1, 0]) (sub (B QaE) [1, 1, 1, 1, 1, 1]) (retK Tryz.prog (R QaE) 0 (outK (Qad Tryz.prog QaE))))) yU ⟨fr 48 [(0, vI a1), (2, vI 0), (3, vI 0), (4, vI 0), (5, vI jK), (6, vI jv), (15, vI a1), (16, .val (.int .i64 (IntKind.wrap .i64 (Int.tdiv a1 366)))), (17, .val (.int .i64 (IntKind.wrap .i64 (2000 + (IntKind.wrap .i64 (Int.tdiv a1 366)))))), (25, vI a1), (26, vI jK), (27, vV jC), (28, .val (.int .i64 (IntKind.wrap .i64 (a1 - wq)))), (29, vI jY)], [bx 48 []], KK⟩)
noncomputable def Qok (lb n : Nat) (a1 jK : Int) (jC : CV) (wq yR : Int) : Option CV :=
 hold (E0 lb n 0 994 (sub (B QaE) [1, 1, 1, 1, 1, 1]) (retK Tryz.prog (R QaE) 0 (outK (Qad Tryz.prog QaE))) ⟨fr 48 [(0, vI a1), (2, vI 0), (3, vI 0), (4, vI 0), (5, vI jK), (6, vI yR), (15, vI a1), (16, .val (.int .i64 (IntKind.wrap .i64 (Int.tdiv a1 366)))), (17, .val (.int .i64 (IntKind.wrap .i64 (2000 + (IntKind.wrap .i64 (Int.tdiv a1 366)))))), (25, vI a1), (26, vI jK), (27, vV jC), (28, .val (.int .i64 (IntKind.wrap .i64 (a1 - wq))))], [bx 48 []], KK⟩)
theorem Qf8 (lb n yU : Nat) (a1 jK : Int) (jC : CV) (wq jv jY : Int) :
 Qeb lb n (yU + 1) a1 jK jC wq jv jY =
 bif (decide (jY < 12)) then
 (optO (C lb n QbM [.int .i64 jK, .int .i64 (IntKind.wrap .i64 (jY + 1))]) fun j8 =>
 optO (CV.asI .i64 j8) fun ww =>
 bif (decide (jv < ww)) then
 (some (.tup [.int .i64 jK, .int .i64 (IntKind.wrap .i64 (jY + 1)), .int .i64 (IntKind.wrap .i64 (jv + 1))]))
 else
 (optO (CV.asI .i64 j8) fun wT =>
 Qeb lb n yU a1 jK jC wq (IntKind.wrap .i64 (jv - wT)) (IntKind.wrap .i64 (jY + 1))))
 else
 (Qok lb n a1 jK jC wq jv) := (Qab _).trans (by kernel_rfl)
theorem Ql5 (lb n : Nat) (a1 jK : Int) :
 QiO lb n a1 jK =
 optO (C lb n Qdw [.int .i64 jK]) fun jC =>
 optO (CV.asI .i64 jC) fun wq =>
 Qeb lb n n a1 jK jC wq (IntKind.wrap .i64 (a1 - wq)) 0 := (Qab _).trans (by kernel_rfl)
theorem Qgb (lb n k7 : Nat) (a1 i4 : Int) :
 Qef lb n (k7 + 1) a1 i4 =
 optO (C lb n Qdw [.int .i64 (IntKind.wrap .i64 (i4 + 1))]) fun r9 =>
 optO (CV.asI .i64 r9) fun we =>
 bif (decide (we ≤ a1)) then
 (Qef lb n k7 a1 (IntKind.wrap .i64 (i4 + 1)))
 else
 (QiO lb n a1 i4) := (Qab _).trans (by kernel_rfl)
theorem Qor (lb n : Nat) (a1 : Int) :
 top lb n QaE [.int .i64 a1] =
 bif (decide (a1 < 0)) then
 (some (.tup [.int .i64 0, .int .i64 0, .int .i64 0]))
 else
 (bif (decide (a1 ≥ 36525)) then
 (some (.tup [.int .i64 0, .int .i64 0, .int .i64 0]))
 else
 (Qef lb n n a1 (IntKind.wrap .i64 (2000 + (IntKind.wrap .i64 (Int.tdiv a1 366)))))) := by kernel_rfl
theorem Qpv (lb n : Nat) (a1 : Int) :
 top lb n Qdo [.int .i64 a1] =
 optO (bytesOf [[CV.int .u8 (IntKind.wrap .u8 (IntKind.wrap .i64 (48 + (IntKind.wrap .i64 (Int.tdiv a1 10)))))], [CV.int .u8 (IntKind.wrap .u8 (IntKind.wrap .i64 (48 + (Int.tmod a1 10))))]]) fun s2 =>
 some (.str s2) := by kernel_rfl
theorem Qnq (lb n : Nat) (a1 : Int) :
 top lb n Qdw [.int .i64 a1] =
 some (.int .i64 (IntKind.wrap .i64 ((IntKind.wrap .i64 (365 * (IntKind.wrap .i64 (a1 - 2000)))) + (IntKind.wrap .i64 (Int.tdiv (IntKind.wrap .i64 ((IntKind.wrap .i64 (a1 - 2000)) + 3)) 4))))) := by kernel_rfl
theorem Qsy (lb n : Nat) (a1 : Int) :
 top lb n Qhq [.int .i64 a1] =
 optO (C lb n Qci [.int .i64 a1]) fun r2 =>
 optO (CV.asT r2) fun t3 =>
 optO (t3[0]?) fun x4 =>
 optO (CV.asT r2) fun t5 =>
 optO (t5[1]?) fun x6 =>
 optO (CV.asT r2) fun t7 =>
 optO (t7[2]?) fun x9 =>
 optO (CV.asI .i64 x4) fun we =>
 bif (we == 0) then
 (some (.str []))
 else
 (optO (CV.asI .i64 x4) fun jK =>
 optO (C lb n Qf7 [.int .i64 (IntKind.wrap .i64 (Int.tdiv jK 100))]) fun jC =>
 optO (CV.asI .i64 x4) fun wq =>
 optO (C lb n Qf7 [.int .i64 (Int.tmod wq 100)]) fun jG =>
 optO (CV.asS jC) fun s15 =>
 optO (CV.asS jG) fun s17 =>
 chkO (decide (s15.length + s17.length ≤ 9223372036854775807)) (
 chkO (decide ((s15 ++ s17).length + [45].length ≤ 9223372036854775807)) (
 optO (C lb n Qf7 [x6]) fun jo =>
 optO (CV.asS jo) fun s19 =>
 chkO (decide (((s15 ++ s17) ++ [45]).length + s19.length ≤ 9223372036854775807)) (
 chkO (decide ((((s15 ++ s17) ++ [45]) ++ s19).length + [45].length ≤ 9223372036854775807)) (
 optO (C lb n Qf7 [x9]) fun jy =>
 optO (CV.asS jy) fun s21 =>
 chkO (decide (((((s15 ++ s17) ++ [45]) ++ s19) ++ [45]).length + s21.length ≤ 9223372036854775807)) (
 some (.str (((((s15 ++ s17) ++ [45]) ++ s19) ++ [45]) ++ s21)))))))) := by kernel_rfl
noncomputable def QfA (lb n wk : Nat) (i17 jv jY : Int) : Option CV :=
 hold (QaB (E0 lb n 0 994) 0 (Qaj (sub (B Qci) [1, 1, 1, 0, 0, 0]) ++ []) [] (sub (B Qci) [1, 1, 1, 0, 0, 0]) (Qat 0 (seqK (E0 lb n 0 996) (sub (B Qci) [1, 1, 1, 0]) (sub (B Qci) [1, 1, 1, 1]) (retK Tryz.prog (R Qci) 0 (outK (Qad Tryz.prog Qci))))) wk ⟨fr 33 [(0, vI i17), (2, vI 0), (3, vI 0), (4, vI 0), (5, vI jv), (6, vI jY)], [bx 33 []], KK⟩)
noncomputable def QnB (lb n : Nat) (wy wG oA : Int) : Option CV :=
 hold (E0 lb n 0 996 (sub (B Qci) [1, 1, 1, 1]) (retK Tryz.prog (R Qci) 0 (outK (Qad Tryz.prog Qci))) ⟨fr 33 [(0, vI wy), (2, vI 0), (3, vI 0), (4, vI 0), (5, vI wG), (6, vI oA)], [bx 33 []], KK⟩)
theorem Qqp (lb n : Nat) (wy wG oA : Int) :
 QnB lb n wy wG oA =
 some (.tup [.int .i64 wG, .int .i64 oA, .int .i64 (IntKind.wrap .i64 (wy + 1))]) := (Qab _).trans (by kernel_rfl)
theorem QfV (lb n wk : Nat) (i17 jv jY : Int) :
 QfA lb n (wk + 1) i17 jv jY =
 optO (C lb n Qa9 [.int .i64 jv, .int .i64 jY]) fun gj =>
 optO (CV.asI .i64 gj) fun wT =>
 bif (decide (i17 ≥ wT)) then
 (optO (C lb n Qa9 [.int .i64 jv, .int .i64 jY]) fun yC =>
 optO (CV.asI .i64 yC) fun j3 =>
 bif ((IntKind.wrap .i64 (jY + 1)) == 13) then
 (QfA lb n wk  (IntKind.wrap .i64 (i17 - j3)) (IntKind.wrap .i64 (jv + 1)) 1)
 else
 (QfA lb n wk  (IntKind.wrap .i64 (i17 - j3)) jv (IntKind.wrap .i64 (jY + 1))))
 else
 (QnB lb n  i17 jv jY) := (Qab _).trans (by kernel_rfl)
theorem QtJ (lb n : Nat) (a1 : Int) :
 top lb n Qci [.int .i64 a1] =
 bif (decide (a1 < 0)) then
 (some (.tup [.int .i64 0, .int .i64 0, .int .i64 0]))
 else
 (bif (decide (a1 ≥ 36525)) then
 (some (.tup [.int .i64 0, .int .i64 0, .int .i64 0]))
 else
 (QfA lb n n  a1 2000 1)) := by kernel_rfl
theorem Qvw (lb n : Nat) (a1 : Int) :
 top lb n Qf7 [.int .i64 a1] =
 optO (bytesOf [[CV.int .u8 (IntKind.wrap .u8 (IntKind.wrap .i64 (48 + (IntKind.wrap .i64 (Int.tdiv a1 10)))))], [CV.int .u8 (IntKind.wrap .u8 (IntKind.wrap .i64 (48 + (Int.tmod a1 10))))]]) fun s2 =>
 some (.str s2) := by kernel_rfl
noncomputable def Qeo (lb n : Nat) (a1 b2 : Int) (b3 : Bool) : Option CV :=
 hold (E0 lb n 0 995 (sub (B Qa9) [1, 0, 1, 0, 1]) (Qat 0 (seqK (E0 lb n 0 998) (sub (B Qa9) [1, 0]) (sub (B Qa9) [1, 1]) (retK Tryz.prog (R Qa9) 0 (outK (Qad Tryz.prog Qa9))))) ⟨fr 16 [(0, vI a1), (1, vI b2), (4, vI 0), (5, vI b2), (6, vB b3)], [bx 16 []], KK⟩)
theorem QoA (lb n : Nat) (a1 b2 : Int) (b3 : Bool) :
 Qeo lb n a1 b2 b3 =
 bif b3 then
 (some (.int .i64 30))
 else
 (bif (b2 == 2) then
 (bif ((Int.tmod a1 4) == 0) then
 (some (.int .i64 29))
 else
 (some (.int .i64 28)))
 else
 (some (.int .i64 31))) := (Qab _).trans (by kernel_rfl)
theorem QrT (lb n : Nat) (a1 b2 : Int) :
 top lb n Qa9 [.int .i64 a1, .int .i64 b2] =
 bif (b2 == 4) then
 (Qeo lb n a1 b2 (b2 == 4))
 else
 (bif (b2 == 6) then
 (Qeo lb n a1 b2 (b2 == 6))
 else
 (bif (b2 == 9) then
 (Qeo lb n a1 b2 (b2 == 9))
 else
 (Qeo lb n a1 b2 (b2 == 11)))) := by kernel_rfl
end Go.Proofs
