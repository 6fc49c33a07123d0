/- Equations of functions, printed by program. Conditions: none. -/
import Derived.Test.YtigmcfhmpcajlaaGreatDoorEv
namespace Go.Proofs
open Go.Am
set_option maxRecDepth 100000
set_option linter.unusedVariables false
theorem Qn5 (lb n) (a1 : Int) :
 top lb n QgJ [.int .i64 a1] =
 bif (decide (a1 < 1)) then
 (some (.tup [.str [], .int .i64 8]))
 else
 (bif (decide (a1 > 7)) then
 (some (.tup [.str [], .int .i64 8]))
 else
 (chkO (decide ((0 : Int) ≤ (IntKind.wrap .i64 (2 * a1)) ∧ (IntKind.wrap .i64 (2 * a1)) ≤ 14)) (
 chkO (decide ((0 : Int) ≤ (IntKind.wrap .i64 ((IntKind.wrap .i64 (2 * a1)) - 2)) ∧ (IntKind.wrap .i64 ((IntKind.wrap .i64 (2 * a1)) - 2)) ≤ (IntKind.wrap .i64 (2 * a1)))) (
 some (.tup [.str ((([72, 75, 72, 76, 75, 76, 84, 75, 85, 78, 85, 67, 88, 88] : LB).take ((IntKind.wrap .i64 (2 * a1)).toNat)).drop ((IntKind.wrap .i64 ((IntKind.wrap .i64 (2 * a1)) - 2)).toNat)), .int .i64 0]))))) := by kernel_rfl
noncomputable def marry_Check_L1 :=
 fun lb n (yx : Nat) (jf : Bool) (a2 : LL) i6 =>
 hold (QaC (E0 lb n 0 995) 0 (Qak (sub (B QaD) [1, 0, 1, 0, 0]) ++ [4]) [] (sub (B QaD) [1, 0, 1, 0, 0]) (Qao 0 (seqK (E0 lb n 0 998) (sub (B QaD) [1, 0]) (sub (B QaD) [1, 1]) (retK Tryz.prog (R QaD) 0 (outK (Qaf Tryz.prog QaD))))) yx ⟨fr 51 [(0, .val (.list jf a2)), (2, vI 0), (8, .val (.list jf a2)), (9, .val (.int .i64 (a2.length : Int))), (10, vI i6)], [bx 51 []], KK⟩)
noncomputable def QiM (lb n : Nat) (jf : Bool) (a2 : LL) : Option CV :=
 hold (E0 lb n 0 998 (sub (B QaD) [1, 1]) (retK Tryz.prog (R QaD) 0 (outK (Qaf Tryz.prog QaD))) ⟨fr 51 [(0, .val (.list jf a2)), (2, vI 0)], [bx 51 []], KK⟩)
noncomputable def QcF (lb n kw : Nat) (jf : Bool) (a2 : LL) (yS : CV) (vi : Bool × LL) (wK : Int) : Option CV :=
 hold (QaC (E0 lb n 0 994) 0 (Qak (sub (B QaD) [1, 1, 0, 1, 0, 0]) ++ [6, 7]) [] (sub (B QaD) [1, 1, 0, 1, 0, 0]) (Qao 2 (seqK (E0 lb n 0 997) (sub (B QaD) [1, 1, 0]) (sub (B QaD) [1, 1, 1]) (retK Tryz.prog (R QaD) 0 (outK (Qaf Tryz.prog QaD))))) kw ⟨fr 51 [(0, .val (.list jf a2)), (2, vI 0), (17, .val (.list jf a2)), (18, vV yS), (19, .val (.int .i64 (vi.2.length : Int))), (20, vI wK)], [bx 51 []], KK⟩)
noncomputable def Qiz (lb n : Nat) (jf : Bool) (a2 : LL) : Option CV :=
 hold (E0 lb n 0 997 (sub (B QaD) [1, 1, 1]) (retK Tryz.prog (R QaD) 0 (outK (Qaf Tryz.prog QaD))) ⟨fr 51 [(0, .val (.list jf a2)), (2, vI 0)], [bx 51 []], KK⟩)
theorem Qls (lb n : Nat) (jf : Bool) (a2 : LL) :
 Qiz lb n jf a2 =
 some (.int .i64 0) := (Qae _).trans (by kernel_rfl)
theorem QfN (lb n kw : Nat) (jf : Bool) (a2 : LL) (yS : CV) (vi : Bool × LL) (wK : Int) :
 QcF lb n (kw + 1) jf a2 yS vi wK =
 bif (decide (wK < (vi.2.length : Int))) then
 (optO (CV.asL yS) fun qc =>
 optO (atL qc.2 wK) fun c59 =>
 chkO (c59.length == 1) (
 optO (c59[0]?) fun jX =>
 optO (CV.asL jX) fun qk =>
 optO (atL qk.2 0) fun c62 =>
 chkO (c62.length == 1) (
 optO (c62[0]?) fun jZ =>
 optO (CV.asN jZ) fun pg =>
 optO (atL a2 pg) fun c66 =>
 chkO (c66.length == 1) (
 optO (c66[0]?) fun gA =>
 optO (CV.asI .i64 gA) fun i68 =>
 bif (decide (i68 > 0)) then
 (optO (CV.asL jX) fun qO =>
 bif ((qO.2.length : Int) == 1) then
 (some (.int .i64 18))
 else
 (optO (CV.asL jX) fun qb =>
 optO (CV.asL jX) fun qo =>
 optO (atL qo.2 (IntKind.wrap .i64 ((qb.2.length : Int) - 1))) fun c72 =>
 chkO (c72.length == 1) (
 optO (c72[0]?) fun oX =>
 optO (CV.asI .i64 oX) fun oW =>
 chkO (a2.all (·.length == 1)) (
 chkO (decide ((0 : Int) ≤ (IntKind.wrap .i64 (oW + 1)) ∧ (IntKind.wrap .i64 (oW + 1)) ≤ (a2.length : Int))) (
 optO (C lb n Qdp [.list jf ((a2.take ((a2.length : Int).toNat)).drop ((IntKind.wrap .i64 (oW + 1)).toNat)), gA]) fun gh =>
 optO (CV.asB gh) fun oS =>
 bif oS then
 (some (.int .i64 18))
 else
 (QcF lb n kw jf a2 yS vi (IntKind.wrap .i64 (wK + 1))))))))
 else
 (QcF lb n kw jf a2 yS vi (IntKind.wrap .i64 (wK + 1)))))))
 else
 (Qiz lb n jf a2 ) := (Qae _).trans (by kernel_rfl)
theorem Qli (lb n : Nat) (jf : Bool) (a2 : LL) :
 QiM lb n jf a2 =
 optO (C lb n Qeg [.list jf a2]) fun yS =>
 optO (CV.asL yS) fun vi =>
 QcF lb n n jf a2 yS vi 0 := (Qae _).trans (by kernel_rfl)
theorem QfL (lb n yx : Nat) (jf : Bool) (a2 : LL) (i6 : Int) :
 marry_Check_L1 lb n (yx + 1) jf a2 i6 =
 bif (decide (i6 < (a2.length : Int))) then
 (optO (atL a2 i6) fun c12 =>
 chkO (c12.length == 1) (
 optO (c12[0]?) fun ko =>
 optO (CV.asI .i64 ko) fun vk =>
 bif (decide (vk < 0)) then
 (some (.int .i64 2))
 else
 (marry_Check_L1 lb n yx jf a2 (IntKind.wrap .i64 (i6 + 1)))))
 else
 (QiM lb n jf a2 ) := (Qae _).trans (by kernel_rfl)
theorem QnD (lb n : Nat) (jf : Bool) (a2 : LL) :
 top lb n QaD [.list jf a2] =
 marry_Check_L1 lb n n jf a2 0 := by kernel_rfl
theorem Qin (lb n : Nat) (jf : Bool) (a2 : LL) (b3 : Int) :
 top lb n Qdp [.list jf a2, .int .i64 b3] =
 optO (C lb n QaO [.list jf a2, .int .i64 b3]) fun r4 =>
 optO (CV.asI .i64 r4) fun i5 =>
 some (.bool (decide (i5 ≥ 0))) := by kernel_rfl
noncomputable def QcU (lb n ol : Nat) (jf : Bool) (a2 : LL) (b3 i7 : Int) : Option CV :=
 hold (QaC (E0 lb n 0 995) 0 (Qak (sub (B QaO) [1, 0, 1, 0, 0]) ++ [5]) [] (sub (B QaO) [1, 0, 1, 0, 0]) (Qao 0 (seqK (E0 lb n 0 998) (sub (B QaO) [1, 0]) (sub (B QaO) [1, 1]) (retK Tryz.prog (R QaO) 0 (outK (Qaf Tryz.prog QaO))))) ol ⟨fr 19 [(0, .val (.list jf a2)), (1, vI b3), (4, vI 0), (6, .val (.list jf a2)), (7, .val (.int .i64 (a2.length : Int))), (8, vI i7)], [bx 19 []], KK⟩)
noncomputable def QfK (lb n : Nat) (jf : Bool) (a2 : LL) (b3 : Int) : Option CV :=
 hold (E0 lb n 0 998 (sub (B QaO) [1, 1]) (retK Tryz.prog (R QaO) 0 (outK (Qaf Tryz.prog QaO))) ⟨fr 19 [(0, .val (.list jf a2)), (1, vI b3), (4, vI 0)], [bx 19 []], KK⟩)
theorem Qic (lb n : Nat) (jf : Bool) (a2 : LL) (b3 : Int) :
 QfK lb n jf a2 b3 =
 some (.int .i64 (-1)) := (Qae _).trans (by kernel_rfl)
theorem Qef (lb n ol : Nat) (jf : Bool) (a2 : LL) (b3 i7 : Int) :
 QcU lb n (ol + 1) jf a2 b3 i7 =
 bif (decide (i7 < (a2.length : Int))) then
 (optO (atL a2 i7) fun c13 =>
 chkO (c13.length == 1) (
 optO (c13[0]?) fun ku =>
 optO (CV.asI .i64 ku) fun jS =>
 bif (b3 == jS) then
 (some (.int .i64 i7))
 else
 (QcU lb n ol jf a2 b3 (IntKind.wrap .i64 (i7 + 1)))))
 else
 (QfK lb n jf a2 b3 ) := (Qae _).trans (by kernel_rfl)
theorem QjU (lb n : Nat) (jf : Bool) (a2 : LL) (b3 : Int) :
 top lb n QaO [.list jf a2, .int .i64 b3] =
 QcU lb n n jf a2 b3 0 := by kernel_rfl
noncomputable def Qcy (lb n oj : Nat) (jf : Bool) (a2 l15 : LL) (wB : Int) : Option CV :=
 hold (QaC (E0 lb n 0 994) 0 (Qak (sub (B QaJ) [1, 1, 0, 1, 0, 0]) ++ []) [5] (sub (B QaJ) [1, 1, 0, 1, 0, 0]) (Qao 0 (seqK (E0 lb n 0 997) (sub (B QaJ) [1, 1, 0]) (sub (B QaJ) [1, 1, 1]) (retK Tryz.prog (R QaJ) 0 (outK (Qaf Tryz.prog QaJ))))) oj ⟨fr 22 [(0, .val (.list jf a2)), (2, .lst true true 3 []), (3, .lst true false 3 l15), (6, .val (.list jf a2)), (7, .val (.int .i64 (a2.length : Int))), (8, .val (.list false [])), (9, .val (.list jf a2)), (10, .val (.int .i64 (a2.length : Int))), (11, vI wB)], [bx 22 []], KK⟩)
noncomputable def Qfm (lb n : Nat) (jf : Bool) (a2 : LL) (ov : Bool) (k8 : LL) : Option CV :=
 hold (E0 lb n 0 997 (sub (B QaJ) [1, 1, 1]) (retK Tryz.prog (R QaJ) 0 (outK (Qaf Tryz.prog QaJ))) ⟨fr 22 [(0, .val (.list jf a2)), (2, .lst true true 3 []), (3, .lst true ov 3 k8), (6, .val (.list jf a2)), (7, .val (.int .i64 (a2.length : Int))), (8, .val (.list false []))], [bx 22 []], KK⟩)
theorem QhK (lb n : Nat) (jf : Bool) (a2 : LL) (ov : Bool) (k8 : LL) :
 Qfm lb n jf a2 ov k8 =
 some (.list ov k8) := (Qae _).trans (by kernel_rfl)
theorem QdW (lb n oj : Nat) (jf : Bool) (a2 l15 : LL) (wB : Int) :
 Qcy lb n (oj + 1) jf a2 l15 wB =
 bif (decide (wB < (a2.length : Int))) then
 (optO (atL a2 wB) fun c30 =>
 chkO (c30.length == 10) (
 optO (c30[0]?) fun jN =>
 optO (c30[1]?) fun jK =>
 optO (c30[2]?) fun ou =>
 optO (c30[3]?) fun vO =>
 optO (c30[4]?) fun k0 =>
 optO (c30[5]?) fun y6 =>
 optO (c30[6]?) fun qP =>
 optO (c30[7]?) fun gq =>
 optO (c30[8]?) fun gz =>
 optO (c30[9]?) fun kx =>
 chkO (CV.isCell kx) (
 chkO (room (l15.length + 1) 8) (
 Qcy lb n oj jf a2 (l15 ++ [[kx]]) (IntKind.wrap .i64 (wB + 1))))))
 else
 (Qfm lb n jf a2 false l15) := (Qae _).trans (by kernel_rfl)
theorem QiZ (lb n : Nat) (jf : Bool) (a2 : LL) :
 top lb n QaJ [.list jf a2] =
 chkO (decide (0 ≤ (0 : Int)) && decide ((0 : Int) ≤ ((a2.length : Int) : Int)) && decide (((a2.length : Int) : Int) * 8 ≤ 140737488355328) && decide (((a2.length : Int) : Int) ≤ 140737488355328)) (
 Qcy lb n n jf a2 [] 0) := by kernel_rfl
theorem Qkd (lb n : Nat) (a1 : LB) :
 top lb n QeB [.str a1] =
 optO (C lb n QdK [.str a1, .int .i64 6, .int .i64 6]) fun r2 =>
 some (r2) := by kernel_rfl
noncomputable def QcH (lb n : Nat) (awansegcar1 : LB) (awansegnum2 awansegday3 : Int) (awansegfro4 jh : LB) (awansegdep6 awansegarr7 : Int) (jm : LB) (jo jp : Int) (ye : Bool) (l15 : LL) : Option CV :=
 hold (E0 lb n 0 996 (sub (B Qa7) [1, 1, 1, 1]) (retK Tryz.prog (R Qa7) 0 (outK (Qaf Tryz.prog Qa7))) ⟨fr 67 [(0, .val (.agg [.str awansegcar1, .int .i64 awansegnum2, .int .i64 awansegday3, .str awansegfro4, .str jh, .int .i64 awansegdep6, .int .i64 awansegarr7, .str jm, .int .i64 jo, .int .i64 jp])), (1, .ptr 0 1 0), (2, .lst true true 31 []), (3, .lst true ye 31 l15), (4, .ptr 0 4 0), (7, .ptr 0 1 0), (8, .ptr 0 1 0), (9, .val (.agg [.str awansegcar1, .int .i64 awansegnum2, .int .i64 awansegday3, .str awansegfro4, .str jh, .int .i64 awansegdep6, .int .i64 awansegarr7]))], [bx 67 [(1, some [vS awansegcar1, vI awansegnum2, vI awansegday3, vS awansegfro4, vS jh, vI awansegdep6, vI awansegarr7, vS jm, vI jo, vI jp]), (4, some [vS awansegcar1, vI awansegnum2, vI awansegday3, vS awansegfro4, vS jh, vI awansegdep6, vI awansegarr7])]], KK⟩)
noncomputable def QcI (lb n : Nat) (awansegcar1 : LB) (awansegnum2 awansegday3 : Int) (awansegfro4 jh : LB) (awansegdep6 awansegarr7 : Int) (jm : LB) (jo jp : Int) (yF : Bool) (l18 : LL) : Option CV :=
 hold (E0 lb n 0 995 (sub (B Qa7) [1, 1, 1, 1, 1]) (retK Tryz.prog (R Qa7) 0 (outK (Qaf Tryz.prog Qa7))) ⟨fr 67 [(0, .val (.agg [.str awansegcar1, .int .i64 awansegnum2, .int .i64 awansegday3, .str awansegfro4, .str jh, .int .i64 awansegdep6, .int .i64 awansegarr7, .str jm, .int .i64 jo, .int .i64 jp])), (1, .ptr 0 1 0), (2, .lst true true 31 []), (3, .lst true yF 31 l18), (4, .ptr 0 4 0), (7, .ptr 0 1 0), (8, .ptr 0 1 0), (9, .val (.agg [.str awansegcar1, .int .i64 awansegnum2, .int .i64 awansegday3, .str awansegfro4, .str jh, .int .i64 awansegdep6, .int .i64 awansegarr7]))], [bx 67 [(1, some [vS awansegcar1, vI awansegnum2, vI awansegday3, vS awansegfro4, vS jh, vI awansegdep6, vI awansegarr7, vS jm, vI jo, vI jp]), (4, some [vS awansegcar1, vI awansegnum2, vI awansegday3, vS awansegfro4, vS jh, vI awansegdep6, vI awansegarr7])]], KK⟩)
noncomputable def Qem (lb n : Nat) (awansegcar1 : LB) (awansegnum2 awansegday3 : Int) (awansegfro4 jh : LB) (awansegdep6 awansegarr7 : Int) (jm : LB) (jo jp : Int) (yI : Bool) (l22 : LL) : Option CV :=
 hold (E0 lb n 0 994 (sub (B Qa7) [1, 1, 1, 1, 1, 1]) (retK Tryz.prog (R Qa7) 0 (outK (Qaf Tryz.prog Qa7))) ⟨fr 67 [(0, .val (.agg [.str awansegcar1, .int .i64 awansegnum2, .int .i64 awansegday3, .str awansegfro4, .str jh, .int .i64 awansegdep6, .int .i64 awansegarr7, .str jm, .int .i64 jo, .int .i64 jp])), (1, .ptr 0 1 0), (2, .lst true true 31 []), (3, .lst true yI 31 l22), (4, .ptr 0 4 0), (7, .ptr 0 1 0), (8, .ptr 0 1 0), (9, .val (.agg [.str awansegcar1, .int .i64 awansegnum2, .int .i64 awansegday3, .str awansegfro4, .str jh, .int .i64 awansegdep6, .int .i64 awansegarr7]))], [bx 67 [(1, some [vS awansegcar1, vI awansegnum2, vI awansegday3, vS awansegfro4, vS jh, vI awansegdep6, vI awansegarr7, vS jm, vI jo, vI jp]), (4, some [vS awansegcar1, vI awansegnum2, vI awansegday3, vS awansegfro4, vS jh, vI awansegdep6, vI awansegarr7])]], KK⟩)
theorem Qlg (lb n : Nat) (awansegcar1 : LB) (awansegnum2 awansegday3 : Int) (awansegfro4 jh : LB) (awansegdep6 awansegarr7 : Int) (jm : LB) (jo jp : Int) (yI : Bool) (l22 : LL) :
 Qem lb n awansegcar1 awansegnum2 awansegday3 awansegfro4 jh awansegdep6 awansegarr7 jm jo jp yI l22 =
 optO (C lb n QgJ [.int .i64 jo]) fun jl =>
 optO (CV.asT jl) fun kk =>
 optO (kk[0]?) fun jx =>
 optO (CV.asT jl) fun o8 =>
 optO (o8[1]?) fun jJ =>
 optO (CV.asI .i64 jJ) fun yV =>
 bif (yV != 0) then
 (chkO (room (l22.length + 1) 8) (
 some (.list (yI && false) (l22 ++ [[CV.int .i64 10]]))))
 else
 (some (.list yI l22)) := (Qae _).trans (by kernel_rfl)
theorem Qlk (lb n : Nat) (awansegcar1 : LB) (awansegnum2 awansegday3 : Int) (awansegfro4 jh : LB) (awansegdep6 awansegarr7 : Int) (jm : LB) (jo jp : Int) (yF : Bool) (l18 : LL) :
 QcI lb n awansegcar1 awansegnum2 awansegday3 awansegfro4 jh awansegdep6 awansegarr7 jm jo jp yF l18 =
 optO (C lb n Qhm [.str jm]) fun jv =>
 optO (CV.asB jv) fun yv =>
 bif (!yv) then
 (chkO (room (l18.length + 1) 8) (
 Qem lb n awansegcar1 awansegnum2 awansegday3 awansegfro4 jh awansegdep6 awansegarr7 jm jo jp (yF && false) (l18 ++ [[CV.int .i64 16]])))
 else
 (Qem lb n awansegcar1 awansegnum2 awansegday3 awansegfro4 jh awansegdep6 awansegarr7 jm jo jp yF l18) := (Qae _).trans (by kernel_rfl)
theorem Qlc (lb n : Nat) (awansegcar1 : LB) (awansegnum2 awansegday3 : Int) (awansegfro4 jh : LB) (awansegdep6 awansegarr7 : Int) (jm : LB) (jo jp : Int) (ye : Bool) (l15 : LL) :
 QcH lb n awansegcar1 awansegnum2 awansegday3 awansegfro4 jh awansegdep6 awansegarr7 jm jo jp ye l15 =
 bif (decide (awansegdep6 < 0)) then
 (chkO (room (l15.length + 1) 8) (
 QcI lb n awansegcar1 awansegnum2 awansegday3 awansegfro4 jh awansegdep6 awansegarr7 jm jo jp (ye && false) (l15 ++ [[CV.int .i64 13]])))
 else
 (bif (decide (awansegdep6 ≥ awansegarr7)) then
 (chkO (room (l15.length + 1) 8) (
 QcI lb n awansegcar1 awansegnum2 awansegday3 awansegfro4 jh awansegdep6 awansegarr7 jm jo jp (ye && false) (l15 ++ [[CV.int .i64 13]])))
 else
 (bif (decide (awansegarr7 ≥ 52596000)) then
 (chkO (room (l15.length + 1) 8) (
 QcI lb n awansegcar1 awansegnum2 awansegday3 awansegfro4 jh awansegdep6 awansegarr7 jm jo jp (ye && false) (l15 ++ [[CV.int .i64 13]])))
 else
 (QcI lb n awansegcar1 awansegnum2 awansegday3 awansegfro4 jh awansegdep6 awansegarr7 jm jo jp ye l15))) := (Qae _).trans (by kernel_rfl)
theorem Qn8 (lb n : Nat) (awansegcar1 : LB) (awansegnum2 awansegday3 : Int) (awansegfro4 jh : LB) (awansegdep6 awansegarr7 : Int) (jm : LB) (jo jp : Int) :
 top lb n Qa7 [.agg [.str awansegcar1, .int .i64 awansegnum2, .int .i64 awansegday3, .str awansegfro4, .str jh, .int .i64 awansegdep6, .int .i64 awansegarr7, .str jm, .int .i64 jo, .int .i64 jp]] =
 optO (C lb n QfR [.str awansegcar1]) fun yM =>
 optO (CV.asB yM) fun wF =>
 bif (!wF) then
 (QcH lb n awansegcar1 awansegnum2 awansegday3 awansegfro4 jh awansegdep6 awansegarr7 jm jo jp false [[CV.int .i64 5]])
 else
 (optO (C lb n Qep [.str awansegfro4]) fun gg =>
 optO (CV.asB gg) fun gi =>
 bif (!gi) then
 (QcH lb n awansegcar1 awansegnum2 awansegday3 awansegfro4 jh awansegdep6 awansegarr7 jm jo jp false [[CV.int .i64 5]])
 else
 (optO (C lb n Qep [.str jh]) fun oF =>
 optO (CV.asB oF) fun oI =>
 bif (!oI) then
 (QcH lb n awansegcar1 awansegnum2 awansegday3 awansegfro4 jh awansegdep6 awansegarr7 jm jo jp false [[CV.int .i64 5]])
 else
 (QcH lb n awansegcar1 awansegnum2 awansegday3 awansegfro4 jh awansegdep6 awansegarr7 jm jo jp true []))) := by kernel_rfl
end Go.Proofs
