/- Equations of functions, printed by program. Conditions: none. -/
import Derived.Test.YtdcpdknginpohaaGreatDoorEv
namespace Go.Proofs
open Go.Am
set_option maxRecDepth 100000
set_option linter.unusedVariables false
noncomputable def revision_changed_L1 :=
 fun lb n (ot : Nat) jt js jh jl ji (jq : Bool) (aleg7 : LL) j9 jK jH jm jp jn jB jD (jx : Bool) (jJ : LL) wZ wC yf w8 wA yd =>
 hold (Qas (E0 lb n 0 992) 0 (Qad (sub (B Qau) [1, 1, 1, 1, 0, 1, 0, 0]) ++ [5, 6]) [] (sub (B Qau) [1, 1, 1, 1, 0, 1, 0, 0]) (Qak 0 (seqK (E0 lb n 0 995) (sub (B Qau) [1, 1, 1, 1, 0]) (sub (B Qau) [1, 1, 1, 1, 1]) (retK Tryz.prog (R Qau) 0 (outK (Qaf Tryz.prog Qau))))) ot ⟨fr 65 [(0, .val (.agg [.str jt, .int .i64 js, .int .i64 jh, .int .i64 jl, .int .i64 ji, .list jq aleg7])), (1, .val (.agg [.int .i64 j9, .str jK, .int .i64 jH, .int .i64 jm, .int .i64 jp, .int .i64 jn, .int .i64 jB, .str jD, .list jx jJ])), (2, .ptr 0 2 0), (3, .ptr 0 3 0), (4, .ptr 0 4 0), (7, vV wZ), (8, .ptr 0 2 2), (9, .val (.agg [.int .i64 jh, .int .i64 jl, .int .i64 ji])), (10, .ptr 0 3 3), (11, .val (.agg [.int .i64 jm, .int .i64 jp, .int .i64 jn])), (12, vV wZ), (13, vV wC), (14, vV yf), (15, .ptr 0 2 2), (23, .ptr 0 2 5), (24, .val (.list jq aleg7)), (25, .val (.list true [])), (26, .ptr 0 2 5), (27, .ptr 0 2 5), (28, .val (.list true [])), (29, vI 0), (30, vI 0)], [bx 65 [(2, some [vS jt, vI js, .val w8, .val wA, .val yd, .val (.list true [])]), (3, some [vI j9, vS jK, vI jH, vI jm, vI jp, vI jn, vI jB, vS jD, .val (.list jx jJ)]), (4, some [.val (.str []), vI 0, vI 0, vI 0, vI 0, .lst true true 94 []])]], KK⟩)
noncomputable def Qmo (lb n rJ : Nat) (jt : LB) (js jh jl ji : Int) (jq : Bool) (aleg7 : LL) (j9 : Int) (jK : LB) (jH jm jp jn jB : Int) (jD : LB) (jx : Bool) (jJ : LL) (wZ wC yf w8 wA yd : CV) : Option CV :=
 hold (Qas (E0 lb n 0 992) 0 (Qad (sub (B Qau) [1, 1, 1, 1, 0, 1, 0, 0]) ++ [5, 6]) [] (sub (B Qau) [1, 1, 1, 1, 0, 1, 0, 0]) (Qak 0 (seqK (E0 lb n 0 995) (sub (B Qau) [1, 1, 1, 1, 0]) (sub (B Qau) [1, 1, 1, 1, 1]) (retK Tryz.prog (R Qau) 0 (outK (Qaf Tryz.prog Qau))))) rJ ⟨fr 65 [(0, .val (.agg [.str jt, .int .i64 js, .int .i64 jh, .int .i64 jl, .int .i64 ji, .list jq aleg7])), (1, .val (.agg [.int .i64 j9, .str jK, .int .i64 jH, .int .i64 jm, .int .i64 jp, .int .i64 jn, .int .i64 jB, .str jD, .list jx jJ])), (2, .ptr 0 2 0), (3, .ptr 0 3 0), (4, .ptr 0 4 0), (7, vV wZ), (8, .ptr 0 2 2), (9, .val (.agg [.int .i64 jh, .int .i64 jl, .int .i64 ji])), (10, .ptr 0 3 3), (11, .val (.agg [.int .i64 jm, .int .i64 jp, .int .i64 jn])), (12, vV wZ), (13, vV wC), (14, vV yf), (15, .ptr 0 2 2), (23, .ptr 0 2 5), (24, .val (.list jq aleg7)), (25, .val (.list false [])), (26, .ptr 0 2 5), (27, .ptr 0 2 5), (28, .val (.list false [])), (29, vI 0), (30, vI 0)], [bx 65 [(2, some [vS jt, vI js, .val w8, .val wA, .val yd, .val (.list false [])]), (3, some [vI j9, vS jK, vI jH, vI jm, vI jp, vI jn, vI jB, vS jD, .val (.list jx jJ)]), (4, some [.val (.str []), vI 0, vI 0, vI 0, vI 0, .lst true true 94 []])]], KK⟩)
noncomputable def Qc6 (lb n ny : Nat) (jt : LB) (js jh jl ji : Int) (jq : Bool) (aleg7 : LL) (j9 : Int) (jK : LB) (jH jm jp jn jB : Int) (jD : LB) (jx : Bool) (jJ : LL) (wZ wC yf w8 wA yd : CV) (i43 : Int) (oQ : LL) : Option CV :=
 hold (Qas (E0 lb n 0 992) 0 (Qad (sub (B Qau) [1, 1, 1, 1, 0, 1, 0, 0]) ++ [5, 6]) [] (sub (B Qau) [1, 1, 1, 1, 0, 1, 0, 0]) (Qak 0 (seqK (E0 lb n 0 995) (sub (B Qau) [1, 1, 1, 1, 0]) (sub (B Qau) [1, 1, 1, 1, 1]) (retK Tryz.prog (R Qau) 0 (outK (Qaf Tryz.prog Qau))))) ny ⟨fr 65 [(0, .val (.agg [.str jt, .int .i64 js, .int .i64 jh, .int .i64 jl, .int .i64 ji, .list jq aleg7])), (1, .val (.agg [.int .i64 j9, .str jK, .int .i64 jH, .int .i64 jm, .int .i64 jp, .int .i64 jn, .int .i64 jB, .str jD, .list jx jJ])), (2, .ptr 0 2 0), (3, .ptr 0 3 0), (4, .ptr 0 4 0), (7, vV wZ), (8, .ptr 0 2 2), (9, .val (.agg [.int .i64 jh, .int .i64 jl, .int .i64 ji])), (10, .ptr 0 3 3), (11, .val (.agg [.int .i64 jm, .int .i64 jp, .int .i64 jn])), (12, vV wZ), (13, vV wC), (14, vV yf), (15, .ptr 0 2 2), (23, .ptr 0 2 5), (24, .val (.list jq aleg7)), (25, .rsl 94 0 65 0 aleg7.length aleg7.length), (26, .ptr 0 2 5), (27, .ptr 0 2 5), (28, .rsl 94 0 65 0 aleg7.length aleg7.length), (29, .val (.int .i64 ((aleg7.length : Nat) : Int))), (30, vI i43)], [bx 66 [(2, some [vS jt, vI js, .val w8, .val wA, .val yd, .rsl 94 0 65 0 aleg7.length aleg7.length]), (3, some [vI j9, vS jK, vI jH, vI jm, vI jp, vI jn, vI jB, vS jD, .val (.list jx jJ)]), (4, some [.val (.str []), vI 0, vI 0, vI 0, vI 0, .lst true true 94 []]), (65, some [.row 94 oQ])]], KK⟩)
noncomputable def Qhf (lb n : Nat) (jt : LB) (js jh jl ji : Int) (jq : Bool) (aleg7 : LL) (j9 : Int) (jK : LB) (jH jm jp jn jB : Int) (jD : LB) (jx : Bool) (jJ : LL) (wZ wC yf w8 wA yd : CV) (l65 : LL) : Option CV :=
 hold (E0 lb n 0 995 (sub (B Qau) [1, 1, 1, 1, 1]) (retK Tryz.prog (R Qau) 0 (outK (Qaf Tryz.prog Qau))) ⟨fr 65 [(0, .val (.agg [.str jt, .int .i64 js, .int .i64 jh, .int .i64 jl, .int .i64 ji, .list jq aleg7])), (1, .val (.agg [.int .i64 j9, .str jK, .int .i64 jH, .int .i64 jm, .int .i64 jp, .int .i64 jn, .int .i64 jB, .str jD, .list jx jJ])), (2, .ptr 0 2 0), (3, .ptr 0 3 0), (4, .ptr 0 4 0), (7, vV wZ), (8, .ptr 0 2 2), (9, .val (.agg [.int .i64 jh, .int .i64 jl, .int .i64 ji])), (10, .ptr 0 3 3), (11, .val (.agg [.int .i64 jm, .int .i64 jp, .int .i64 jn])), (12, vV wZ), (13, vV wC), (14, vV yf), (15, .ptr 0 2 2), (23, .ptr 0 2 5), (24, .val (.list jq aleg7)), (25, .rsl 94 0 65 0 aleg7.length aleg7.length), (26, .ptr 0 2 5)], [bx 66 [(2, some [vS jt, vI js, .val w8, .val wA, .val yd, .rsl 94 0 65 0 aleg7.length aleg7.length]), (3, some [vI j9, vS jK, vI jH, vI jm, vI jp, vI jn, vI jB, vS jD, .val (.list jx jJ)]), (4, some [.val (.str []), vI 0, vI 0, vI 0, vI 0, .lst true true 94 []]), (65, some [.row 94 l65])]], KK⟩)
theorem Qkt (lb n : Nat) (jt : LB) (js jh jl ji : Int) (jq : Bool) (aleg7 : LL) (j9 : Int) (jK : LB) (jH jm jp jn jB : Int) (jD : LB) (jx : Bool) (jJ : LL) (wZ wC yf w8 wA yd : CV) (l65 : LL) :
 Qhf lb n jt js jh jl ji jq aleg7 j9 jK jH jm jp jn jB jD jx jJ wZ wC yf w8 wA yd l65 =
 chkO (decide ((0 + aleg7.length) ≤ l65.length)) (
 some (.agg [.str jt, .int .i64 js, w8, wA, yd, .list false ((l65.drop 0).take aleg7.length)])) := (Qac _).trans (by kernel_rfl)
theorem QfD (lb n ny : Nat) (jt : LB) (js jh jl ji : Int) (jq : Bool) (aleg7 : LL) (j9 : Int) (jK : LB) (jH jm jp jn jB : Int) (jD : LB) (jx : Bool) (jJ : LL) (wZ wC yf w8 wA yd : CV) (i43 : Int) (oQ : LL) :
 Qc6 lb n (ny + 1) jt js jh jl ji jq aleg7 j9 jK jH jm jp jn jB jD jx jJ wZ wC yf w8 wA yd i43 oQ =
 bif (decide (i43 < ((aleg7.length : Nat) : Int))) then
 (chkO ((decide (0 ≤ (i43 : Int))) && (decide ((i43 : Int) < ((aleg7.length : Nat) : Int)))) (
 bif (j9 == 3) then
 (optO (oQ[0 + i43.toNat]?) fun lB =>
 optO (lB[2]?) fun vu =>
 optO (CV.asI .i64 vu) fun qf =>
 optO (oQ[0 + i43.toNat]?) fun c58 =>
 chkO (decide ((3 : Nat) ≤ c58.length)) (
 optO ((setN oQ (0 + i43.toNat) (Qbo c58 2 [.int .i64 (IntKind.wrap .i64 (qf + jB))]))[0 + i43.toNat]?) fun rE =>
 optO (rE[3]?) fun ra =>
 optO (CV.asI .i64 ra) fun gZ =>
 optO ((setN oQ (0 + i43.toNat) (Qbo c58 2 [.int .i64 (IntKind.wrap .i64 (qf + jB))]))[0 + i43.toNat]?) fun c62 =>
 chkO (decide ((4 : Nat) ≤ c62.length)) (
 Qc6 lb n ny jt js jh jl ji jq aleg7 j9 jK jH jm jp jn jB jD jx jJ wZ wC yf w8 wA yd (IntKind.wrap .i64 (i43 + 1)) (setN (setN oQ (0 + i43.toNat) (Qbo c58 2 [.int .i64 (IntKind.wrap .i64 (qf + jB))])) (0 + i43.toNat) (Qbo c62 3 [.int .i64 (IntKind.wrap .i64 (gZ + jB))])))))
 else
 (optO (oQ[0 + i43.toNat]?) fun c63 =>
 chkO (decide ((5 : Nat) ≤ c63.length)) (
 Qc6 lb n ny jt js jh jl ji jq aleg7 j9 jK jH jm jp jn jB jD jx jJ wZ wC yf w8 wA yd (IntKind.wrap .i64 (i43 + 1)) (setN oQ (0 + i43.toNat) (Qbo c63 4 [.str jD]))))))
 else
 (Qhf lb n jt js jh jl ji jq aleg7 j9 jK jH jm jp jn jB jD jx jJ wZ wC yf w8 wA yd oQ) := (Qac _).trans (by kernel_rfl)
theorem Qml (lb n : Nat) (jt : LB) (js jh jl ji : Int) (jq : Bool) (aleg7 : LL) (j9 : Int) (jK : LB) (jH jm jp jn jB : Int) (jD : LB) (jx : Bool) (jJ : LL) :
 top lb n Qau [.agg [.str jt, .int .i64 js, .int .i64 jh, .int .i64 jl, .int .i64 ji, .list jq aleg7], .agg [.int .i64 j9, .str jK, .int .i64 jH, .int .i64 jm, .int .i64 jp, .int .i64 jn, .int .i64 jB, .str jD, .list jx jJ]] =
 optO (C lb n Qgi [.agg [.int .i64 jh, .int .i64 jl, .int .i64 ji], .agg [.int .i64 jm, .int .i64 jp, .int .i64 jn]]) fun wZ =>
 optO (CV.asT wZ) fun t21 =>
 optO (t21[0]?) fun wC =>
 optO (CV.asT wZ) fun nD =>
 optO (nD[1]?) fun yf =>
 optO (CV.asA wC) fun c25 =>
 chkO (c25.length == 3) (
 optO (c25[0]?) fun w8 =>
 optO (c25[1]?) fun wA =>
 optO (c25[2]?) fun yd =>
 bif (j9 == 5) then
 (some (.agg [.str jt, .int .i64 js, w8, wA, yd, .list jx jJ]))
 else
 (bif jq then
 (revision_changed_L1 lb n n jt js jh jl ji jq aleg7 j9 jK jH jm jp jn jB jD jx jJ wZ wC yf w8 wA yd )
 else
 (chkO (aleg7.all (·.length == 5)) (
 chkO (room aleg7.length 64) (
 bif aleg7.isEmpty then
 (Qmo lb n n jt js jh jl ji jq aleg7 j9 jK jH jm jp jn jB jD jx jJ wZ wC yf w8 wA yd )
 else
 (Qc6 lb n n jt js jh jl ji jq aleg7 j9 jK jH jm jp jn jB jD jx jJ wZ wC yf w8 wA yd 0 aleg7)))))) := by kernel_rfl
end Go.Proofs
