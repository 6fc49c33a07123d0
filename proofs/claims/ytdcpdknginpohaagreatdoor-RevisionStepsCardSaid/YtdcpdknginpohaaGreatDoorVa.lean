/- Equations of functions, printed by program. Conditions: none. -/
import Derived.Test.YtdcpdknginpohaaGreatDoorEv
namespace Go.Proofs
open Go.Am
set_option maxRecDepth 100000
set_option linter.unusedVariables false
noncomputable def revision_changed_L1 :=
 fun lb n (ou : Nat) js jr jh jj ji (jq : Bool) (aleg7 : LL) j9 jJ jH jk jo jl jB jD (jx : Bool) (jI : LL) wZ wC yf w8 wA yc =>
 hold (Qar (E0 lb n 0 992) 0 (Qad (sub (B Qau) [1, 1, 1, 1, 0, 1, 0, 0]) ++ [5, 6]) [] (sub (B Qau) [1, 1, 1, 1, 0, 1, 0, 0]) (Qaj 0 (seqK (E0 lb n 0 995) (sub (B Qau) [1, 1, 1, 1, 0]) (sub (B Qau) [1, 1, 1, 1, 1]) (retK Tryz.prog (R Qau) 0 (outK (Qaf Tryz.prog Qau))))) ou ⟨fr 65 [(0, .val (.agg [.str js, .int .i64 jr, .int .i64 jh, .int .i64 jj, .int .i64 ji, .list jq aleg7])), (1, .val (.agg [.int .i64 j9, .str jJ, .int .i64 jH, .int .i64 jk, .int .i64 jo, .int .i64 jl, .int .i64 jB, .str jD, .list jx jI])), (2, .ptr 0 2 0), (3, .ptr 0 3 0), (4, .ptr 0 4 0), (7, vV wZ), (8, .ptr 0 2 2), (9, .val (.agg [.int .i64 jh, .int .i64 jj, .int .i64 ji])), (10, .ptr 0 3 3), (11, .val (.agg [.int .i64 jk, .int .i64 jo, .int .i64 jl])), (12, vV wZ), (13, vV wC), (14, vV yf), (15, .ptr 0 2 2), (23, .ptr 0 2 5), (24, .val (.list jq aleg7)), (25, .val (.list true [])), (26, .ptr 0 2 5), (27, .ptr 0 2 5), (28, .val (.list true [])), (29, vI 0), (30, vI 0)], [bx 65 [(2, some [vS js, vI jr, .val w8, .val wA, .val yc, .val (.list true [])]), (3, some [vI j9, vS jJ, vI jH, vI jk, vI jo, vI jl, vI jB, vS jD, .val (.list jx jI)]), (4, some [.val (.str []), vI 0, vI 0, vI 0, vI 0, .lst true true 94 []])]], KK⟩)
noncomputable def Qmt (lb n tF : Nat) (js : LB) (jr jh jj ji : Int) (jq : Bool) (aleg7 : LL) (j9 : Int) (jJ : LB) (jH jk jo jl jB : Int) (jD : LB) (jx : Bool) (jI : LL) (wZ wC yf w8 wA yc : CV) : Option CV :=
 hold (Qar (E0 lb n 0 992) 0 (Qad (sub (B Qau) [1, 1, 1, 1, 0, 1, 0, 0]) ++ [5, 6]) [] (sub (B Qau) [1, 1, 1, 1, 0, 1, 0, 0]) (Qaj 0 (seqK (E0 lb n 0 995) (sub (B Qau) [1, 1, 1, 1, 0]) (sub (B Qau) [1, 1, 1, 1, 1]) (retK Tryz.prog (R Qau) 0 (outK (Qaf Tryz.prog Qau))))) tF ⟨fr 65 [(0, .val (.agg [.str js, .int .i64 jr, .int .i64 jh, .int .i64 jj, .int .i64 ji, .list jq aleg7])), (1, .val (.agg [.int .i64 j9, .str jJ, .int .i64 jH, .int .i64 jk, .int .i64 jo, .int .i64 jl, .int .i64 jB, .str jD, .list jx jI])), (2, .ptr 0 2 0), (3, .ptr 0 3 0), (4, .ptr 0 4 0), (7, vV wZ), (8, .ptr 0 2 2), (9, .val (.agg [.int .i64 jh, .int .i64 jj, .int .i64 ji])), (10, .ptr 0 3 3), (11, .val (.agg [.int .i64 jk, .int .i64 jo, .int .i64 jl])), (12, vV wZ), (13, vV wC), (14, vV yf), (15, .ptr 0 2 2), (23, .ptr 0 2 5), (24, .val (.list jq aleg7)), (25, .val (.list false [])), (26, .ptr 0 2 5), (27, .ptr 0 2 5), (28, .val (.list false [])), (29, vI 0), (30, vI 0)], [bx 65 [(2, some [vS js, vI jr, .val w8, .val wA, .val yc, .val (.list false [])]), (3, some [vI j9, vS jJ, vI jH, vI jk, vI jo, vI jl, vI jB, vS jD, .val (.list jx jI)]), (4, some [.val (.str []), vI 0, vI 0, vI 0, vI 0, .lst true true 94 []])]], KK⟩)
noncomputable def Qc9 (lb n nS : Nat) (js : LB) (jr jh jj ji : Int) (jq : Bool) (aleg7 : LL) (j9 : Int) (jJ : LB) (jH jk jo jl jB : Int) (jD : LB) (jx : Bool) (jI : LL) (wZ wC yf w8 wA yc : CV) (i43 : Int) (oU : LL) : Option CV :=
 hold (Qar (E0 lb n 0 992) 0 (Qad (sub (B Qau) [1, 1, 1, 1, 0, 1, 0, 0]) ++ [5, 6]) [] (sub (B Qau) [1, 1, 1, 1, 0, 1, 0, 0]) (Qaj 0 (seqK (E0 lb n 0 995) (sub (B Qau) [1, 1, 1, 1, 0]) (sub (B Qau) [1, 1, 1, 1, 1]) (retK Tryz.prog (R Qau) 0 (outK (Qaf Tryz.prog Qau))))) nS ⟨fr 65 [(0, .val (.agg [.str js, .int .i64 jr, .int .i64 jh, .int .i64 jj, .int .i64 ji, .list jq aleg7])), (1, .val (.agg [.int .i64 j9, .str jJ, .int .i64 jH, .int .i64 jk, .int .i64 jo, .int .i64 jl, .int .i64 jB, .str jD, .list jx jI])), (2, .ptr 0 2 0), (3, .ptr 0 3 0), (4, .ptr 0 4 0), (7, vV wZ), (8, .ptr 0 2 2), (9, .val (.agg [.int .i64 jh, .int .i64 jj, .int .i64 ji])), (10, .ptr 0 3 3), (11, .val (.agg [.int .i64 jk, .int .i64 jo, .int .i64 jl])), (12, vV wZ), (13, vV wC), (14, vV yf), (15, .ptr 0 2 2), (23, .ptr 0 2 5), (24, .val (.list jq aleg7)), (25, .rsl 94 0 65 0 aleg7.length aleg7.length), (26, .ptr 0 2 5), (27, .ptr 0 2 5), (28, .rsl 94 0 65 0 aleg7.length aleg7.length), (29, .val (.int .i64 ((aleg7.length : Nat) : Int))), (30, vI i43)], [bx 66 [(2, some [vS js, vI jr, .val w8, .val wA, .val yc, .rsl 94 0 65 0 aleg7.length aleg7.length]), (3, some [vI j9, vS jJ, vI jH, vI jk, vI jo, vI jl, vI jB, vS jD, .val (.list jx jI)]), (4, some [.val (.str []), vI 0, vI 0, vI 0, vI 0, .lst true true 94 []]), (65, some [.row 94 oU])]], KK⟩)
noncomputable def Qhq (lb n : Nat) (js : LB) (jr jh jj ji : Int) (jq : Bool) (aleg7 : LL) (j9 : Int) (jJ : LB) (jH jk jo jl jB : Int) (jD : LB) (jx : Bool) (jI : LL) (wZ wC yf w8 wA yc : CV) (l65 : LL) : Option CV :=
 hold (E0 lb n 0 995 (sub (B Qau) [1, 1, 1, 1, 1]) (retK Tryz.prog (R Qau) 0 (outK (Qaf Tryz.prog Qau))) ⟨fr 65 [(0, .val (.agg [.str js, .int .i64 jr, .int .i64 jh, .int .i64 jj, .int .i64 ji, .list jq aleg7])), (1, .val (.agg [.int .i64 j9, .str jJ, .int .i64 jH, .int .i64 jk, .int .i64 jo, .int .i64 jl, .int .i64 jB, .str jD, .list jx jI])), (2, .ptr 0 2 0), (3, .ptr 0 3 0), (4, .ptr 0 4 0), (7, vV wZ), (8, .ptr 0 2 2), (9, .val (.agg [.int .i64 jh, .int .i64 jj, .int .i64 ji])), (10, .ptr 0 3 3), (11, .val (.agg [.int .i64 jk, .int .i64 jo, .int .i64 jl])), (12, vV wZ), (13, vV wC), (14, vV yf), (15, .ptr 0 2 2), (23, .ptr 0 2 5), (24, .val (.list jq aleg7)), (25, .rsl 94 0 65 0 aleg7.length aleg7.length), (26, .ptr 0 2 5)], [bx 66 [(2, some [vS js, vI jr, .val w8, .val wA, .val yc, .rsl 94 0 65 0 aleg7.length aleg7.length]), (3, some [vI j9, vS jJ, vI jH, vI jk, vI jo, vI jl, vI jB, vS jD, .val (.list jx jI)]), (4, some [.val (.str []), vI 0, vI 0, vI 0, vI 0, .lst true true 94 []]), (65, some [.row 94 l65])]], KK⟩)
theorem QkJ (lb n : Nat) (js : LB) (jr jh jj ji : Int) (jq : Bool) (aleg7 : LL) (j9 : Int) (jJ : LB) (jH jk jo jl jB : Int) (jD : LB) (jx : Bool) (jI : LL) (wZ wC yf w8 wA yc : CV) (l65 : LL) :
 Qhq lb n js jr jh jj ji jq aleg7 j9 jJ jH jk jo jl jB jD jx jI wZ wC yf w8 wA yc l65 =
 chkO (decide ((0 + aleg7.length) ≤ l65.length)) (
 some (.agg [.str js, .int .i64 jr, w8, wA, yc, .list false ((l65.drop 0).take aleg7.length)])) := (Qac _).trans (by kernel_rfl)
theorem QfP (lb n nS : Nat) (js : LB) (jr jh jj ji : Int) (jq : Bool) (aleg7 : LL) (j9 : Int) (jJ : LB) (jH jk jo jl jB : Int) (jD : LB) (jx : Bool) (jI : LL) (wZ wC yf w8 wA yc : CV) (i43 : Int) (oU : LL) :
 Qc9 lb n (nS + 1) js jr jh jj ji jq aleg7 j9 jJ jH jk jo jl jB jD jx jI wZ wC yf w8 wA yc i43 oU =
 bif (decide (i43 < ((aleg7.length : Nat) : Int))) then
 (chkO ((decide (0 ≤ (i43 : Int))) && (decide ((i43 : Int) < ((aleg7.length : Nat) : Int)))) (
 bif (j9 == 3) then
 (optO (oU[0 + i43.toNat]?) fun lI =>
 optO (lI[2]?) fun ve =>
 optO (CV.asI .i64 ve) fun g9 =>
 optO (oU[0 + i43.toNat]?) fun c58 =>
 chkO (decide ((3 : Nat) ≤ c58.length)) (
 optO ((setN oU (0 + i43.toNat) (Qbo c58 2 [.int .i64 (IntKind.wrap .i64 (g9 + jB))]))[0 + i43.toNat]?) fun tt =>
 optO (tt[3]?) fun qw =>
 optO (CV.asI .i64 qw) fun ma =>
 optO ((setN oU (0 + i43.toNat) (Qbo c58 2 [.int .i64 (IntKind.wrap .i64 (g9 + jB))]))[0 + i43.toNat]?) fun c62 =>
 chkO (decide ((4 : Nat) ≤ c62.length)) (
 Qc9 lb n nS js jr jh jj ji jq aleg7 j9 jJ jH jk jo jl jB jD jx jI wZ wC yf w8 wA yc (IntKind.wrap .i64 (i43 + 1)) (setN (setN oU (0 + i43.toNat) (Qbo c58 2 [.int .i64 (IntKind.wrap .i64 (g9 + jB))])) (0 + i43.toNat) (Qbo c62 3 [.int .i64 (IntKind.wrap .i64 (ma + jB))])))))
 else
 (optO (oU[0 + i43.toNat]?) fun c63 =>
 chkO (decide ((5 : Nat) ≤ c63.length)) (
 Qc9 lb n nS js jr jh jj ji jq aleg7 j9 jJ jH jk jo jl jB jD jx jI wZ wC yf w8 wA yc (IntKind.wrap .i64 (i43 + 1)) (setN oU (0 + i43.toNat) (Qbo c63 4 [.str jD]))))))
 else
 (Qhq lb n js jr jh jj ji jq aleg7 j9 jJ jH jk jo jl jB jD jx jI wZ wC yf w8 wA yc oU) := (Qac _).trans (by kernel_rfl)
theorem Qmv (lb n : Nat) (js : LB) (jr jh jj ji : Int) (jq : Bool) (aleg7 : LL) (j9 : Int) (jJ : LB) (jH jk jo jl jB : Int) (jD : LB) (jx : Bool) (jI : LL) :
 top lb n Qau [.agg [.str js, .int .i64 jr, .int .i64 jh, .int .i64 jj, .int .i64 ji, .list jq aleg7], .agg [.int .i64 j9, .str jJ, .int .i64 jH, .int .i64 jk, .int .i64 jo, .int .i64 jl, .int .i64 jB, .str jD, .list jx jI]] =
 optO (C lb n Qgr [.agg [.int .i64 jh, .int .i64 jj, .int .i64 ji], .agg [.int .i64 jk, .int .i64 jo, .int .i64 jl]]) fun wZ =>
 optO (CV.asT wZ) fun t21 =>
 optO (t21[0]?) fun wC =>
 optO (CV.asT wZ) fun nZ =>
 optO (nZ[1]?) fun yf =>
 optO (CV.asA wC) fun c25 =>
 chkO (c25.length == 3) (
 optO (c25[0]?) fun w8 =>
 optO (c25[1]?) fun wA =>
 optO (c25[2]?) fun yc =>
 bif (j9 == 5) then
 (some (.agg [.str js, .int .i64 jr, w8, wA, yc, .list jx jI]))
 else
 (bif jq then
 (revision_changed_L1 lb n n js jr jh jj ji jq aleg7 j9 jJ jH jk jo jl jB jD jx jI wZ wC yf w8 wA yc )
 else
 (chkO (aleg7.all (·.length == 5)) (
 chkO (room aleg7.length 64) (
 bif aleg7.isEmpty then
 (Qmt lb n n js jr jh jj ji jq aleg7 j9 jJ jH jk jo jl jB jD jx jI wZ wC yf w8 wA yc )
 else
 (Qc9 lb n n js jr jh jj ji jq aleg7 j9 jJ jH jk jo jl jB jD jx jI wZ wC yf w8 wA yc 0 aleg7)))))) := by kernel_rfl
end Go.Proofs
