/- Equations of functions, printed by program. Conditions: none. -/
import Derived.Test.YtmpbijffaepkdaaGreatDoorEv
namespace Go.Proofs
open Go.Am
set_option maxRecDepth 100000
set_option linter.unusedVariables false
noncomputable def l21_parts_L1 :=
 fun lb n (ye : Nat) jZ (j3 : Bool) (j5 : LL) j6 j9 jq jy js (jt : Bool) (jn : LL) wo wL wJ =>
 hold (QaN (E0 lb n 0 993) 0 (Qaz (sub (B QaF) [1,1,1,0,1,0,0]) ++ []) [] (sub (B QaF) [1,1,1,0,1,0,0]) (QaR 0 (seqK (E0 lb n 0 996) (sub (B QaF) [1,1,1,0]) (sub (B QaF) [1,1,1,1]) (retK Tryz.prog (R QaF) 0 (outK (Qap Tryz.prog QaF))))) ye ⟨fr 43 [(0, .val (.agg [.int .i64 jZ, .list j3 j5, .int .i64 j6, .int .i64 j9, .int .i64 jq, .int .i64 jy, .int .i64 js, .list jt jn])),(1,vI wo),(2, .ptr 0 2 0),(4,vI 0),(5,vI wL),(6,vI wJ),(7, .ptr 0 2 7),(8, .val (.list jt jn)),(9, .val (.int .i64 (jn.length : Int))),(10, .val (.int .i64 (if 300 < (jn.length : Int) then 300 else (jn.length : Int)))),(11, .val (.int .i64 (IntKind.wrap .i64 (1 + (if 300 < (jn.length : Int) then 300 else (jn.length : Int))))))],[bx 43 [(2,some [vI jZ, .val (.list j3 j5),vI j6,vI j9,vI jq,vI jy,vI js, .val (.list jt jn)])]],KK⟩)
noncomputable def Qes (lb n : Nat) (jZ : Int) (j3 : Bool) (j5 : LL) (j6 j9 jq jy js : Int) (jt : Bool) (jn : LL) (wo i51 yT : Int) : Option CV :=
 hold (E0 lb n 0 996 (sub (B QaF) [1,1,1,1]) (retK Tryz.prog (R QaF) 0 (outK (Qap Tryz.prog QaF))) ⟨fr 43 [(0, .val (.agg [.int .i64 jZ, .list j3 j5, .int .i64 j6, .int .i64 j9, .int .i64 jq, .int .i64 jy, .int .i64 js, .list jt jn])),(1,vI wo),(2, .ptr 0 2 0),(4,vI 0),(5,vI i51),(6,vI yT),(7, .ptr 0 2 7),(8, .val (.list jt jn)),(9, .val (.int .i64 (jn.length : Int))),(10, .val (.int .i64 (if 300 < (jn.length : Int) then 300 else (jn.length : Int)))),(11, .val (.int .i64 (IntKind.wrap .i64 (1 + (if 300 < (jn.length : Int) then 300 else (jn.length : Int))))))],[bx 43 [(2,some [vI jZ, .val (.list j3 j5),vI j6,vI j9,vI jq,vI jy,vI js, .val (.list jt jn)])]],KK⟩)
theorem QeA (lb n : Nat) (jZ : Int) (j3 : Bool) (j5 : LL) (j6 j9 jq jy js : Int) (jt : Bool) (jn : LL) (wo i51 yT : Int) :
 Qes lb n jZ j3 j5 j6 j9 jq jy js jt jn wo i51 yT =
 some (.int .i64 (if 300 < i51 then 300 else i51)) := (Qao _).trans (by kernel_rfl)
theorem QdX (lb n ye : Nat) (jZ : Int) (j3 : Bool) (j5 : LL) (j6 j9 jq jy js : Int) (jt : Bool) (jn : LL) (wo wL wJ : Int) :
 l21_parts_L1 lb n (ye + 1) jZ j3 j5 j6 j9 jq jy js jt jn wo wL wJ =
 bif (decide (wJ < (j5.length : Int))) then
 (bif (decide (wL < 300)) then
 (optO (atL j5 wJ) fun wC =>
 chkO (wC.length == 8) (
 optO (wC[0]?) fun wP =>
 optO (wC[1]?) fun yc =>
 optO (wC[2]?) fun wR =>
 optO (wC[3]?) fun yp =>
 optO (wC[4]?) fun yu =>
 optO (wC[5]?) fun yg =>
 optO (wC[6]?) fun yt =>
 optO (wC[7]?) fun y4 =>
 optO (C lb n QaF [.agg [wP,yc,wR,yp,yu,yg,yt,y4], .int .i64 (IntKind.wrap .i64 (wo + 1))]) fun oc =>
 optO (CV.asI .i64 oc) fun jz =>
 l21_parts_L1 lb n ye jZ j3 j5 j6 j9 jq jy js jt jn wo (IntKind.wrap .i64 (wL + jz)) (IntKind.wrap .i64 (wJ + 1))))
 else
 (Qes lb n jZ j3 j5 j6 j9 jq jy js jt jn wo wL wJ))
 else
 (Qes lb n jZ j3 j5 j6 j9 jq jy js jt jn wo wL wJ) := (Qao _).trans (by kernel_rfl)
theorem Qj7 (lb n : Nat) (jZ : Int) (j3 : Bool) (j5 : LL) (j6 j9 jq jy js : Int) (jt : Bool) (jn : LL) (wo : Int) :
 top lb n QaF [.agg [.int .i64 jZ, .list j3 j5, .int .i64 j6, .int .i64 j9, .int .i64 jq, .int .i64 jy, .int .i64 js, .list jt jn], .int .i64 wo] =
 bif (decide (wo > 20)) then
 (some (.int .i64 300))
 else
 (bif (decide ((j5.length : Int) > 300)) then
 (some (.int .i64 300))
 else
 (l21_parts_L1 lb n n jZ j3 j5 j6 j9 jq jy js jt jn wo (IntKind.wrap .i64 (1 + (if 300 < (jn.length : Int) then 300 else (jn.length : Int)))) 0)) := by kernel_rfl
theorem QjW (lb n : Nat) (ju jr : Int) (jx : Bool) (jK : LL) (jL jJ awheperfro7 ji awheperday10 : Int) (jj : Bool) (jm : LL) (jB : Bool) (jD : LL) (jM jN jQ jP : Int) (jA : Bool) (jC : LL) :
 top lb n QcI [.agg [.int .i64 ju, .int .i64 jr, .list jx jK, .int .i64 jL, .int .i64 jJ, .int .i64 awheperfro7, .int .i64 ji, .int .i64 awheperday10, .list jj jm, .list jB jD, .int .i64 jM, .int .i64 jN, .int .i64 jQ, .int .i64 jP, .list jA jC]] =
 optO (C lb n QaF [.agg [.int .i64 jr, .list jx jK, .int .i64 jL, .int .i64 jJ, .int .i64 awheperfro7, .int .i64 ji, .int .i64 awheperday10, .list jj jm], .int .i64 0]) fun vO =>
 optO (CV.asI .i64 vO) fun wG =>
 bif (decide (wG ≤ 200)) then
 (bif (decide ((jD.length : Int) ≤ 100)) then
 (some (.bool (decide ((jC.length : Int) ≤ 100))))
 else
 (some (.bool false)))
 else
 (some (.bool false)) := by kernel_rfl
end Go.Proofs
