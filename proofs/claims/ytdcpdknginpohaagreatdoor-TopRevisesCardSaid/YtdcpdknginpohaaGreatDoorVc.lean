/- Equations of functions, printed by program. Conditions: none. -/
import Derived.Test.YtdcpdknginpohaaGreatDoorEv
namespace Go.Proofs
open Go.Am
set_option maxRecDepth 100000
set_option linter.unusedVariables false
noncomputable def revision_allowed_L1 :=
 fun lb n (pw : Nat) (jK : Bool) (a2 : LL) yn yV yR wU w9 wV yF yE (yj : Bool) (yD : LL) vX kp =>
 hold (Qas (E2 lb n 2 995) 2 (Qad (sub (B Qbc) [1, 0, 1, 0, 0]) ++ [5]) [] (sub (B Qbc) [1, 0, 1, 0, 0]) (Qaj 0 (seqK (E2 lb n 2 998) (sub (B Qbc) [1, 0]) (sub (B Qbc) [1, 1]) (retK Tryz.prog (R Qbc) 2 (inlK (opAt (QaA (sub (B QaB) [1, 0])) 2) ⟨fr 9 [(0, .val (.list jK a2)), (1, .clo QbC [.ptr 0 3 0]), (4, vB false), (5, .val (.list jK a2)), (6, .clo QbC [.ptr 0 3 0])], [bx 39 [(3, some [vI yn, vS yV, vI yR, vI wU, vI w9, vI wV, vI yF, vS yE, .val (.list yj yD)])], bx 9 []], KK⟩ (opsK Tryz.prog (C lb n) (I8 lb n) 1 (QaA (sub (B QaB) [1, 0])) ((QaA (sub (B QaB) [1, 0])).drop 3) ((seqK (E1 lb n 1 998) (sub (B QaB) [1, 0]) (sub (B QaB) [1, 1]) (retK Tryz.prog (R QaB) 1 (inlK (opAt (QaA (sub (B QaU) [1, 1, 1, 0])) 2) ⟨fr 39 [(0, .val (.list jK a2)), (1, .val (.agg [.int .i64 yn, .str yV, .int .i64 yR, .int .i64 wU, .int .i64 w9, .int .i64 wV, .int .i64 yF, .str yE, .list yj yD])), (3, .ptr 0 3 0), (4, vI 0), (5, vV vX), (21, .val (.list jK a2)), (22, .clo QbC [.ptr 0 3 0])], [bx 39 [(3, some [vI yn, vS yV, vI yR, vI wU, vI w9, vI wV, vI yF, vS yE, .val (.list yj yD)])]], KK⟩ (opsK Tryz.prog (C lb n) (I9 lb n) 0 (QaA (sub (B QaU) [1, 1, 1, 0])) ((QaA (sub (B QaU) [1, 1, 1, 0])).drop 3) ((seqK (E0 lb n 0 996) (sub (B QaU) [1, 1, 1, 0]) (sub (B QaU) [1, 1, 1, 1]) (retK Tryz.prog (R QaU) 0 (outK (Qag Tryz.prog QaU)))) .normal))))) .normal)))))) pw ⟨fr 19 [(0, .val (.list jK a2)), (1, .clo QbC [.ptr 0 3 0]), (4, vI 0), (6, .val (.list jK a2)), (7, .val (.int .i64 (a2.length : Int))), (8, vI kp)], [bx 39 [(3, some [vI yn, vS yV, vI yR, vI wU, vI w9, vI wV, vI yF, vS yE, .val (.list yj yD)])], bx 9 [], bx 19 []], KK⟩)
noncomputable def Qhr (lb n : Nat) (jK : Bool) (a2 : LL) (yn : Int) (yV : LB) (yR wU w9 wV yF : Int) (yE : LB) (yj : Bool) (yD : LL) (vX : CV) : Option CV :=
 hold (E2 lb n 2 998 (sub (B Qbc) [1, 1]) (retK Tryz.prog (R Qbc) 2 (inlK (opAt (QaA (sub (B QaB) [1, 0])) 2) ⟨fr 9 [(0, .val (.list jK a2)), (1, .clo QbC [.ptr 0 3 0]), (4, vB false), (5, .val (.list jK a2)), (6, .clo QbC [.ptr 0 3 0])], [bx 39 [(3, some [vI yn, vS yV, vI yR, vI wU, vI w9, vI wV, vI yF, vS yE, .val (.list yj yD)])], bx 9 []], KK⟩ (opsK Tryz.prog (C lb n) (I8 lb n) 1 (QaA (sub (B QaB) [1, 0])) ((QaA (sub (B QaB) [1, 0])).drop 3) ((seqK (E1 lb n 1 998) (sub (B QaB) [1, 0]) (sub (B QaB) [1, 1]) (retK Tryz.prog (R QaB) 1 (inlK (opAt (QaA (sub (B QaU) [1, 1, 1, 0])) 2) ⟨fr 39 [(0, .val (.list jK a2)), (1, .val (.agg [.int .i64 yn, .str yV, .int .i64 yR, .int .i64 wU, .int .i64 w9, .int .i64 wV, .int .i64 yF, .str yE, .list yj yD])), (3, .ptr 0 3 0), (4, vI 0), (5, vV vX), (21, .val (.list jK a2)), (22, .clo QbC [.ptr 0 3 0])], [bx 39 [(3, some [vI yn, vS yV, vI yR, vI wU, vI w9, vI wV, vI yF, vS yE, .val (.list yj yD)])]], KK⟩ (opsK Tryz.prog (C lb n) (I9 lb n) 0 (QaA (sub (B QaU) [1, 1, 1, 0])) ((QaA (sub (B QaU) [1, 1, 1, 0])).drop 3) ((seqK (E0 lb n 0 996) (sub (B QaU) [1, 1, 1, 0]) (sub (B QaU) [1, 1, 1, 1]) (retK Tryz.prog (R QaU) 0 (outK (Qag Tryz.prog QaU)))) .normal))))) .normal)))) ⟨fr 19 [(0, .val (.list jK a2)), (1, .clo QbC [.ptr 0 3 0]), (4, vI 0)], [bx 39 [(3, some [vI yn, vS yV, vI yR, vI wU, vI w9, vI wV, vI yF, vS yE, .val (.list yj yD)])], bx 9 [], bx 19 []], KK⟩)
theorem Qkj (lb n : Nat) (jK : Bool) (a2 : LL) (yn : Int) (yV : LB) (yR wU w9 wV yF : Int) (yE : LB) (yj : Bool) (yD : LL) (vX : CV) :
 Qhr lb n jK a2 yn yV yR wU w9 wV yF yE yj yD vX =
 bif (yn == 1) then
 (bif (yn != 1) then
 (some (.int .i64 7))
 else
 (some (.int .i64 0)))
 else
 (bif (yn != 1) then
 (some (.int .i64 7))
 else
 (some (.int .i64 0))) := (Qaf _).trans (by kernel_rfl)
theorem Qft (lb n pw : Nat) (jK : Bool) (a2 : LL) (yn : Int) (yV : LB) (yR wU w9 wV yF : Int) (yE : LB) (yj : Bool) (yD : LL) (vX : CV) (kp : Int) :
 revision_allowed_L1 lb n (pw + 1) jK a2 yn yV yR wU w9 wV yF yE yj yD vX kp =
 bif (decide (kp < (a2.length : Int))) then
 (optO (atL a2 kp) fun c38 =>
 chkO (c38.length == 6) (
 optO (c38[0]?) fun oU =>
 optO (c38[1]?) fun oc =>
 optO (c38[2]?) fun gM =>
 optO (c38[3]?) fun gI =>
 optO (c38[4]?) fun gw =>
 optO (c38[5]?) fun oj =>
 optO (C lb n Qd7 [.agg [oU, oc, gM, gI, gw, oj], .agg [.int .i64 yn, .str yV, .int .i64 yR, .int .i64 wU, .int .i64 w9, .int .i64 wV, .int .i64 yF, .str yE, .list yj yD]]) fun lf =>
 optO (CV.asB lf) fun gB =>
 bif gB then
 (bif (yn == 1) then
 (bif (decide (kp ≥ 0)) then
 (some (.int .i64 6))
 else
 (bif (yn != 1) then
 (bif (!(decide (kp ≥ 0))) then
 (some (.int .i64 7))
 else
 (some (.int .i64 0)))
 else
 (some (.int .i64 0))))
 else
 (bif (yn != 1) then
 (bif (!(decide (kp ≥ 0))) then
 (some (.int .i64 7))
 else
 (some (.int .i64 0)))
 else
 (some (.int .i64 0))))
 else
 (revision_allowed_L1 lb n pw jK a2 yn yV yR wU w9 wV yF yE yj yD vX (IntKind.wrap .i64 (kp + 1)))))
 else
 (Qhr lb n jK a2 yn yV yR wU w9 wV yF yE yj yD vX ) := (Qaf _).trans (by kernel_rfl)
theorem Qmc (lb n : Nat) (jK : Bool) (a2 : LL) (yn : Int) (yV : LB) (yR wU w9 wV yF : Int) (yE : LB) (yj : Bool) (yD : LL) :
 top lb n QaU [.list jK a2, .agg [.int .i64 yn, .str yV, .int .i64 yR, .int .i64 wU, .int .i64 w9, .int .i64 wV, .int .i64 yF, .str yE, .list yj yD]] =
 bif (decide (yn < 1)) then
 (some (.int .i64 8))
 else
 (bif (decide (yn > 5)) then
 (some (.int .i64 8))
 else
 (optO (C lb n Qbq [.agg [.int .i64 wU, .int .i64 w9, .int .i64 wV]]) fun vX =>
 optO (CV.asI .i64 vX) fun kT =>
 bif (kT != 0) then
 (some (vX))
 else
 (revision_allowed_L1 lb n n jK a2 yn yV yR wU w9 wV yF yE yj yD vX 0))) := by kernel_rfl
noncomputable def Qc0 (lb n gL : Nat) (ja : Bool) (aair2 : LL) (jb : Bool) (adis4 : LL) (ji : Bool) (b6 : LL) (wk : Int) (wj : LB) (j2 jp jL jq wa : Int) (wb : LB) (jS : Bool) (cleg18 : LL) (vP : CV) (kd : Bool) (l45 : LL) (i46 : Int) : Option CV :=
 hold (Qas (E0 lb n 0 993) 0 (Qad (sub (B Qbl) [1, 1, 1, 0, 1, 0, 0]) ++ [12, 13]) [11] (sub (B Qbl) [1, 1, 1, 0, 1, 0, 0]) (Qaj 0 (seqK (E0 lb n 0 996) (sub (B Qbl) [1, 1, 1, 0]) (sub (B Qbl) [1, 1, 1, 1]) (retK Tryz.prog (R Qbl) 0 (outK (Qag Tryz.prog Qbl))))) gL ⟨fr 82 [(0, .val (.agg [.list ja aair2, .list jb adis4])), (1, .val (.list ji b6)), (2, .val (.agg [.int .i64 wk, .str wj, .int .i64 j2, .int .i64 jp, .int .i64 jL, .int .i64 jq, .int .i64 wa, .str wb, .list jS cleg18])), (3, .ptr 0 3 0), (5, .ptr 0 5 0), (6, .lst true true 42 []), (7, vI 0), (8, vV vP), (9, .lst true kd 42 l45), (22, .val (.list ji b6)), (23, .val (.int .i64 (b6.length : Int))), (24, vI i46)], [bx 82 [(3, some [.val (.list ja aair2), .val (.list jb adis4)]), (5, some [vI wk, vS wj, vI j2, vI jp, vI jL, vI jq, vI wa, vS wb, .val (.list jS cleg18)])]], KK⟩)
noncomputable def QiJ (lb n : Nat) (ja : Bool) (aair2 : LL) (jb : Bool) (adis4 : LL) (ji : Bool) (b6 : LL) (wk : Int) (wj : LB) (j2 jp jL jq wa : Int) (wb : LB) (jS : Bool) (cleg18 : LL) (vP : CV) (nv : Bool) (l82 : LL) : Option CV :=
 hold (E0 lb n 0 996 (sub (B Qbl) [1, 1, 1, 1]) (retK Tryz.prog (R Qbl) 0 (outK (Qag Tryz.prog Qbl))) ⟨fr 82 [(0, .val (.agg [.list ja aair2, .list jb adis4])), (1, .val (.list ji b6)), (2, .val (.agg [.int .i64 wk, .str wj, .int .i64 j2, .int .i64 jp, .int .i64 jL, .int .i64 jq, .int .i64 wa, .str wb, .list jS cleg18])), (3, .ptr 0 3 0), (5, .ptr 0 5 0), (6, .lst true true 42 []), (7, vI 0), (8, vV vP), (9, .lst true nv 42 l82)], [bx 82 [(3, some [.val (.list ja aair2), .val (.list jb adis4)]), (5, some [vI wk, vS wj, vI j2, vI jp, vI jL, vI jq, vI wa, vS wb, .val (.list jS cleg18)])]], KK⟩)
theorem Qlt (lb n : Nat) (ja : Bool) (aair2 : LL) (jb : Bool) (adis4 : LL) (ji : Bool) (b6 : LL) (wk : Int) (wj : LB) (j2 jp jL jq wa : Int) (wb : LB) (jS : Bool) (cleg18 : LL) (vP : CV) (nv : Bool) (l82 : LL) :
 QiJ lb n ja aair2 jb adis4 ji b6 wk wj j2 jp jL jq wa wb jS cleg18 vP nv l82 =
 bif (wk == 1) then
 (optO (C lb n Qak [.agg [.list ja aair2, .list jb adis4], .agg [.str wj, .int .i64 j2, .int .i64 jp, .int .i64 jL, .int .i64 jq, .list jS cleg18]]) fun qy =>
 optO (CV.asL qy) fun lV =>
 bif (decide ((lV.2.length : Int) > 0)) then
 (optO (CV.asL qy) fun li =>
 optO (atL li.2 0) fun c86 =>
 chkO (c86.length == 2) (
 optO (c86[0]?) fun lO =>
 some (.tup [.list true [], lO])))
 else
 (chkO (room (l82.length + 1) 72) (
 some (.tup [.list (nv && false) (l82 ++ [[CV.str wj, CV.int .i64 j2, CV.int .i64 jp, CV.int .i64 jL, CV.int .i64 jq, CV.list jS cleg18]]), .int .i64 0]))))
 else
 (some (.tup [.list nv l82, .int .i64 0])) := (Qaf _).trans (by kernel_rfl)
theorem Qcu (lb n gL : Nat) (ja : Bool) (aair2 : LL) (jb : Bool) (adis4 : LL) (ji : Bool) (b6 : LL) (wk : Int) (wj : LB) (j2 jp jL jq wa : Int) (wb : LB) (jS : Bool) (cleg18 : LL) (vP : CV) (kd : Bool) (l45 : LL) (i46 : Int) :
 Qc0 lb n (gL + 1) ja aair2 jb adis4 ji b6 wk wj j2 jp jL jq wa wb jS cleg18 vP kd l45 i46 =
 bif (decide (i46 < (b6.length : Int))) then
 (optO (atL b6 i46) fun c65 =>
 chkO (c65.length == 6) (
 optO (c65[0]?) fun ka =>
 optO (c65[1]?) fun kk =>
 optO (c65[2]?) fun v8 =>
 optO (c65[3]?) fun kj =>
 optO (c65[4]?) fun pG =>
 optO (c65[5]?) fun pm =>
 bif (wk == 1) then
 (chkO (room (l45.length + 1) 72) (
 Qc0 lb n gL ja aair2 jb adis4 ji b6 wk wj j2 jp jL jq wa wb jS cleg18 vP (kd && false) (l45 ++ [[ka, kk, v8, kj, pG, pm]]) (IntKind.wrap .i64 (i46 + 1))))
 else
 (optO (C lb n Qd7 [.agg [ka, kk, v8, kj, pG, pm], .agg [.int .i64 wk, .str wj, .int .i64 j2, .int .i64 jp, .int .i64 jL, .int .i64 jq, .int .i64 wa, .str wb, .list jS cleg18]]) fun zr =>
 optO (CV.asB zr) fun zn =>
 bif (!zn) then
 (chkO (room (l45.length + 1) 72) (
 Qc0 lb n gL ja aair2 jb adis4 ji b6 wk wj j2 jp jL jq wa wb jS cleg18 vP (kd && false) (l45 ++ [[ka, kk, v8, kj, pG, pm]]) (IntKind.wrap .i64 (i46 + 1))))
 else
 (optO (C lb n Qao [.agg [.list ja aair2, .list jb adis4], .agg [ka, kk, v8, kj, pG, pm], .agg [.int .i64 wk, .str wj, .int .i64 j2, .int .i64 jp, .int .i64 jL, .int .i64 jq, .int .i64 wa, .str wb, .list jS cleg18]]) fun qC =>
 optO (CV.asT qC) fun t75 =>
 optO (t75[0]?) fun ql =>
 optO (CV.asT qC) fun lI =>
 optO (lI[1]?) fun qB =>
 optO (CV.asI .i64 qB) fun zT =>
 bif (zT != 0) then
 (some (.tup [.list true [], qB]))
 else
 (optO (CV.asL ql) fun pH =>
 chkO (pH.2.all (·.length == 6)) (
 chkO (room (l45.length + pH.2.length) 72) (
 Qc0 lb n gL ja aair2 jb adis4 ji b6 wk wj j2 jp jL jq wa wb jS cleg18 vP (kd && pH.2.isEmpty) (l45 ++ pH.2) (IntKind.wrap .i64 (i46 + 1)))))))))
 else
 (QiJ lb n ja aair2 jb adis4 ji b6 wk wj j2 jp jL jq wa wb jS cleg18 vP kd l45) := (Qaf _).trans (by kernel_rfl)
theorem QiB (lb n : Nat) (ja : Bool) (aair2 : LL) (jb : Bool) (adis4 : LL) (ji : Bool) (b6 : LL) (wk : Int) (wj : LB) (j2 jp jL jq wa : Int) (wb : LB) (jS : Bool) (cleg18 : LL) :
 top lb n Qbl [.agg [.list ja aair2, .list jb adis4], .list ji b6, .agg [.int .i64 wk, .str wj, .int .i64 j2, .int .i64 jp, .int .i64 jL, .int .i64 jq, .int .i64 wa, .str wb, .list jS cleg18]] =
 optO (C lb n QaU [.list ji b6, .agg [.int .i64 wk, .str wj, .int .i64 j2, .int .i64 jp, .int .i64 jL, .int .i64 jq, .int .i64 wa, .str wb, .list jS cleg18]]) fun vP =>
 optO (CV.asI .i64 vP) fun i20 =>
 bif (i20 != 0) then
 (some (.tup [.list true [], vP]))
 else
 (Qc0 lb n n ja aair2 jb adis4 ji b6 wk wj j2 jp jL jq wa wb jS cleg18 vP true [] 0) := by kernel_rfl
end Go.Proofs
