/- Equations of functions, printed by program. Conditions: none. -/
import Derived.Test.YtdcpdknginpohaaGreatDoorEv
namespace Go.Proofs
open Go.Am
set_option maxRecDepth 100000
set_option linter.unusedVariables false
noncomputable def r06_Find_L1 :=
 fun lb n (yj : Nat) (ja : Bool) (aair2 : LL) (jb : Bool) (adis4 : LL) b5 jQ =>
 hold (Qas (E0 lb n 0 995) 0 (Qag (sub (B Qa9) [1, 0, 1, 0, 0]) ++ []) [] (sub (B Qa9) [1, 0, 1, 0, 0]) (Qaj 0 (seqK (E0 lb n 0 998) (sub (B Qa9) [1, 0]) (sub (B Qa9) [1, 1]) (retK Tryz.prog (R Qa9) 0 (outK (Qaf Tryz.prog Qa9))))) yj ⟨fr 28 [(0, .val (.agg [.list ja aair2, .list jb adis4])), (1, vS b5), (2, .ptr 0 2 0), (4, .ptr 0 4 0), (5, vB false), (6, vI jQ)], [bx 28 [(2, some [.val (.list ja aair2), .val (.list jb adis4)]), (4, some [.val (.str []), .val (.str []), .val (.str []), vI 0, .lst true true 195 []])]], KK⟩)
noncomputable def QlI (lb n : Nat) (ja : Bool) (aair2 : LL) (jb : Bool) (adis4 : LL) (b5 : LB) (w5 : Int) : Option CV :=
 hold (E0 lb n 0 998 (sub (B Qa9) [1, 1]) (retK Tryz.prog (R Qa9) 0 (outK (Qaf Tryz.prog Qa9))) ⟨fr 28 [(0, .val (.agg [.list ja aair2, .list jb adis4])), (1, vS b5), (2, .ptr 0 2 0), (4, .ptr 0 4 0), (5, vB false), (6, vI w5)], [bx 28 [(2, some [.val (.list ja aair2), .val (.list jb adis4)]), (4, some [.val (.str []), .val (.str []), .val (.str []), vI 0, .lst true true 195 []])]], KK⟩)
theorem QnO (lb n : Nat) (ja : Bool) (aair2 : LL) (jb : Bool) (adis4 : LL) (b5 : LB) (w5 : Int) :
 QlI lb n ja aair2 jb adis4 b5 w5 =
 some (.tup [.agg [.str [], .str [], .str [], .int .i64 0, .list true []], .bool false]) := (Qad _).trans (by kernel_rfl)
theorem Qg7 (lb n yj : Nat) (ja : Bool) (aair2 : LL) (jb : Bool) (adis4 : LL) (b5 : LB) (jQ : Int) :
 r06_Find_L1 lb n (yj + 1) ja aair2 jb adis4 b5 jQ =
 bif (decide (jQ < (aair2.length : Int))) then
 (optO (atL aair2 jQ) fun c28 =>
 chkO (c28.length == 5) (
 optO (c28[0]?) fun jG =>
 optO (CV.asS jG) fun kK =>
 bif (kK == b5) then
 (optO (atL aair2 jQ) fun c31 =>
 chkO (c31.length == 5) (
 optO (c31[0]?) fun jB =>
 optO (c31[1]?) fun jJ =>
 optO (c31[2]?) fun yQ =>
 optO (c31[3]?) fun yW =>
 optO (c31[4]?) fun yC =>
 some (.tup [.agg [jB, jJ, yQ, yW, yC], .bool true])))
 else
 (r06_Find_L1 lb n yj ja aair2 jb adis4 b5 (IntKind.wrap .i64 (jQ + 1)))))
 else
 (QlI lb n ja aair2 jb adis4 b5 jQ) := (Qad _).trans (by kernel_rfl)
theorem Qri (lb n : Nat) (ja : Bool) (aair2 : LL) (jb : Bool) (adis4 : LL) (b5 : LB) :
 top lb n Qa9 [.agg [.list ja aair2, .list jb adis4], .str b5] =
 r06_Find_L1 lb n n ja aair2 jb adis4 b5 0 := by kernel_rfl
noncomputable def QgR (lb n yj : Nat) (jA : Int) (jz : Bool) (ashi3 : LL) (b4 yi jQ : Int) : Option CV :=
 hold (Qas (E0 lb n 0 994) 0 (Qag (sub (B Qcc) [1, 1, 0, 1, 0, 0]) ++ []) [] (sub (B Qcc) [1, 1, 0, 1, 0, 0]) (Qaj 0 (seqK (E0 lb n 0 997) (sub (B Qcc) [1, 1, 0]) (sub (B Qcc) [1, 1, 1]) (retK Tryz.prog (R Qcc) 0 (outK (Qaf Tryz.prog Qcc))))) yj ⟨fr 43 [(0, .val (.agg [.int .i64 jA, .list jz ashi3])), (1, vI b4), (2, .ptr 0 2 0), (4, vI 0), (5, vI yi), (6, vI jQ), (7, vI b4), (8, .ptr 0 2 0), (9, vI jA), (10, .val (.int .i64 (IntKind.wrap .i64 (b4 - jA))))], [bx 43 [(2, some [vI jA, .val (.list jz ashi3)])]], KK⟩)
noncomputable def QmX (lb n : Nat) (jA : Int) (jz : Bool) (ashi3 : LL) (b4 w5 yq : Int) : Option CV :=
 hold (E0 lb n 0 997 (sub (B Qcc) [1, 1, 1]) (retK Tryz.prog (R Qcc) 0 (outK (Qaf Tryz.prog Qcc))) ⟨fr 43 [(0, .val (.agg [.int .i64 jA, .list jz ashi3])), (1, vI b4), (2, .ptr 0 2 0), (4, vI 0), (5, vI w5), (6, vI yq), (7, vI b4), (8, .ptr 0 2 0), (9, vI jA), (10, .val (.int .i64 (IntKind.wrap .i64 (b4 - jA))))], [bx 43 [(2, some [vI jA, .val (.list jz ashi3)])]], KK⟩)
theorem Qpo (lb n : Nat) (jA : Int) (jz : Bool) (ashi3 : LL) (b4 w5 yq : Int) :
 QmX lb n jA jz ashi3 b4 w5 yq =
 some (.int .i64 w5) := (Qad _).trans (by kernel_rfl)
theorem Qh7 (lb n yj : Nat) (jA : Int) (jz : Bool) (ashi3 : LL) (b4 yi jQ : Int) :
 QgR lb n (yj + 1) jA jz ashi3 b4 yi jQ =
 bif (decide (jQ < (ashi3.length : Int))) then
 (optO (atL ashi3 jQ) fun c28 =>
 chkO (c28.length == 2) (
 optO (c28[0]?) fun jG =>
 optO (CV.asI .i64 jG) fun vc =>
 bif (decide (yi < vc)) then
 (some (.int .i64 yi))
 else
 (optO (atL ashi3 jQ) fun c31 =>
 chkO (c31.length == 2) (
 optO (c31[0]?) fun jB =>
 optO (atL ashi3 jQ) fun c34 =>
 chkO (c34.length == 2) (
 optO (c34[1]?) fun yQ =>
 optO (CV.asI .i64 yQ) fun wN =>
 optO (CV.asI .i64 jB) fun i37 =>
 QgR lb n yj jA jz ashi3 b4 (if (IntKind.wrap .i64 (b4 - wN)) > i37 then (IntKind.wrap .i64 (b4 - wN)) else i37) (IntKind.wrap .i64 (jQ + 1)))))))
 else
 (QmX lb n jA jz ashi3 b4 yi jQ) := (Qad _).trans (by kernel_rfl)
theorem Qsd (lb n : Nat) (jA : Int) (jz : Bool) (ashi3 : LL) (b4 : Int) :
 top lb n Qcc [.agg [.int .i64 jA, .list jz ashi3], .int .i64 b4] =
 QgR lb n n jA jz ashi3 b4 (IntKind.wrap .i64 (b4 - jA)) 0 := by kernel_rfl
theorem Qsk (lb n : Nat) (ja : Bool) (aair2 : LL) (jb : Bool) (adis4 : LL) (b5 : LB) (c6 d7 : Int) :
 top lb n QhR [.agg [.list ja aair2, .list jb adis4], .str b5, .int .i64 c6, .int .i64 d7] =
 optO (C lb n Qa9 [.agg [.list ja aair2, .list jb adis4], .str b5]) fun r9 =>
 optO (CV.asT r9) fun gt =>
 optO (gt[0]?) fun jC =>
 optO (CV.asT r9) fun kR =>
 optO (kR[1]?) fun jS =>
 optO (CV.asA jC) fun c14 =>
 chkO (c14.length == 5) (
 optO (c14[0]?) fun jO =>
 optO (c14[1]?) fun n7 =>
 optO (c14[2]?) fun j2 =>
 optO (c14[3]?) fun jP =>
 optO (c14[4]?) fun jU =>
 optO (C lb n Qcc [.agg [jP, jU], .int .i64 (IntKind.wrap .i64 ((IntKind.wrap .i64 (c6 * 1440)) + d7))]) fun gJ =>
 some (gJ)) := by kernel_rfl
theorem Qm6 (lb n : Nat) (je ji jj : Int) :
 top lb n Qee [.agg [.int .i64 je, .int .i64 ji, .int .i64 jj]] =
 bif (decide (je < 0)) then
 (some (.int .i64 12))
 else
 (bif (decide (ji < je)) then
 (some (.int .i64 12))
 else
 (bif (decide (ji ≥ 36525)) then
 (some (.int .i64 12))
 else
 (bif (decide ((IntKind.wrap .i64 (ji - je)) ≥ 800)) then
 (some (.int .i64 4))
 else
 (bif (decide (jj < 1)) then
 (some (.int .i64 2))
 else
 (bif (decide (jj > 127)) then
 (some (.int .i64 2))
 else
 (some (.int .i64 0))))))) := by kernel_rfl
theorem QqZ (lb n : Nat) (je ji jj : Int) :
 top lb n Qc0 [.agg [.int .i64 je, .int .i64 ji, .int .i64 jj]] =
 bif (decide (je < 0)) then
 (some (.int .i64 12))
 else
 (bif (decide (je > ji)) then
 (some (.int .i64 12))
 else
 (bif (decide (ji ≥ 36525)) then
 (some (.int .i64 12))
 else
 (bif (decide ((IntKind.wrap .i64 (ji - je)) ≥ 800)) then
 (some (.int .i64 4))
 else
 (bif (decide (jj < 1)) then
 (some (.int .i64 2))
 else
 (bif (decide (jj > 127)) then
 (some (.int .i64 2))
 else
 (some (.int .i64 0))))))) := by kernel_rfl
theorem Qj0 (lb n : Nat) (a1 : Int) :
 top lb n Qcn [.int .i64 a1] =
 some (.int .i64 (Int.tmod (IntKind.wrap .i64 ((Int.tmod a1 7) + 12)) 7)) := by kernel_rfl
theorem QnH (lb n : Nat) (a1 : Int) :
 top lb n Qgo [.int .i64 a1] =
 some (.int .i64 (Int.tmod (IntKind.wrap .i64 ((Int.tmod a1 7) + 12)) 7)) := by kernel_rfl
theorem Qp7 (lb n : Nat) (a1 b2 : Int) :
 top lb n Qic [.int .i64 a1, .int .i64 b2] =
 optO (C lb n Qcn [.int .i64 b2]) fun r3 =>
 optO (CV.asI .i64 r3) fun i4 =>
 chkO (decide (0 ≤ i4)) (
 some (.bool ((IntKind.wrap .i64 ((BitVec.ofInt 64 (Int.fdiv a1 (2 ^ (min (i4).toNat 64))) &&& BitVec.ofInt 64 1).toNat)) == 1))) := by kernel_rfl
noncomputable def QgH (lb n k9 : Nat) (a1 i4 i5 : Int) : Option CV :=
 hold (Qas (E0 lb n 0 994) 0 (Qag (sub (B QbL) [1, 1, 0, 1, 0, 0]) ++ []) [] (sub (B QbL) [1, 1, 0, 1, 0, 0]) (Qaj 0 (seqK (E0 lb n 0 997) (sub (B QbL) [1, 1, 0]) (sub (B QbL) [1, 1, 1]) (retK Tryz.prog (R QbL) 0 (outK (Qaf Tryz.prog QbL))))) k9 ⟨fr 14 [(0, vI a1), (2, vI 0), (3, vI i4), (4, vI i5)], [bx 14 []], KK⟩)
noncomputable def Qne (lb n : Nat) (a1 j6 yn : Int) : Option CV :=
 hold (E0 lb n 0 997 (sub (B QbL) [1, 1, 1]) (retK Tryz.prog (R QbL) 0 (outK (Qaf Tryz.prog QbL))) ⟨fr 14 [(0, vI a1), (2, vI 0), (3, vI j6), (4, vI yn)], [bx 14 []], KK⟩)
theorem Qpn (lb n : Nat) (a1 j6 yn : Int) :
 Qne lb n a1 j6 yn =
 some (.int .i64 j6) := (Qad _).trans (by kernel_rfl)
theorem Qib (lb n k9 : Nat) (a1 i4 i5 : Int) :
 QgH lb n (k9 + 1) a1 i4 i5 =
 optO (C lb n Qgo [.int .i64 a1]) fun yo =>
 optO (CV.asI .i64 yo) fun o5 =>
 bif (decide (i5 < o5)) then
 (QgH lb n k9 a1 (IntKind.wrap .i64 (2 * i4)) (IntKind.wrap .i64 (i5 + 1)))
 else
 (Qne lb n a1 i4 i5) := (Qad _).trans (by kernel_rfl)
theorem Qsm (lb n : Nat) (a1 : Int) :
 top lb n QbL [.int .i64 a1] =
 QgH lb n n a1 1 0 := by kernel_rfl
theorem Qpj (lb n : Nat) (je ji jj b4 : Int) :
 top lb n Qdd [.agg [.int .i64 je, .int .i64 ji, .int .i64 jj], .int .i64 b4] =
 optO (C lb n Qee [.agg [.int .i64 je, .int .i64 ji, .int .i64 jj]]) fun r5 =>
 optO (CV.asI .i64 r5) fun i6 =>
 bif (i6 == 0) then
 (bif (decide (b4 ≥ je)) then
 (bif (decide (b4 ≤ ji)) then
 (optO (C lb n Qic [.int .i64 jj, .int .i64 b4]) fun r7 =>
 some (r7))
 else
 (some (.bool false)))
 else
 (some (.bool false)))
 else
 (some (.bool false)) := by kernel_rfl
theorem QsZ (lb n : Nat) (je ji jj b4 : Int) :
 top lb n Qf9 [.agg [.int .i64 je, .int .i64 ji, .int .i64 jj], .int .i64 b4] =
 optO (C lb n Qc0 [.agg [.int .i64 je, .int .i64 ji, .int .i64 jj]]) fun r5 =>
 optO (CV.asI .i64 r5) fun i6 =>
 bif (i6 == 0) then
 (bif (decide (b4 ≥ je)) then
 (bif (decide (b4 ≤ ji)) then
 (optO (C lb n QbL [.int .i64 b4]) fun r7 =>
 optO (CV.asI .i64 r7) fun i9 =>
 chkO (i9 != 0) (
 some (.bool ((Int.tmod (IntKind.wrap .i64 (Int.tdiv jj i9)) 2) == 1))))
 else
 (some (.bool false)))
 else
 (some (.bool false)))
 else
 (some (.bool false)) := by kernel_rfl
noncomputable def QdF (lb n yH : Nat) (je ji jj : Int) (vr : Bool) (l13 : LL) (wW : Int) : Option CV :=
 hold (Qas (E0 lb n 0 994) 0 (Qag (sub (B Qbk) [1, 1, 0, 1, 0, 0]) ++ []) [] (sub (B Qbk) [1, 1, 0, 1, 0, 0]) (Qaj 0 (seqK (E0 lb n 0 997) (sub (B Qbk) [1, 1, 0]) (sub (B Qbk) [1, 1, 1]) (retK Tryz.prog (R Qbk) 0 (outK (Qaf Tryz.prog Qbk))))) yH ⟨fr 26 [(0, .val (.agg [.int .i64 je, .int .i64 ji, .int .i64 jj])), (1, .ptr 0 1 0), (2, .lst true true 3 []), (3, .lst true vr 3 l13), (4, vI wW), (5, .ptr 0 1 0), (6, vI je)], [bx 26 [(1, some [vI je, vI ji, vI jj])]], KK⟩)
noncomputable def Qih (lb n : Nat) (je ji jj : Int) (yc : Bool) (l26 : LL) (wD : Int) : Option CV :=
 hold (E0 lb n 0 997 (sub (B Qbk) [1, 1, 1]) (retK Tryz.prog (R Qbk) 0 (outK (Qaf Tryz.prog Qbk))) ⟨fr 26 [(0, .val (.agg [.int .i64 je, .int .i64 ji, .int .i64 jj])), (1, .ptr 0 1 0), (2, .lst true true 3 []), (3, .lst true yc 3 l26), (4, vI wD)], [bx 26 [(1, some [vI je, vI ji, vI jj])]], KK⟩)
theorem QiU (lb n : Nat) (je ji jj : Int) (yc : Bool) (l26 : LL) (wD : Int) :
 Qih lb n je ji jj yc l26 wD =
 some (.list yc l26) := (Qad _).trans (by kernel_rfl)
theorem QeH (lb n yH : Nat) (je ji jj : Int) (vr : Bool) (l13 : LL) (wW : Int) :
 QdF lb n (yH + 1) je ji jj vr l13 wW =
 optO (C lb n Qc0 [.agg [.int .i64 je, .int .i64 ji, .int .i64 jj]]) fun gJ =>
 optO (CV.asI .i64 gJ) fun y0 =>
 bif (y0 == 0) then
 (bif (decide (wW ≤ ji)) then
 (optO (C lb n Qf9 [.agg [.int .i64 je, .int .i64 ji, .int .i64 jj], .int .i64 wW]) fun jL =>
 optO (CV.asB jL) fun nL =>
 bif nL then
 (chkO (room (l13.length + 1) 8) (
 QdF lb n yH je ji jj (vr && false) (l13 ++ [[CV.int .i64 wW]]) (IntKind.wrap .i64 (wW + 1))))
 else
 (QdF lb n yH je ji jj vr l13 (IntKind.wrap .i64 (wW + 1))))
 else
 (Qih lb n je ji jj vr l13 wW))
 else
 (Qih lb n je ji jj vr l13 wW) := (Qad _).trans (by kernel_rfl)
theorem Qrk (lb n : Nat) (je ji jj : Int) :
 top lb n Qbk [.agg [.int .i64 je, .int .i64 ji, .int .i64 jj]] =
 QdF lb n n je ji jj true [] je := by kernel_rfl
noncomputable def QfZ (lb n ye : Nat) (ja : Bool) (aair2 : LL) (jb : Bool) (adis4 : LL) (bcar5 : LB) (jk jd jg jc : Int) (jf : Bool) (bleg12 : LL) (yg : Int) (vm : Bool) (l24 : LL) (vF : Int) : Option CV :=
 hold (Qas (E0 lb n 0 994) 0 (Qag (sub (B QbF) [1, 1, 0, 1, 0, 0]) ++ []) [9] (sub (B QbF) [1, 1, 0, 1, 0, 0]) (Qaj 0 (seqK (E0 lb n 0 997) (sub (B QbF) [1, 1, 0]) (sub (B QbF) [1, 1, 1]) (retK Tryz.prog (R QbF) 0 (outK (Qaf Tryz.prog QbF))))) ye ⟨fr 52 [(0, .val (.agg [.list ja aair2, .list jb adis4])), (1, .val (.agg [.str bcar5, .int .i64 jk, .int .i64 jd, .int .i64 jg, .int .i64 jc, .list jf bleg12])), (2, vI yg), (3, .ptr 0 3 0), (4, .ptr 0 4 0), (6, .lst true true 113 []), (7, .lst true vm 113 l24), (8, vI vF)], [bx 52 [(3, some [.val (.list ja aair2), .val (.list jb adis4)]), (4, some [vS bcar5, vI jk, vI jd, vI jg, vI jc, .val (.list jf bleg12)])]], KK⟩)
noncomputable def QlM (lb n : Nat) (ja : Bool) (aair2 : LL) (jb : Bool) (adis4 : LL) (bcar5 : LB) (jk jd jg jc : Int) (jf : Bool) (bleg12 : LL) (yg : Int) (oH : Bool) (oG : LL) (i46 : Int) : Option CV :=
 hold (E0 lb n 0 997 (sub (B QbF) [1, 1, 1]) (retK Tryz.prog (R QbF) 0 (outK (Qaf Tryz.prog QbF))) ⟨fr 52 [(0, .val (.agg [.list ja aair2, .list jb adis4])), (1, .val (.agg [.str bcar5, .int .i64 jk, .int .i64 jd, .int .i64 jg, .int .i64 jc, .list jf bleg12])), (2, vI yg), (3, .ptr 0 3 0), (4, .ptr 0 4 0), (6, .lst true true 113 []), (7, .lst true oH 113 oG), (8, vI i46)], [bx 52 [(3, some [.val (.list ja aair2), .val (.list jb adis4)]), (4, some [vS bcar5, vI jk, vI jd, vI jg, vI jc, .val (.list jf bleg12)])]], KK⟩)
theorem Qoh (lb n : Nat) (ja : Bool) (aair2 : LL) (jb : Bool) (adis4 : LL) (bcar5 : LB) (jk jd jg jc : Int) (jf : Bool) (bleg12 : LL) (yg : Int) (oH : Bool) (oG : LL) (i46 : Int) :
 QlM lb n ja aair2 jb adis4 bcar5 jk jd jg jc jf bleg12 yg oH oG i46 =
 some (.list oH oG) := (Qad _).trans (by kernel_rfl)
theorem QgY (lb n ye : Nat) (ja : Bool) (aair2 : LL) (jb : Bool) (adis4 : LL) (bcar5 : LB) (jk jd jg jc : Int) (jf : Bool) (bleg12 : LL) (yg : Int) (vm : Bool) (l24 : LL) (vF : Int) :
 QfZ lb n (ye + 1) ja aair2 jb adis4 bcar5 jk jd jg jc jf bleg12 yg vm l24 vF =
 bif (decide (vF < (bleg12.length : Int))) then
 (optO (atL bleg12 vF) fun c36 =>
 chkO (c36.length == 5) (
 optO (c36[0]?) fun yC =>
 optO (c36[1]?) fun kH =>
 optO (c36[2]?) fun gL =>
 optO (c36[3]?) fun kL =>
 optO (c36[4]?) fun gN =>
 optO (C lb n QhR [.agg [.list ja aair2, .list jb adis4], yC, .int .i64 yg, gL]) fun oO =>
 optO (C lb n QhR [.agg [.list ja aair2, .list jb adis4], kH, .int .i64 yg, kL]) fun oK =>
 chkO (CV.isCell yC) (
 chkO (CV.isCell kH) (
 chkO (CV.isCell oO) (
 chkO (CV.isCell oK) (
 chkO (CV.isCell gN) (
 chkO (room (l24.length + 1) 96) (
 QfZ lb n ye ja aair2 jb adis4 bcar5 jk jd jg jc jf bleg12 yg (vm && false) (l24 ++ [[CV.str bcar5, CV.int .i64 jk, CV.int .i64 yg, yC, kH, oO, oK, gN]]) (IntKind.wrap .i64 (vF + 1))))))))))
 else
 (QlM lb n ja aair2 jb adis4 bcar5 jk jd jg jc jf bleg12 yg vm l24 vF) := (Qad _).trans (by kernel_rfl)
theorem QrC (lb n : Nat) (ja : Bool) (aair2 : LL) (jb : Bool) (adis4 : LL) (bcar5 : LB) (jk jd jg jc : Int) (jf : Bool) (bleg12 : LL) (yg : Int) :
 top lb n QbF [.agg [.list ja aair2, .list jb adis4], .agg [.str bcar5, .int .i64 jk, .int .i64 jd, .int .i64 jg, .int .i64 jc, .list jf bleg12], .int .i64 yg] =
 QfZ lb n n ja aair2 jb adis4 bcar5 jk jd jg jc jf bleg12 yg true [] 0 := by kernel_rfl
noncomputable def Qc9 (lb n yG : Nat) (jh : Bool) (a2 : LL) (yk : Int) : Option CV :=
 hold (Qas (E0 lb n 0 995) 0 (Qag (sub (B Qa1) [1, 0, 1, 0, 0]) ++ []) [] (sub (B Qa1) [1, 0, 1, 0, 0]) (Qaj 0 (seqK (E0 lb n 0 998) (sub (B Qa1) [1, 0]) (sub (B Qa1) [1, 1]) (retK Tryz.prog (R Qa1) 0 (outK (Qaf Tryz.prog Qa1))))) yG ⟨fr 39 [(0, .val (.list jh a2)), (2, vB false), (3, vI yk)], [bx 39 []], KK⟩)
noncomputable def QiL (lb n : Nat) (jh : Bool) (a2 : LL) (w5 : Int) : Option CV :=
 hold (E0 lb n 0 998 (sub (B Qa1) [1, 1]) (retK Tryz.prog (R Qa1) 0 (outK (Qaf Tryz.prog Qa1))) ⟨fr 39 [(0, .val (.list jh a2)), (2, vB false), (3, vI w5)], [bx 39 []], KK⟩)
theorem Qln (lb n : Nat) (jh : Bool) (a2 : LL) (w5 : Int) :
 QiL lb n jh a2 w5 =
 some (.bool true) := (Qad _).trans (by kernel_rfl)
theorem Qfw (lb n yG : Nat) (jh : Bool) (a2 : LL) (yk : Int) :
 Qc9 lb n (yG + 1) jh a2 yk =
 bif (decide (yk < (a2.length : Int))) then
 (optO (atL a2 yk) fun c25 =>
 chkO (c25.length == 8) (
 optO (c25[5]?) fun kF =>
 optO (atL a2 yk) fun c27 =>
 chkO (c27.length == 8) (
 optO (c27[6]?) fun gS =>
 optO (CV.asI .i64 kF) fun j5 =>
 optO (CV.asI .i64 gS) fun vc =>
 bif (decide (j5 ≥ vc)) then
 (some (.bool false))
 else
 (bif (decide (yk > 0)) then
 (optO (atL a2 yk) fun c31 =>
 chkO (c31.length == 8) (
 optO (c31[5]?) fun jB =>
 optO (atL a2 (IntKind.wrap .i64 (yk - 1))) fun c34 =>
 chkO (c34.length == 8) (
 optO (c34[6]?) fun yQ =>
 optO (CV.asI .i64 jB) fun wN =>
 optO (CV.asI .i64 yQ) fun i37 =>
 bif (decide (wN < i37)) then
 (some (.bool false))
 else
 (Qc9 lb n yG jh a2 (IntKind.wrap .i64 (yk + 1))))))
 else
 (Qc9 lb n yG jh a2 (IntKind.wrap .i64 (yk + 1)))))))
 else
 (QiL lb n jh a2 yk) := (Qad _).trans (by kernel_rfl)
theorem QnS (lb n : Nat) (jh : Bool) (a2 : LL) :
 top lb n Qa1 [.list jh a2] =
 Qc9 lb n n jh a2 0 := by kernel_rfl
theorem Qr8 (lb n : Nat) (a1 : Int) :
 top lb n Qcz [.int .i64 a1] =
 bif (decide (a1 < (-1440))) then
 (some (.bool true))
 else
 (some (.bool (decide (a1 > 5759)))) := by kernel_rfl
end Go.Proofs
