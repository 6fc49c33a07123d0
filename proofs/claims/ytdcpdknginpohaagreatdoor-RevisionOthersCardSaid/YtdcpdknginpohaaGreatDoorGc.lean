/- Equations of functions, printed by program. Conditions: none. -/
import Derived.Test.YtdcpdknginpohaaGreatDoorEv
namespace Go.Proofs
open Go.Am
set_option maxRecDepth 100000
set_option linter.unusedVariables false
noncomputable def r07_Big_L1 :=
 fun lb n (kp : Nat) (ja : Bool) (aair2 : LL) (jb : Bool) (adis4 : LL) bcar5 jg jd jf jc (je : Bool) (bleg12 : LL) gD yW =>
 hold (Qau (E0 lb n 0 994) 0 (Qae (sub (B Qck) [1, 1, 0, 1, 0, 0]) ++ []) [] (sub (B Qck) [1, 1, 0, 1, 0, 0]) (Qal 0 (seqK (E0 lb n 0 997) (sub (B Qck) [1, 1, 0]) (sub (B Qck) [1, 1, 1]) (retK Tryz.prog (R Qck) 0 (outK (Qaj Tryz.prog Qck))))) kp ⟨fr 66 [(0, .val (.agg [.list ja aair2, .list jb adis4])), (1, .val (.agg [.str bcar5, .int .i64 jg, .int .i64 jd, .int .i64 jf, .int .i64 jc, .list je bleg12])), (2, .ptr 0 2 0), (3, .ptr 0 3 0), (4, vB false), (5, vI gD), (6, vI yW), (7, .ptr 0 3 0), (8, vS bcar5), (9, .val (.int .i64 (bcar5.length : Int)))], [bx 66 [(2, some [.val (.list ja aair2), .val (.list jb adis4)]), (3, some [vS bcar5, vI jg, vI jd, vI jf, vI jc, .val (.list je bleg12)])]], KK⟩)
noncomputable def Qiy (lb n : Nat) (ja : Bool) (aair2 : LL) (jb : Bool) (adis4 : LL) (bcar5 : LB) (jg jd jf jc : Int) (je : Bool) (bleg12 : LL) (kR i46 : Int) : Option CV :=
 hold (E0 lb n 0 997 (sub (B Qck) [1, 1, 1]) (retK Tryz.prog (R Qck) 0 (outK (Qaj Tryz.prog Qck))) ⟨fr 66 [(0, .val (.agg [.list ja aair2, .list jb adis4])), (1, .val (.agg [.str bcar5, .int .i64 jg, .int .i64 jd, .int .i64 jf, .int .i64 jc, .list je bleg12])), (2, .ptr 0 2 0), (3, .ptr 0 3 0), (4, vB false), (5, vI kR), (6, vI i46), (7, .ptr 0 3 0), (8, vS bcar5), (9, .val (.int .i64 (bcar5.length : Int)))], [bx 66 [(2, some [.val (.list ja aair2), .val (.list jb adis4)]), (3, some [vS bcar5, vI jg, vI jd, vI jf, vI jc, .val (.list je bleg12)])]], KK⟩)
theorem Qsu (lb n : Nat) (ja : Bool) (aair2 : LL) (jb : Bool) (adis4 : LL) (bcar5 : LB) (jg jd jf jc : Int) (je : Bool) (bleg12 : LL) (kR i46 : Int) :
 Qiy lb n ja aair2 jb adis4 bcar5 jg jd jf jc je bleg12 kR i46 =
 bif (decide (kR > 400)) then
 (some (.bool true))
 else
 (bif (decide ((bleg12.length : Int) > 12)) then
 (some (.bool true))
 else
 (bif (decide ((aair2.length : Int) > 20)) then
 (some (.bool true))
 else
 (some (.bool (decide ((adis4.length : Int) > 40)))))) := (Qad _).trans (by kernel_rfl)
theorem QjG (lb n kp : Nat) (ja : Bool) (aair2 : LL) (jb : Bool) (adis4 : LL) (bcar5 : LB) (jg jd jf jc : Int) (je : Bool) (bleg12 : LL) (gD yW : Int) :
 r07_Big_L1 lb n (kp + 1) ja aair2 jb adis4 bcar5 jg jd jf jc je bleg12 gD yW =
 bif (decide (yW < (bleg12.length : Int))) then
 (bif (decide (yW < 20)) then
 (optO (atL bleg12 yW) fun c36 =>
 chkO (c36.length == 5) (
 optO (c36[0]?) fun yr =>
 optO (CV.asS yr) fun s38 =>
 optO (atL bleg12 yW) fun c39 =>
 chkO (c39.length == 5) (
 optO (c39[1]?) fun kX =>
 optO (CV.asS kX) fun s41 =>
 optO (atL bleg12 yW) fun c42 =>
 chkO (c42.length == 5) (
 optO (c42[4]?) fun oi =>
 optO (CV.asS oi) fun s44 =>
 r07_Big_L1 lb n kp ja aair2 jb adis4 bcar5 jg jd jf jc je bleg12 (IntKind.wrap .i64 ((IntKind.wrap .i64 ((IntKind.wrap .i64 (gD + (s38.length : Int))) + (s41.length : Int))) + (s44.length : Int))) (IntKind.wrap .i64 (yW + 1))))))
 else
 (Qiy lb n ja aair2 jb adis4 bcar5 jg jd jf jc je bleg12 gD yW))
 else
 (Qiy lb n ja aair2 jb adis4 bcar5 jg jd jf jc je bleg12 gD yW) := (Qad _).trans (by kernel_rfl)
theorem Qvx (lb n : Nat) (ja : Bool) (aair2 : LL) (jb : Bool) (adis4 : LL) (bcar5 : LB) (jg jd jf jc : Int) (je : Bool) (bleg12 : LL) :
 top lb n Qck [.agg [.list ja aair2, .list jb adis4], .agg [.str bcar5, .int .i64 jg, .int .i64 jd, .int .i64 jf, .int .i64 jc, .list je bleg12]] =
 r07_Big_L1 lb n n ja aair2 jb adis4 bcar5 jg jd jf jc je bleg12 (bcar5.length : Int) 0 := by kernel_rfl
noncomputable def Qfk (lb n kl : Nat) (ja : Bool) (aair2 : LL) (jb : Bool) (adis4 : LL) (mE : Bool) (mY : LL) (yT : Int) : Option CV :=
 hold (Qau (E0 lb n 0 994) 0 (Qae (sub (B Qak) [1, 1, 0, 1, 0, 0]) ++ [5, 6, 6]) [] (sub (B Qak) [1, 1, 0, 1, 0, 0]) (Qal 0 (seqK (E0 lb n 0 997) (sub (B Qak) [1, 1, 0]) (sub (B Qak) [1, 1, 1]) (retK Tryz.prog (R Qak) 0 (outK (Qaj Tryz.prog Qak))))) kl ⟨fr 65 [(0, .val (.agg [.list ja aair2, .list jb adis4])), (1, .ptr 0 1 0), (2, .lst true true 83 []), (3, .lst true mE 83 mY), (4, vI yT)], [bx 65 [(1, some [.val (.list ja aair2), .val (.list jb adis4)])]], KK⟩)
noncomputable def QgL (lb n nZ kl : Nat) (ja : Bool) (aair2 : LL) (jb : Bool) (adis4 : LL) (yT : Int) (k5 : CV) (mT : Bool) (l65 : LL) (gg : Int) : Option CV :=
 hold (Qau (E0 lb n 0 987) 0 (Qae (sub (B Qak) [1, 1, 0, 1, 0, 0, 1, 0, 0, 1, 1, 0, 0]) ++ []) [] (sub (B Qak) [1, 1, 0, 1, 0, 0, 1, 0, 0, 1, 1, 0, 0]) (Qal 2 (Qal 1 (seqK (E0 lb n 0 992) (sub (B Qak) [1, 1, 0, 1, 0, 0, 1, 0]) (sub (B Qak) [1, 1, 0, 1, 0, 0, 1, 1]) (QbN 0 (Qae (sub (B Qak) [1, 1, 0, 1, 0, 0]) ++ [5, 6, 6]) [] (Qau (E0 lb n 0 994) 0 (Qae (sub (B Qak) [1, 1, 0, 1, 0, 0]) ++ [5, 6, 6]) [] (sub (B Qak) [1, 1, 0, 1, 0, 0]) (Qal 0 (seqK (E0 lb n 0 997) (sub (B Qak) [1, 1, 0]) (sub (B Qak) [1, 1, 1]) (retK Tryz.prog (R Qak) 0 (outK (Qaj Tryz.prog Qak))))) kl) (Qal 0 (seqK (E0 lb n 0 997) (sub (B Qak) [1, 1, 0]) (sub (B Qak) [1, 1, 1]) (retK Tryz.prog (R Qak) 0 (outK (Qaj Tryz.prog Qak))))))))) nZ ⟨fr 65 [(0, .val (.agg [.list ja aair2, .list jb adis4])), (1, .ptr 0 1 0), (2, .lst true true 83 []), (3, .lst true mT 83 l65), (4, vI yT), (5, vV k5), (6, vI gg), (17, .val (.agg [.list ja aair2, .list jb adis4])), (18, vI yT), (19, vV k5)], [bx 65 [(1, some [.val (.list ja aair2), .val (.list jb adis4)])]], KK⟩)
noncomputable def QmS (lb n kl : Nat) (ja : Bool) (aair2 : LL) (jb : Bool) (adis4 : LL) (yT : Int) (yV : Bool) (nv : LL) (pc : CV) (po : Int) : Option CV :=
 hold (E0 lb n 0 992 (sub (B Qak) [1, 1, 0, 1, 0, 0, 1, 1]) (QbN 0 (Qae (sub (B Qak) [1, 1, 0, 1, 0, 0]) ++ [5, 6, 6]) [] (Qau (E0 lb n 0 994) 0 (Qae (sub (B Qak) [1, 1, 0, 1, 0, 0]) ++ [5, 6, 6]) [] (sub (B Qak) [1, 1, 0, 1, 0, 0]) (Qal 0 (seqK (E0 lb n 0 997) (sub (B Qak) [1, 1, 0]) (sub (B Qak) [1, 1, 1]) (retK Tryz.prog (R Qak) 0 (outK (Qaj Tryz.prog Qak))))) kl) (Qal 0 (seqK (E0 lb n 0 997) (sub (B Qak) [1, 1, 0]) (sub (B Qak) [1, 1, 1]) (retK Tryz.prog (R Qak) 0 (outK (Qaj Tryz.prog Qak)))))) ⟨fr 65 [(0, .val (.agg [.list ja aair2, .list jb adis4])), (1, .ptr 0 1 0), (2, .lst true true 83 []), (3, .lst true yV 83 nv), (4, vI yT), (5, vV pc), (6, vI po)], [bx 65 [(1, some [.val (.list ja aair2), .val (.list jb adis4)])]], KK⟩)
theorem Qqf (lb n kl : Nat) (ja : Bool) (aair2 : LL) (jb : Bool) (adis4 : LL) (yT : Int) (yV : Bool) (nv : LL) (pc : CV) (po : Int) :
 QmS lb n kl ja aair2 jb adis4 yT yV nv pc po =
 Qfk lb n kl ja aair2 jb adis4 yV nv (IntKind.wrap .i64 (yT + 1)) := (Qad _).trans (by kernel_rfl)
theorem Qid (lb n nZ kl : Nat) (ja : Bool) (aair2 : LL) (jb : Bool) (adis4 : LL) (yT : Int) (k5 : CV) (mT : Bool) (l65 : LL) (gg : Int) :
 QgL lb n (nZ + 1) kl ja aair2 jb adis4 yT k5 mT l65 gg =
 optO (CV.asL k5) fun zL =>
 bif (decide (gg < (zL.2.length : Int))) then
 (optO (CV.asL k5) fun s8 =>
 optO (atL s8.2 gg) fun c76 =>
 chkO (c76.length == 1) (
 optO (c76[0]?) fun pV =>
 optO (C lb n QdU [.int .i64 yT]) fun zh =>
 optO (CV.asS zh) fun s79 =>
 chkO (decide (([97, 105, 114, 112, 111, 114, 116, 32] : LB).length + s79.length ≤ 9223372036854775807)) (
 chkO (CV.isCell pV) (
 chkO (room (l65.length + 1) 24) (
 QgL lb n nZ kl ja aair2 jb adis4 yT k5 (mT && false) (l65 ++ [[pV, CV.str (([97, 105, 114, 112, 111, 114, 116, 32] : LB) ++ s79)]]) (IntKind.wrap .i64 (gg + 1)))))))
 else
 (QmS lb n kl ja aair2 jb adis4 yT mT l65 k5 gg) := (Qad _).trans (by kernel_rfl)
noncomputable def Qms (lb n : Nat) (ja : Bool) (aair2 : LL) (jb : Bool) (adis4 : LL) (kW : Bool) (l85 : LL) (yJ : Int) : Option CV :=
 hold (E0 lb n 0 997 (sub (B Qak) [1, 1, 1]) (retK Tryz.prog (R Qak) 0 (outK (Qaj Tryz.prog Qak))) ⟨fr 65 [(0, .val (.agg [.list ja aair2, .list jb adis4])), (1, .ptr 0 1 0), (2, .lst true true 83 []), (3, .lst true kW 83 l85), (4, vI yJ)], [bx 65 [(1, some [.val (.list ja aair2), .val (.list jb adis4)])]], KK⟩)
noncomputable def Qeu (lb n vK : Nat) (ja : Bool) (aair2 : LL) (jb : Bool) (adis4 : LL) (yJ : Int) (gj : Bool) (oV : LL) (y8 : Int) : Option CV :=
 hold (Qau (E0 lb n 0 993) 0 (Qae (sub (B Qak) [1, 1, 1, 0, 1, 0, 0]) ++ [8, 9, 9]) [] (sub (B Qak) [1, 1, 1, 0, 1, 0, 0]) (Qal 4 (seqK (E0 lb n 0 996) (sub (B Qak) [1, 1, 1, 0]) (sub (B Qak) [1, 1, 1, 1]) (retK Tryz.prog (R Qak) 0 (outK (Qaj Tryz.prog Qak))))) vK ⟨fr 65 [(0, .val (.agg [.list ja aair2, .list jb adis4])), (1, .ptr 0 1 0), (2, .lst true true 83 []), (3, .lst true gj 83 oV), (4, vI yJ), (7, vI y8)], [bx 65 [(1, some [.val (.list ja aair2), .val (.list jb adis4)])]], KK⟩)
noncomputable def QgE (lb n gT vK : Nat) (ja : Bool) (aair2 : LL) (jb : Bool) (adis4 : LL) (yJ y8 : Int) (kd : CV) (gn : Bool) (l143 : LL) (oa : Int) : Option CV :=
 hold (Qau (E0 lb n 0 986) 0 (Qae (sub (B Qak) [1, 1, 1, 0, 1, 0, 0, 1, 0, 0, 1, 1, 0, 0]) ++ []) [] (sub (B Qak) [1, 1, 1, 0, 1, 0, 0, 1, 0, 0, 1, 1, 0, 0]) (Qal 6 (Qal 5 (seqK (E0 lb n 0 991) (sub (B Qak) [1, 1, 1, 0, 1, 0, 0, 1, 0]) (sub (B Qak) [1, 1, 1, 0, 1, 0, 0, 1, 1]) (QbN 0 (Qae (sub (B Qak) [1, 1, 1, 0, 1, 0, 0]) ++ [8, 9, 9]) [] (Qau (E0 lb n 0 993) 0 (Qae (sub (B Qak) [1, 1, 1, 0, 1, 0, 0]) ++ [8, 9, 9]) [] (sub (B Qak) [1, 1, 1, 0, 1, 0, 0]) (Qal 4 (seqK (E0 lb n 0 996) (sub (B Qak) [1, 1, 1, 0]) (sub (B Qak) [1, 1, 1, 1]) (retK Tryz.prog (R Qak) 0 (outK (Qaj Tryz.prog Qak))))) vK) (Qal 4 (seqK (E0 lb n 0 996) (sub (B Qak) [1, 1, 1, 0]) (sub (B Qak) [1, 1, 1, 1]) (retK Tryz.prog (R Qak) 0 (outK (Qaj Tryz.prog Qak))))))))) gT ⟨fr 65 [(0, .val (.agg [.list ja aair2, .list jb adis4])), (1, .ptr 0 1 0), (2, .lst true true 83 []), (3, .lst true gn 83 l143), (4, vI yJ), (7, vI y8), (8, vV kd), (9, vI oa), (44, .val (.agg [.list ja aair2, .list jb adis4])), (45, vI y8), (46, vV kd)], [bx 65 [(1, some [.val (.list ja aair2), .val (.list jb adis4)])]], KK⟩)
noncomputable def QmC (lb n vK : Nat) (ja : Bool) (aair2 : LL) (jb : Bool) (adis4 : LL) (yJ y8 : Int) (gL : Bool) (g0 : LL) (nj : CV) (np : Int) : Option CV :=
 hold (E0 lb n 0 991 (sub (B Qak) [1, 1, 1, 0, 1, 0, 0, 1, 1]) (QbN 0 (Qae (sub (B Qak) [1, 1, 1, 0, 1, 0, 0]) ++ [8, 9, 9]) [] (Qau (E0 lb n 0 993) 0 (Qae (sub (B Qak) [1, 1, 1, 0, 1, 0, 0]) ++ [8, 9, 9]) [] (sub (B Qak) [1, 1, 1, 0, 1, 0, 0]) (Qal 4 (seqK (E0 lb n 0 996) (sub (B Qak) [1, 1, 1, 0]) (sub (B Qak) [1, 1, 1, 1]) (retK Tryz.prog (R Qak) 0 (outK (Qaj Tryz.prog Qak))))) vK) (Qal 4 (seqK (E0 lb n 0 996) (sub (B Qak) [1, 1, 1, 0]) (sub (B Qak) [1, 1, 1, 1]) (retK Tryz.prog (R Qak) 0 (outK (Qaj Tryz.prog Qak)))))) ⟨fr 65 [(0, .val (.agg [.list ja aair2, .list jb adis4])), (1, .ptr 0 1 0), (2, .lst true true 83 []), (3, .lst true gL 83 g0), (4, vI yJ), (7, vI y8), (8, vV nj), (9, vI np)], [bx 65 [(1, some [.val (.list ja aair2), .val (.list jb adis4)])]], KK⟩)
theorem QpW (lb n vK : Nat) (ja : Bool) (aair2 : LL) (jb : Bool) (adis4 : LL) (yJ y8 : Int) (gL : Bool) (g0 : LL) (nj : CV) (np : Int) :
 QmC lb n vK ja aair2 jb adis4 yJ y8 gL g0 nj np =
 Qeu lb n vK ja aair2 jb adis4 yJ gL g0 (IntKind.wrap .i64 (y8 + 1)) := (Qad _).trans (by kernel_rfl)
theorem Qih (lb n gT vK : Nat) (ja : Bool) (aair2 : LL) (jb : Bool) (adis4 : LL) (yJ y8 : Int) (kd : CV) (gn : Bool) (l143 : LL) (oa : Int) :
 QgE lb n (gT + 1) vK ja aair2 jb adis4 yJ y8 kd gn l143 oa =
 optO (CV.asL kd) fun sB =>
 bif (decide (oa < (sB.2.length : Int))) then
 (optO (CV.asL kd) fun qd =>
 optO (atL qd.2 oa) fun c154 =>
 chkO (c154.length == 1) (
 optO (c154[0]?) fun pM =>
 optO (C lb n QdU [.int .i64 y8]) fun qg =>
 optO (CV.asS qg) fun s157 =>
 chkO (decide (([100, 105, 115, 116, 97, 110, 99, 101, 32] : LB).length + s157.length ≤ 9223372036854775807)) (
 chkO (CV.isCell pM) (
 chkO (room (l143.length + 1) 24) (
 QgE lb n gT vK ja aair2 jb adis4 yJ y8 kd (gn && false) (l143 ++ [[pM, CV.str (([100, 105, 115, 116, 97, 110, 99, 101, 32] : LB) ++ s157)]]) (IntKind.wrap .i64 (oa + 1)))))))
 else
 (QmC lb n vK ja aair2 jb adis4 yJ y8 gn l143 kd oa) := (Qad _).trans (by kernel_rfl)
noncomputable def QmH (lb n : Nat) (ja : Bool) (aair2 : LL) (jb : Bool) (adis4 : LL) (yJ : Int) (gH : Bool) (mu : LL) (nh : Int) : Option CV :=
 hold (E0 lb n 0 996 (sub (B Qak) [1, 1, 1, 1]) (retK Tryz.prog (R Qak) 0 (outK (Qaj Tryz.prog Qak))) ⟨fr 65 [(0, .val (.agg [.list ja aair2, .list jb adis4])), (1, .ptr 0 1 0), (2, .lst true true 83 []), (3, .lst true gH 83 mu), (4, vI yJ), (7, vI nh)], [bx 65 [(1, some [.val (.list ja aair2), .val (.list jb adis4)])]], KK⟩)
theorem Qqe (lb n : Nat) (ja : Bool) (aair2 : LL) (jb : Bool) (adis4 : LL) (yJ : Int) (gH : Bool) (mu : LL) (nh : Int) :
 QmH lb n ja aair2 jb adis4 yJ gH mu nh =
 some (.list gH mu) := (Qad _).trans (by kernel_rfl)
theorem Qik (lb n vK : Nat) (ja : Bool) (aair2 : LL) (jb : Bool) (adis4 : LL) (yJ : Int) (gj : Bool) (oV : LL) (y8 : Int) :
 Qeu lb n (vK + 1) ja aair2 jb adis4 yJ gj oV y8 =
 bif (decide (y8 < (adis4.length : Int))) then
 (optO (C lb n QaY [.agg [.list ja aair2, .list jb adis4], .int .i64 y8]) fun kd =>
 QgE lb n n vK ja aair2 jb adis4 yJ y8 kd gj oV 0)
 else
 (QmH lb n ja aair2 jb adis4 yJ gj oV y8) := (Qad _).trans (by kernel_rfl)
theorem QpP (lb n : Nat) (ja : Bool) (aair2 : LL) (jb : Bool) (adis4 : LL) (kW : Bool) (l85 : LL) (yJ : Int) :
 Qms lb n ja aair2 jb adis4 kW l85 yJ =
 Qeu lb n n ja aair2 jb adis4 yJ kW l85 0 := (Qad _).trans (by kernel_rfl)
theorem Qie (lb n kl : Nat) (ja : Bool) (aair2 : LL) (jb : Bool) (adis4 : LL) (mE : Bool) (mY : LL) (yT : Int) :
 Qfk lb n (kl + 1) ja aair2 jb adis4 mE mY yT =
 bif (decide (yT < (aair2.length : Int))) then
 (optO (C lb n QaU [.agg [.list ja aair2, .list jb adis4], .int .i64 yT]) fun k5 =>
 QgL lb n n kl ja aair2 jb adis4 yT k5 mE mY 0)
 else
 (Qms lb n ja aair2 jb adis4 mE mY yT) := (Qad _).trans (by kernel_rfl)
theorem Qtn (lb n : Nat) (ja : Bool) (aair2 : LL) (jb : Bool) (adis4 : LL) :
 top lb n Qak [.agg [.list ja aair2, .list jb adis4]] =
 Qfk lb n n ja aair2 jb adis4 true [] 0 := by kernel_rfl
noncomputable def QdL (lb n : Nat) (ja : Bool) (aair2 : LL) (jb : Bool) (adis4 : LL) (b5 : Int) (c6 : List CV) (x7 x9 jQ wd wg : CV) (yD : Bool) (l17 : LL) : Option CV :=
 hold (E0 lb n 0 996 (sub (B QaU) [1, 1, 1, 1]) (retK Tryz.prog (R QaU) 0 (outK (Qaj Tryz.prog QaU))) ⟨fr 93 [(0, .val (.agg [.list ja aair2, .list jb adis4])), (1, vI b5), (2, .ptr 0 2 0), (4, .lst true true 36 []), (5, .lst true yD 36 l17), (6, .ptr 0 6 0), (11, .ptr 0 2 0), (12, .val (.list ja aair2)), (13, vI b5), (14, .cptr c6 0), (15, .val (.agg [x7, x9, jQ, wd, wg]))], [bx 93 [(2, some [.val (.list ja aair2), .val (.list jb adis4)]), (6, some [.val x7, .val x9, .val jQ, .val wd, .val wg])]], KK⟩)
noncomputable def Qcb (lb n oh : Nat) (ja : Bool) (aair2 : LL) (jb : Bool) (adis4 : LL) (b5 : Int) (yD : Bool) (l17 : LL) (c6 : List CV) (x7 x9 jQ wd wg : CV) (kU kY : Bool) (vl : Int) : Option CV :=
 hold (Qau (E0 lb n 0 991) 0 (Qae (sub (B QaU) [1, 1, 1, 1, 1, 0, 1, 0, 0]) ++ []) [] (sub (B QaU) [1, 1, 1, 1, 1, 0, 1, 0, 0]) (Qal 0 (seqK (E0 lb n 0 994) (sub (B QaU) [1, 1, 1, 1, 1, 0]) (sub (B QaU) [1, 1, 1, 1, 1, 1]) (retK Tryz.prog (R QaU) 0 (outK (Qaj Tryz.prog QaU))))) oh ⟨fr 93 [(0, .val (.agg [.list ja aair2, .list jb adis4])), (1, vI b5), (2, .ptr 0 2 0), (4, .lst true true 36 []), (5, .lst true yD 36 l17), (6, .ptr 0 6 0), (7, vB kU), (8, vB kY), (9, vI vl), (11, .ptr 0 2 0), (12, .val (.list ja aair2)), (13, vI b5), (14, .cptr c6 0), (15, .val (.agg [x7, x9, jQ, wd, wg]))], [bx 93 [(2, some [.val (.list ja aair2), .val (.list jb adis4)]), (6, some [.val x7, .val x9, .val jQ, .val wd, .val wg])]], KK⟩)
noncomputable def QfO (lb n : Nat) (ja : Bool) (aair2 : LL) (jb : Bool) (adis4 : LL) (b5 : Int) (yD : Bool) (l17 : LL) (c6 : List CV) (x7 x9 jQ wd wg : CV) (yU yV : Bool) (vR : Int) : Option CV :=
 hold (E0 lb n 0 994 (sub (B QaU) [1, 1, 1, 1, 1, 1]) (retK Tryz.prog (R QaU) 0 (outK (Qaj Tryz.prog QaU))) ⟨fr 93 [(0, .val (.agg [.list ja aair2, .list jb adis4])), (1, vI b5), (2, .ptr 0 2 0), (4, .lst true true 36 []), (5, .lst true yD 36 l17), (6, .ptr 0 6 0), (7, vB yU), (8, vB yV), (9, vI vR), (11, .ptr 0 2 0), (12, .val (.list ja aair2)), (13, vI b5), (14, .cptr c6 0), (15, .val (.agg [x7, x9, jQ, wd, wg]))], [bx 93 [(2, some [.val (.list ja aair2), .val (.list jb adis4)]), (6, some [.val x7, .val x9, .val jQ, .val wd, .val wg])]], KK⟩)
noncomputable def Qhj (lb n : Nat) (ja : Bool) (aair2 : LL) (jb : Bool) (adis4 : LL) (b5 : Int) (yU yV : Bool) (vR : Int) (c6 : List CV) (x7 x9 jQ wd wg : CV) (mA : Bool) (l83 : LL) : Option CV :=
 hold (E0 lb n 0 993 (sub (B QaU) [1, 1, 1, 1, 1, 1, 1]) (retK Tryz.prog (R QaU) 0 (outK (Qaj Tryz.prog QaU))) ⟨fr 93 [(0, .val (.agg [.list ja aair2, .list jb adis4])), (1, vI b5), (2, .ptr 0 2 0), (4, .lst true true 36 []), (5, .lst true mA 36 l83), (6, .ptr 0 6 0), (7, vB yU), (8, vB yV), (9, vI vR), (11, .ptr 0 2 0), (12, .val (.list ja aair2)), (13, vI b5), (14, .cptr c6 0), (15, .val (.agg [x7, x9, jQ, wd, wg]))], [bx 93 [(2, some [.val (.list ja aair2), .val (.list jb adis4)]), (6, some [.val x7, .val x9, .val jQ, .val wd, .val wg])]], KK⟩)
noncomputable def QfK (lb n : Nat) (ja : Bool) (aair2 : LL) (jb : Bool) (adis4 : LL) (b5 : Int) (yU yV : Bool) (vR : Int) (c6 : List CV) (x7 x9 jQ wd wg : CV) (kW : Bool) (l85 : LL) : Option CV :=
 hold (E0 lb n 0 992 (sub (B QaU) [1, 1, 1, 1, 1, 1, 1, 1]) (retK Tryz.prog (R QaU) 0 (outK (Qaj Tryz.prog QaU))) ⟨fr 93 [(0, .val (.agg [.list ja aair2, .list jb adis4])), (1, vI b5), (2, .ptr 0 2 0), (4, .lst true true 36 []), (5, .lst true kW 36 l85), (6, .ptr 0 6 0), (7, vB yU), (8, vB yV), (9, vI vR), (11, .ptr 0 2 0), (12, .val (.list ja aair2)), (13, vI b5), (14, .cptr c6 0), (15, .val (.agg [x7, x9, jQ, wd, wg]))], [bx 93 [(2, some [.val (.list ja aair2), .val (.list jb adis4)]), (6, some [.val x7, .val x9, .val jQ, .val wd, .val wg])]], KK⟩)
theorem QnS (lb n : Nat) (ja : Bool) (aair2 : LL) (jb : Bool) (adis4 : LL) (b5 : Int) (yU yV : Bool) (vR : Int) (c6 : List CV) (x7 x9 jQ wd wg : CV) (kW : Bool) (l85 : LL) :
 QfK lb n ja aair2 jb adis4 b5 yU yV vR c6 x7 x9 jQ wd wg kW l85 =
 optO (C lb n QbJ [.agg [wd, wg]]) fun mS =>
 optO (CV.asI .i64 mS) fun sZ =>
 bif (sZ != 0) then
 (chkO (CV.isCell mS) (
 chkO (room (l85.length + 1) 8) (
 some (.list (kW && false) (l85 ++ [[mS]])))))
 else
 (some (.list kW l85)) := (Qad _).trans (by kernel_rfl)
theorem QnO (lb n : Nat) (ja : Bool) (aair2 : LL) (jb : Bool) (adis4 : LL) (b5 : Int) (yU yV : Bool) (vR : Int) (c6 : List CV) (x7 x9 jQ wd wg : CV) (mA : Bool) (l83 : LL) :
 Qhj lb n ja aair2 jb adis4 b5 yU yV vR c6 x7 x9 jQ wd wg mA l83 =
 bif yV then
 (chkO (room (l83.length + 1) 8) (
 QfK lb n ja aair2 jb adis4 b5 yU yV vR c6 x7 x9 jQ wd wg (mA && false) (l83 ++ [[CV.int .i64 8]])))
 else
 (QfK lb n ja aair2 jb adis4 b5 yU yV vR c6 x7 x9 jQ wd wg mA l83) := (Qad _).trans (by kernel_rfl)
theorem QnR (lb n : Nat) (ja : Bool) (aair2 : LL) (jb : Bool) (adis4 : LL) (b5 : Int) (yD : Bool) (l17 : LL) (c6 : List CV) (x7 x9 jQ wd wg : CV) (yU yV : Bool) (vR : Int) :
 QfO lb n ja aair2 jb adis4 b5 yD l17 c6 x7 x9 jQ wd wg yU yV vR =
 bif yU then
 (chkO (room (l17.length + 1) 8) (
 Qhj lb n ja aair2 jb adis4 b5 yU yV vR c6 x7 x9 jQ wd wg (yD && false) (l17 ++ [[CV.int .i64 6]])))
 else
 (Qhj lb n ja aair2 jb adis4 b5 yU yV vR c6 x7 x9 jQ wd wg yD l17) := (Qad _).trans (by kernel_rfl)
theorem Qg6 (lb n oh : Nat) (ja : Bool) (aair2 : LL) (jb : Bool) (adis4 : LL) (b5 : Int) (yD : Bool) (l17 : LL) (c6 : List CV) (x7 x9 jQ wd wg : CV) (kU kY : Bool) (vl : Int) :
 Qcb lb n (oh + 1) ja aair2 jb adis4 b5 yD l17 c6 x7 x9 jQ wd wg kU kY vl =
 bif (decide (vl < b5)) then
 (bif kU then
 (bif kY then
 (Qcb lb n oh ja aair2 jb adis4 b5 yD l17 c6 x7 x9 jQ wd wg true true (IntKind.wrap .i64 (vl + 1)))
 else
 (optO (atL aair2 vl) fun c58 =>
 chkO (c58.length == 5) (
 optO (c58[1]?) fun mU =>
 optO (CV.asS mU) fun zm =>
 optO (CV.asS x9) fun sU =>
 bif (zm == sU) then
 (optO (atL aair2 vl) fun c62 =>
 chkO (c62.length == 5) (
 optO (c62[2]?) fun kf =>
 optO (CV.asS kf) fun zM =>
 optO (CV.asS jQ) fun s5 =>
 Qcb lb n oh ja aair2 jb adis4 b5 yD l17 c6 x7 x9 jQ wd wg true (!(zM == s5)) (IntKind.wrap .i64 (vl + 1))))
 else
 (Qcb lb n oh ja aair2 jb adis4 b5 yD l17 c6 x7 x9 jQ wd wg true false (IntKind.wrap .i64 (vl + 1))))))
 else
 (optO (atL aair2 vl) fun c67 =>
 chkO (c67.length == 5) (
 optO (c67[0]?) fun vG =>
 optO (CV.asS vG) fun mD =>
 optO (CV.asS x7) fun mV =>
 bif kY then
 (Qcb lb n oh ja aair2 jb adis4 b5 yD l17 c6 x7 x9 jQ wd wg (mD == mV) true (IntKind.wrap .i64 (vl + 1)))
 else
 (optO (atL aair2 vl) fun c71 =>
 chkO (c71.length == 5) (
 optO (c71[1]?) fun z8 =>
 optO (CV.asS z8) fun zt =>
 optO (CV.asS x9) fun ll =>
 bif (zt == ll) then
 (optO (atL aair2 vl) fun c75 =>
 chkO (c75.length == 5) (
 optO (c75[2]?) fun pg =>
 optO (CV.asS pg) fun sR =>
 optO (CV.asS jQ) fun lq =>
 Qcb lb n oh ja aair2 jb adis4 b5 yD l17 c6 x7 x9 jQ wd wg (mD == mV) (!(sR == lq)) (IntKind.wrap .i64 (vl + 1))))
 else
 (Qcb lb n oh ja aair2 jb adis4 b5 yD l17 c6 x7 x9 jQ wd wg (mD == mV) false (IntKind.wrap .i64 (vl + 1))))))))
 else
 (QfO lb n ja aair2 jb adis4 b5 yD l17 c6 x7 x9 jQ wd wg kU kY vl) := (Qad _).trans (by kernel_rfl)
theorem QnU (lb n : Nat) (ja : Bool) (aair2 : LL) (jb : Bool) (adis4 : LL) (b5 : Int) (c6 : List CV) (x7 x9 jQ wd wg : CV) (yD : Bool) (l17 : LL) :
 QdL lb n ja aair2 jb adis4 b5 c6 x7 x9 jQ wd wg yD l17 =
 Qcb lb n n ja aair2 jb adis4 b5 yD l17 c6 x7 x9 jQ wd wg false false 0 := (Qad _).trans (by kernel_rfl)
theorem Qqv (lb n : Nat) (ja : Bool) (aair2 : LL) (jb : Bool) (adis4 : LL) (b5 : Int) :
 top lb n QaU [.agg [.list ja aair2, .list jb adis4], .int .i64 b5] =
 optO (atL aair2 b5) fun c6 =>
 chkO (c6.length == 5) (
 optO (c6[0]?) fun x7 =>
 optO (c6[1]?) fun x9 =>
 optO (c6[2]?) fun jQ =>
 optO (c6[3]?) fun wd =>
 optO (c6[4]?) fun wg =>
 optO (C lb n Qf8 [x7]) fun oX =>
 optO (CV.asB oX) fun mK =>
 bif (!mK) then
 (QdL lb n ja aair2 jb adis4 b5 c6 x7 x9 jQ wd wg false [[CV.int .i64 5]])
 else
 (optO (C lb n Qf8 [x9]) fun pf =>
 optO (CV.asB pf) fun n7 =>
 bif (!n7) then
 (QdL lb n ja aair2 jb adis4 b5 c6 x7 x9 jQ wd wg false [[CV.int .i64 5]])
 else
 (optO (C lb n Qh9 [jQ]) fun o4 =>
 optO (CV.asB o4) fun mN =>
 bif (!mN) then
 (QdL lb n ja aair2 jb adis4 b5 c6 x7 x9 jQ wd wg false [[CV.int .i64 5]])
 else
 (QdL lb n ja aair2 jb adis4 b5 c6 x7 x9 jQ wd wg true [])))) := by kernel_rfl
noncomputable def Qd0 (lb n : Nat) (ja : Bool) (aair2 : LL) (jb : Bool) (adis4 : LL) (b5 : Int) (yb wD : CV) (c6 : List CV) (x7 x9 jQ yh wA w6 wI wJ w7 wz ya wb wx wH wj wS wC : CV) (yX : Bool) (l37 : LL) : Option CV :=
 hold (E0 lb n 0 994 (sub (B QaY) [1, 1, 1, 1, 1, 1]) (retK Tryz.prog (R QaY) 0 (outK (Qaj Tryz.prog QaY))) ⟨fr 99 [(0, .val (.agg [.list ja aair2, .list jb adis4])), (1, vI b5), (2, .ptr 0 2 0), (4, .lst true true 36 []), (5, .lst true yX 36 l37), (6, .ptr 0 6 0), (7, .ptr 0 7 0), (8, vV yb), (9, .ptr 0 9 0), (10, vV wD), (14, .ptr 0 2 1), (15, .val (.list jb adis4)), (16, vI b5), (17, .cptr c6 0), (18, .val (.agg [x7, x9, jQ])), (19, vV yh), (20, .val (.agg [.list ja aair2, .list jb adis4])), (21, .ptr 0 6 0), (22, vV x7), (23, vV yh), (24, vV wA), (25, vV yb), (26, vV w6), (27, .val (.agg [.list ja aair2, .list jb adis4])), (28, .ptr 0 6 1), (29, vV x9), (30, vV w6), (31, vV wI), (32, vV wD)], [bx 99 [(2, some [.val (.list ja aair2), .val (.list jb adis4)]), (6, some [.val x7, .val x9, .val jQ]), (7, some [.val wJ, .val w7, .val wz, .val ya, .val wb]), (9, some [.val wx, .val wH, .val wj, .val wS, .val wC])]], KK⟩)
noncomputable def QbX (lb n oB : Nat) (ja : Bool) (aair2 : LL) (jb : Bool) (adis4 : LL) (b5 : Int) (yX : Bool) (l37 : LL) (yb wD : CV) (c6 : List CV) (x7 x9 jQ yh wA w6 wI wJ w7 wz ya wb wx wH wj wS wC : CV) (o9 : Bool) (kK : Int) : Option CV :=
 hold (Qau (E0 lb n 0 989) 0 (Qae (sub (B QaY) [1, 1, 1, 1, 1, 1, 1, 0, 1, 0, 0]) ++ []) [13] (sub (B QaY) [1, 1, 1, 1, 1, 1, 1, 0, 1, 0, 0]) (Qal 0 (seqK (E0 lb n 0 992) (sub (B QaY) [1, 1, 1, 1, 1, 1, 1, 0]) (sub (B QaY) [1, 1, 1, 1, 1, 1, 1, 1]) (retK Tryz.prog (R QaY) 0 (outK (Qaj Tryz.prog QaY))))) oB ⟨fr 99 [(0, .val (.agg [.list ja aair2, .list jb adis4])), (1, vI b5), (2, .ptr 0 2 0), (4, .lst true true 36 []), (5, .lst true yX 36 l37), (6, .ptr 0 6 0), (7, .ptr 0 7 0), (8, vV yb), (9, .ptr 0 9 0), (10, vV wD), (11, vB o9), (12, vI kK), (14, .ptr 0 2 1), (15, .val (.list jb adis4)), (16, vI b5), (17, .cptr c6 0), (18, .val (.agg [x7, x9, jQ])), (19, vV yh), (20, .val (.agg [.list ja aair2, .list jb adis4])), (21, .ptr 0 6 0), (22, vV x7), (23, vV yh), (24, vV wA), (25, vV yb), (26, vV w6), (27, .val (.agg [.list ja aair2, .list jb adis4])), (28, .ptr 0 6 1), (29, vV x9), (30, vV w6), (31, vV wI), (32, vV wD)], [bx 99 [(2, some [.val (.list ja aair2), .val (.list jb adis4)]), (6, some [.val x7, .val x9, .val jQ]), (7, some [.val wJ, .val w7, .val wz, .val ya, .val wb]), (9, some [.val wx, .val wH, .val wj, .val wS, .val wC])]], KK⟩)
noncomputable def Qfb (lb n : Nat) (ja : Bool) (aair2 : LL) (jb : Bool) (adis4 : LL) (b5 : Int) (yX : Bool) (l37 : LL) (yb wD : CV) (c6 : List CV) (x7 x9 jQ yh wA w6 wI wJ w7 wz ya wb wx wH wj wS wC : CV) (vN : Bool) (ky : Int) : Option CV :=
 hold (E0 lb n 0 992 (sub (B QaY) [1, 1, 1, 1, 1, 1, 1, 1]) (retK Tryz.prog (R QaY) 0 (outK (Qaj Tryz.prog QaY))) ⟨fr 99 [(0, .val (.agg [.list ja aair2, .list jb adis4])), (1, vI b5), (2, .ptr 0 2 0), (4, .lst true true 36 []), (5, .lst true yX 36 l37), (6, .ptr 0 6 0), (7, .ptr 0 7 0), (8, vV yb), (9, .ptr 0 9 0), (10, vV wD), (11, vB vN), (12, vI ky), (14, .ptr 0 2 1), (15, .val (.list jb adis4)), (16, vI b5), (17, .cptr c6 0), (18, .val (.agg [x7, x9, jQ])), (19, vV yh), (20, .val (.agg [.list ja aair2, .list jb adis4])), (21, .ptr 0 6 0), (22, vV x7), (23, vV yh), (24, vV wA), (25, vV yb), (26, vV w6), (27, .val (.agg [.list ja aair2, .list jb adis4])), (28, .ptr 0 6 1), (29, vV x9), (30, vV w6), (31, vV wI), (32, vV wD)], [bx 99 [(2, some [.val (.list ja aair2), .val (.list jb adis4)]), (6, some [.val x7, .val x9, .val jQ]), (7, some [.val wJ, .val w7, .val wz, .val ya, .val wb]), (9, some [.val wx, .val wH, .val wj, .val wS, .val wC])]], KK⟩)
noncomputable def Qff (lb n : Nat) (ja : Bool) (aair2 : LL) (jb : Bool) (adis4 : LL) (b5 : Int) (yb wD : CV) (vN : Bool) (ky : Int) (c6 : List CV) (x7 x9 jQ yh wA w6 wI wJ w7 wz ya wb wx wH wj wS wC : CV) (oK : Bool) (l101 : LL) : Option CV :=
 hold (E0 lb n 0 991 (sub (B QaY) [1, 1, 1, 1, 1, 1, 1, 1, 1]) (retK Tryz.prog (R QaY) 0 (outK (Qaj Tryz.prog QaY))) ⟨fr 99 [(0, .val (.agg [.list ja aair2, .list jb adis4])), (1, vI b5), (2, .ptr 0 2 0), (4, .lst true true 36 []), (5, .lst true oK 36 l101), (6, .ptr 0 6 0), (7, .ptr 0 7 0), (8, vV yb), (9, .ptr 0 9 0), (10, vV wD), (11, vB vN), (12, vI ky), (14, .ptr 0 2 1), (15, .val (.list jb adis4)), (16, vI b5), (17, .cptr c6 0), (18, .val (.agg [x7, x9, jQ])), (19, vV yh), (20, .val (.agg [.list ja aair2, .list jb adis4])), (21, .ptr 0 6 0), (22, vV x7), (23, vV yh), (24, vV wA), (25, vV yb), (26, vV w6), (27, .val (.agg [.list ja aair2, .list jb adis4])), (28, .ptr 0 6 1), (29, vV x9), (30, vV w6), (31, vV wI), (32, vV wD)], [bx 99 [(2, some [.val (.list ja aair2), .val (.list jb adis4)]), (6, some [.val x7, .val x9, .val jQ]), (7, some [.val wJ, .val w7, .val wz, .val ya, .val wb]), (9, some [.val wx, .val wH, .val wj, .val wS, .val wC])]], KK⟩)
theorem Qmq (lb n : Nat) (ja : Bool) (aair2 : LL) (jb : Bool) (adis4 : LL) (b5 : Int) (yb wD : CV) (vN : Bool) (ky : Int) (c6 : List CV) (x7 x9 jQ yh wA w6 wI wJ w7 wz ya wb wx wH wj wS wC : CV) (oK : Bool) (l101 : LL) :
 Qff lb n ja aair2 jb adis4 b5 yb wD vN ky c6 x7 x9 jQ yh wA w6 wI wJ w7 wz ya wb wx wH wj wS wC oK l101 =
 optO (C lb n Qfs [.agg [x7, x9, jQ]]) fun sd =>
 optO (CV.asB sd) fun qR =>
 bif (!qR) then
 (chkO (room (l101.length + 1) 8) (
 some (.list (oK && false) (l101 ++ [[CV.int .i64 2]]))))
 else
 (optO (CV.asS x7) fun nq =>
 optO (CV.asS x9) fun na =>
 bif (nq == na) then
 (chkO (room (l101.length + 1) 8) (
 some (.list (oK && false) (l101 ++ [[CV.int .i64 2]]))))
 else
 (some (.list oK l101))) := (Qad _).trans (by kernel_rfl)
theorem Qm6 (lb n : Nat) (ja : Bool) (aair2 : LL) (jb : Bool) (adis4 : LL) (b5 : Int) (yX : Bool) (l37 : LL) (yb wD : CV) (c6 : List CV) (x7 x9 jQ yh wA w6 wI wJ w7 wz ya wb wx wH wj wS wC : CV) (vN : Bool) (ky : Int) :
 Qfb lb n ja aair2 jb adis4 b5 yX l37 yb wD c6 x7 x9 jQ yh wA w6 wI wJ w7 wz ya wb wx wH wj wS wC vN ky =
 bif vN then
 (chkO (room (l37.length + 1) 8) (
 Qff lb n ja aair2 jb adis4 b5 yb wD vN ky c6 x7 x9 jQ yh wA w6 wI wJ w7 wz ya wb wx wH wj wS wC (yX && false) (l37 ++ [[CV.int .i64 6]])))
 else
 (Qff lb n ja aair2 jb adis4 b5 yb wD vN ky c6 x7 x9 jQ yh wA w6 wI wJ w7 wz ya wb wx wH wj wS wC yX l37) := (Qad _).trans (by kernel_rfl)
theorem Qg0 (lb n oB : Nat) (ja : Bool) (aair2 : LL) (jb : Bool) (adis4 : LL) (b5 : Int) (yX : Bool) (l37 : LL) (yb wD : CV) (c6 : List CV) (x7 x9 jQ yh wA w6 wI wJ w7 wz ya wb wx wH wj wS wC : CV) (o9 : Bool) (kK : Int) :
 QbX lb n (oB + 1) ja aair2 jb adis4 b5 yX l37 yb wD c6 x7 x9 jQ yh wA w6 wI wJ w7 wz ya wb wx wH wj wS wC o9 kK =
 bif (decide (kK < b5)) then
 (optO (atL adis4 kK) fun c82 =>
 chkO (c82.length == 3) (
 optO (c82[0]?) fun v8 =>
 optO (c82[1]?) fun ke =>
 optO (c82[2]?) fun kB =>
 bif o9 then
 (QbX lb n oB ja aair2 jb adis4 b5 yX l37 yb wD c6 x7 x9 jQ yh wA w6 wI wJ w7 wz ya wb wx wH wj wS wC true (IntKind.wrap .i64 (kK + 1)))
 else
 (optO (CV.asS v8) fun zP =>
 optO (CV.asS x7) fun zb =>
 bif (zP == zb) then
 (optO (CV.asS ke) fun zd =>
 optO (CV.asS x9) fun zF =>
 bif (zd == zF) then
 (QbX lb n oB ja aair2 jb adis4 b5 yX l37 yb wD c6 x7 x9 jQ yh wA w6 wI wJ w7 wz ya wb wx wH wj wS wC true (IntKind.wrap .i64 (kK + 1)))
 else
 (optO (CV.asS v8) fun zl =>
 optO (CV.asS x9) fun s91 =>
 bif (zl == s91) then
 (optO (CV.asS ke) fun sN =>
 optO (CV.asS x7) fun zE =>
 QbX lb n oB ja aair2 jb adis4 b5 yX l37 yb wD c6 x7 x9 jQ yh wA w6 wI wJ w7 wz ya wb wx wH wj wS wC (sN == zE) (IntKind.wrap .i64 (kK + 1)))
 else
 (QbX lb n oB ja aair2 jb adis4 b5 yX l37 yb wD c6 x7 x9 jQ yh wA w6 wI wJ w7 wz ya wb wx wH wj wS wC false (IntKind.wrap .i64 (kK + 1)))))
 else
 (optO (CV.asS v8) fun lj =>
 optO (CV.asS x9) fun la =>
 bif (lj == la) then
 (optO (CV.asS ke) fun zJ =>
 optO (CV.asS x7) fun zB =>
 QbX lb n oB ja aair2 jb adis4 b5 yX l37 yb wD c6 x7 x9 jQ yh wA w6 wI wJ w7 wz ya wb wx wH wj wS wC (zJ == zB) (IntKind.wrap .i64 (kK + 1)))
 else
 (QbX lb n oB ja aair2 jb adis4 b5 yX l37 yb wD c6 x7 x9 jQ yh wA w6 wI wJ w7 wz ya wb wx wH wj wS wC false (IntKind.wrap .i64 (kK + 1)))))))
 else
 (Qfb lb n ja aair2 jb adis4 b5 yX l37 yb wD c6 x7 x9 jQ yh wA w6 wI wJ w7 wz ya wb wx wH wj wS wC o9 kK) := (Qad _).trans (by kernel_rfl)
theorem Qmt (lb n : Nat) (ja : Bool) (aair2 : LL) (jb : Bool) (adis4 : LL) (b5 : Int) (yb wD : CV) (c6 : List CV) (x7 x9 jQ yh wA w6 wI wJ w7 wz ya wb wx wH wj wS wC : CV) (yX : Bool) (l37 : LL) :
 Qd0 lb n ja aair2 jb adis4 b5 yb wD c6 x7 x9 jQ yh wA w6 wI wJ w7 wz ya wb wx wH wj wS wC yX l37 =
 QbX lb n n ja aair2 jb adis4 b5 yX l37 yb wD c6 x7 x9 jQ yh wA w6 wI wJ w7 wz ya wb wx wH wj wS wC false 0 := (Qad _).trans (by kernel_rfl)
theorem Qpd (lb n : Nat) (ja : Bool) (aair2 : LL) (jb : Bool) (adis4 : LL) (b5 : Int) :
 top lb n QaY [.agg [.list ja aair2, .list jb adis4], .int .i64 b5] =
 optO (atL adis4 b5) fun c6 =>
 chkO (c6.length == 3) (
 optO (c6[0]?) fun x7 =>
 optO (c6[1]?) fun x9 =>
 optO (c6[2]?) fun jQ =>
 optO (C lb n Qcd [.agg [.list ja aair2, .list jb adis4], x7]) fun yh =>
 optO (CV.asT yh) fun mL =>
 optO (mL[0]?) fun wA =>
 optO (CV.asT yh) fun zN =>
 optO (zN[1]?) fun yb =>
 optO (CV.asA wA) fun c17 =>
 chkO (c17.length == 5) (
 optO (c17[0]?) fun wJ =>
 optO (c17[1]?) fun w7 =>
 optO (c17[2]?) fun wz =>
 optO (c17[3]?) fun ya =>
 optO (c17[4]?) fun wb =>
 optO (C lb n Qcd [.agg [.list ja aair2, .list jb adis4], x9]) fun w6 =>
 optO (CV.asT w6) fun pj =>
 optO (pj[0]?) fun wI =>
 optO (CV.asT w6) fun pn =>
 optO (pn[1]?) fun wD =>
 optO (CV.asA wI) fun c28 =>
 chkO (c28.length == 5) (
 optO (c28[0]?) fun wx =>
 optO (c28[1]?) fun wH =>
 optO (c28[2]?) fun wj =>
 optO (c28[3]?) fun wS =>
 optO (c28[4]?) fun wC =>
 optO (CV.asB yb) fun kY =>
 bif (!kY) then
 (Qd0 lb n ja aair2 jb adis4 b5 yb wD c6 x7 x9 jQ yh wA w6 wI wJ w7 wz ya wb wx wH wj wS wC false [[CV.int .i64 14]])
 else
 (optO (CV.asB wD) fun qK =>
 bif (!qK) then
 (Qd0 lb n ja aair2 jb adis4 b5 yb wD c6 x7 x9 jQ yh wA w6 wI wJ w7 wz ya wb wx wH wj wS wC false [[CV.int .i64 14]])
 else
 (Qd0 lb n ja aair2 jb adis4 b5 yb wD c6 x7 x9 jQ yh wA w6 wI wJ w7 wz ya wb wx wH wj wS wC true []))))) := by kernel_rfl
noncomputable def Qhy (lb n vX : Nat) (ja : Bool) (aair2 : LL) (jb : Bool) (adis4 : LL) (b5 : LB) (yp : Int) : Option CV :=
 hold (Qau (E0 lb n 0 995) 0 (Qae (sub (B Qcd) [1, 0, 1, 0, 0]) ++ []) [] (sub (B Qcd) [1, 0, 1, 0, 0]) (Qal 0 (seqK (E0 lb n 0 998) (sub (B Qcd) [1, 0]) (sub (B Qcd) [1, 1]) (retK Tryz.prog (R Qcd) 0 (outK (Qaj Tryz.prog Qcd))))) vX ⟨fr 28 [(0, .val (.agg [.list ja aair2, .list jb adis4])), (1, vS b5), (2, .ptr 0 2 0), (4, .ptr 0 4 0), (5, vB false), (6, vI yp)], [bx 28 [(2, some [.val (.list ja aair2), .val (.list jb adis4)]), (4, some [.val (.str []), .val (.str []), .val (.str []), vI 0, .lst true true 195 []])]], KK⟩)
noncomputable def Qog (lb n : Nat) (ja : Bool) (aair2 : LL) (jb : Bool) (adis4 : LL) (b5 : LB) (vM : Int) : Option CV :=
 hold (E0 lb n 0 998 (sub (B Qcd) [1, 1]) (retK Tryz.prog (R Qcd) 0 (outK (Qaj Tryz.prog Qcd))) ⟨fr 28 [(0, .val (.agg [.list ja aair2, .list jb adis4])), (1, vS b5), (2, .ptr 0 2 0), (4, .ptr 0 4 0), (5, vB false), (6, vI vM)], [bx 28 [(2, some [.val (.list ja aair2), .val (.list jb adis4)]), (4, some [.val (.str []), .val (.str []), .val (.str []), vI 0, .lst true true 195 []])]], KK⟩)
theorem Qq2 (lb n : Nat) (ja : Bool) (aair2 : LL) (jb : Bool) (adis4 : LL) (b5 : LB) (vM : Int) :
 Qog lb n ja aair2 jb adis4 b5 vM =
 some (.tup [.agg [.str [], .str [], .str [], .int .i64 0, .list true []], .bool false]) := (Qad _).trans (by kernel_rfl)
theorem Qi4 (lb n vX : Nat) (ja : Bool) (aair2 : LL) (jb : Bool) (adis4 : LL) (b5 : LB) (yp : Int) :
 Qhy lb n (vX + 1) ja aair2 jb adis4 b5 yp =
 bif (decide (yp < (aair2.length : Int))) then
 (optO (atL aair2 yp) fun c28 =>
 chkO (c28.length == 5) (
 optO (c28[1]?) fun wx =>
 optO (CV.asS wx) fun gh =>
 bif (gh == b5) then
 (optO (atL aair2 yp) fun c31 =>
 chkO (c31.length == 5) (
 optO (c31[0]?) fun wS =>
 optO (c31[1]?) fun wC =>
 optO (c31[2]?) fun yt =>
 optO (c31[3]?) fun yA =>
 optO (c31[4]?) fun yr =>
 some (.tup [.agg [wS, wC, yt, yA, yr], .bool true])))
 else
 (Qhy lb n vX ja aair2 jb adis4 b5 (IntKind.wrap .i64 (yp + 1)))))
 else
 (Qog lb n ja aair2 jb adis4 b5 yp) := (Qad _).trans (by kernel_rfl)
theorem QuS (lb n : Nat) (ja : Bool) (aair2 : LL) (jb : Bool) (adis4 : LL) (b5 : LB) :
 top lb n Qcd [.agg [.list ja aair2, .list jb adis4], .str b5] =
 Qhy lb n n ja aair2 jb adis4 b5 0 := by kernel_rfl
theorem Qsq (lb n : Nat) (jk jK : LB) (gM : Int) :
 top lb n Qfs [.agg [.str jk, .str jK, .int .i64 gM]] =
 bif (decide (gM ≥ 1)) then
 (some (.bool (decide (gM ≤ 20000))))
 else
 (some (.bool false)) := by kernel_rfl
noncomputable def QfD (lb n kD : Nat) (j6 : Int) (j4 : Bool) (ashi3 : LL) (y5 : Int) : Option CV :=
 hold (Qau (E0 lb n 0 993) 0 (Qae (sub (B QbJ) [1, 1, 1, 0, 1, 0, 0]) ++ []) [4] (sub (B QbJ) [1, 1, 1, 0, 1, 0, 0]) (Qal 0 (seqK (E0 lb n 0 996) (sub (B QbJ) [1, 1, 1, 0]) (sub (B QbJ) [1, 1, 1, 1]) (retK Tryz.prog (R QbJ) 0 (outK (Qaj Tryz.prog QbJ))))) kD ⟨fr 54 [(0, .val (.agg [.int .i64 j6, .list j4 ashi3])), (1, .ptr 0 1 0), (2, vI 0), (3, vI y5)], [bx 54 [(1, some [vI j6, .val (.list j4 ashi3)])]], KK⟩)
noncomputable def QmZ (lb n : Nat) (j6 : Int) (j4 : Bool) (ashi3 : LL) (pk : Int) : Option CV :=
 hold (E0 lb n 0 996 (sub (B QbJ) [1, 1, 1, 1]) (retK Tryz.prog (R QbJ) 0 (outK (Qaj Tryz.prog QbJ))) ⟨fr 54 [(0, .val (.agg [.int .i64 j6, .list j4 ashi3])), (1, .ptr 0 1 0), (2, vI 0), (3, vI pk)], [bx 54 [(1, some [vI j6, .val (.list j4 ashi3)])]], KK⟩)
theorem Qqa (lb n : Nat) (j6 : Int) (j4 : Bool) (ashi3 : LL) (pk : Int) :
 QmZ lb n j6 j4 ashi3 pk =
 some (.int .i64 0) := (Qad _).trans (by kernel_rfl)
theorem Qii (lb n kD : Nat) (j6 : Int) (j4 : Bool) (ashi3 : LL) (y5 : Int) :
 QfD lb n (kD + 1) j6 j4 ashi3 y5 =
 bif (decide (y5 < (ashi3.length : Int))) then
 (optO (atL ashi3 y5) fun c30 =>
 chkO (c30.length == 2) (
 optO (c30[0]?) fun wj =>
 optO (c30[1]?) fun wS =>
 optO (CV.asI .i64 wj) fun kS =>
 bif (decide (kS < 0)) then
 (some (.int .i64 13))
 else
 (optO (CV.asI .i64 wj) fun oR =>
 bif (decide (oR ≥ 52596000)) then
 (some (.int .i64 13))
 else
 (bif (decide (y5 > 0)) then
 (optO (atL ashi3 (IntKind.wrap .i64 (y5 - 1))) fun c36 =>
 chkO (c36.length == 2) (
 optO (c36[0]?) fun yr =>
 optO (CV.asI .i64 wj) fun vM =>
 optO (CV.asI .i64 yr) fun kE =>
 bif (decide ((IntKind.wrap .i64 (vM - kE)) < 2880)) then
 (some (.int .i64 13))
 else
 (optO (C lb n Qft [wS]) fun pI =>
 optO (CV.asB pI) fun k8 =>
 bif (!k8) then
 (some (.int .i64 2))
 else
 (QfD lb n kD j6 j4 ashi3 (IntKind.wrap .i64 (y5 + 1))))))
 else
 (optO (C lb n Qft [wS]) fun nN =>
 optO (CV.asB nN) fun pN =>
 bif (!pN) then
 (some (.int .i64 2))
 else
 (QfD lb n kD j6 j4 ashi3 (IntKind.wrap .i64 (y5 + 1))))))))
 else
 (QmZ lb n j6 j4 ashi3 y5) := (Qad _).trans (by kernel_rfl)
theorem QmA (lb n : Nat) (j6 : Int) (j4 : Bool) (ashi3 : LL) :
 top lb n QbJ [.agg [.int .i64 j6, .list j4 ashi3]] =
 bif (decide ((ashi3.length : Int) > 256)) then
 (some (.int .i64 4))
 else
 (optO (C lb n Qft [.int .i64 j6]) fun r4 =>
 optO (CV.asB r4) fun b5 =>
 bif (!b5) then
 (some (.int .i64 2))
 else
 (QfD lb n n j6 j4 ashi3 0)) := by kernel_rfl
theorem Qsx (lb n : Nat) (a1 : Int) :
 top lb n Qft [.int .i64 a1] =
 bif (decide (a1 ≥ (-840))) then
 (some (.bool (decide (a1 ≤ 840))))
 else
 (some (.bool false)) := by kernel_rfl
end Go.Proofs
