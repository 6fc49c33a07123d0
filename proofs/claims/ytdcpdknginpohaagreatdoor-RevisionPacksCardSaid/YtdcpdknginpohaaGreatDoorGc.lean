/- Equations of functions, printed by program. Conditions: none. -/
import Derived.Test.YtdcpdknginpohaaGreatDoorEv
namespace Go.Proofs
open Go.Am
set_option maxRecDepth 100000
set_option linter.unusedVariables false
noncomputable def r07_Big_L1 :=
 fun lb n (ye : Nat) (ja : Bool) (aair2 : LL) (jb : Bool) (adis4 : LL) bcar5 jk jd jg jc (jf : Bool) (bleg12 : LL) yf wX =>
 hold (Qas (E0 lb n 0 994) 0 (Qag (sub (B QbX) [1, 1, 0, 1, 0, 0]) ++ []) [] (sub (B QbX) [1, 1, 0, 1, 0, 0]) (Qaj 0 (seqK (E0 lb n 0 997) (sub (B QbX) [1, 1, 0]) (sub (B QbX) [1, 1, 1]) (retK Tryz.prog (R QbX) 0 (outK (Qaf Tryz.prog QbX))))) ye ⟨fr 66 [(0, .val (.agg [.list ja aair2, .list jb adis4])), (1, .val (.agg [.str bcar5, .int .i64 jk, .int .i64 jd, .int .i64 jg, .int .i64 jc, .list jf bleg12])), (2, .ptr 0 2 0), (3, .ptr 0 3 0), (4, vB false), (5, vI yf), (6, vI wX), (7, .ptr 0 3 0), (8, vS bcar5), (9, .val (.int .i64 (bcar5.length : Int)))], [bx 66 [(2, some [.val (.list ja aair2), .val (.list jb adis4)]), (3, some [vS bcar5, vI jk, vI jd, vI jg, vI jc, .val (.list jf bleg12)])]], KK⟩)
noncomputable def QgJ (lb n : Nat) (ja : Bool) (aair2 : LL) (jb : Bool) (adis4 : LL) (bcar5 : LB) (jk jd jg jc : Int) (jf : Bool) (bleg12 : LL) (oP i46 : Int) : Option CV :=
 hold (E0 lb n 0 997 (sub (B QbX) [1, 1, 1]) (retK Tryz.prog (R QbX) 0 (outK (Qaf Tryz.prog QbX))) ⟨fr 66 [(0, .val (.agg [.list ja aair2, .list jb adis4])), (1, .val (.agg [.str bcar5, .int .i64 jk, .int .i64 jd, .int .i64 jg, .int .i64 jc, .list jf bleg12])), (2, .ptr 0 2 0), (3, .ptr 0 3 0), (4, vB false), (5, vI oP), (6, vI i46), (7, .ptr 0 3 0), (8, vS bcar5), (9, .val (.int .i64 (bcar5.length : Int)))], [bx 66 [(2, some [.val (.list ja aair2), .val (.list jb adis4)]), (3, some [vS bcar5, vI jk, vI jd, vI jg, vI jc, .val (.list jf bleg12)])]], KK⟩)
theorem Qpx (lb n : Nat) (ja : Bool) (aair2 : LL) (jb : Bool) (adis4 : LL) (bcar5 : LB) (jk jd jg jc : Int) (jf : Bool) (bleg12 : LL) (oP i46 : Int) :
 QgJ lb n ja aair2 jb adis4 bcar5 jk jd jg jc jf bleg12 oP i46 =
 bif (decide (oP > 400)) then
 (some (.bool true))
 else
 (bif (decide ((bleg12.length : Int) > 12)) then
 (some (.bool true))
 else
 (bif (decide ((aair2.length : Int) > 20)) then
 (some (.bool true))
 else
 (some (.bool (decide ((adis4.length : Int) > 40)))))) := (Qad _).trans (by kernel_rfl)
theorem Qh4 (lb n ye : Nat) (ja : Bool) (aair2 : LL) (jb : Bool) (adis4 : LL) (bcar5 : LB) (jk jd jg jc : Int) (jf : Bool) (bleg12 : LL) (yf wX : Int) :
 r07_Big_L1 lb n (ye + 1) ja aair2 jb adis4 bcar5 jk jd jg jc jf bleg12 yf wX =
 bif (decide (wX < (bleg12.length : Int))) then
 (bif (decide (wX < 20)) then
 (optO (atL bleg12 wX) fun c36 =>
 chkO (c36.length == 5) (
 optO (c36[0]?) fun yC =>
 optO (CV.asS yC) fun s38 =>
 optO (atL bleg12 wX) fun c39 =>
 chkO (c39.length == 5) (
 optO (c39[1]?) fun kL =>
 optO (CV.asS kL) fun s41 =>
 optO (atL bleg12 wX) fun c42 =>
 chkO (c42.length == 5) (
 optO (c42[4]?) fun o8 =>
 optO (CV.asS o8) fun s44 =>
 r07_Big_L1 lb n ye ja aair2 jb adis4 bcar5 jk jd jg jc jf bleg12 (IntKind.wrap .i64 ((IntKind.wrap .i64 ((IntKind.wrap .i64 (yf + (s38.length : Int))) + (s41.length : Int))) + (s44.length : Int))) (IntKind.wrap .i64 (wX + 1))))))
 else
 (QgJ lb n ja aair2 jb adis4 bcar5 jk jd jg jc jf bleg12 yf wX))
 else
 (QgJ lb n ja aair2 jb adis4 bcar5 jk jd jg jc jf bleg12 yf wX) := (Qad _).trans (by kernel_rfl)
theorem Qsl (lb n : Nat) (ja : Bool) (aair2 : LL) (jb : Bool) (adis4 : LL) (bcar5 : LB) (jk jd jg jc : Int) (jf : Bool) (bleg12 : LL) :
 top lb n QbX [.agg [.list ja aair2, .list jb adis4], .agg [.str bcar5, .int .i64 jk, .int .i64 jd, .int .i64 jg, .int .i64 jc, .list jf bleg12]] =
 r07_Big_L1 lb n n ja aair2 jb adis4 bcar5 jk jd jg jc jf bleg12 (bcar5.length : Int) 0 := by kernel_rfl
noncomputable def Qd3 (lb n yh : Nat) (ja : Bool) (aair2 : LL) (jb : Bool) (adis4 : LL) (kx : Bool) (kN : LL) (wl : Int) : Option CV :=
 hold (Qas (E0 lb n 0 994) 0 (Qag (sub (B Qae) [1, 1, 0, 1, 0, 0]) ++ [5, 6, 6]) [] (sub (B Qae) [1, 1, 0, 1, 0, 0]) (Qaj 0 (seqK (E0 lb n 0 997) (sub (B Qae) [1, 1, 0]) (sub (B Qae) [1, 1, 1]) (retK Tryz.prog (R Qae) 0 (outK (Qaf Tryz.prog Qae))))) yh ⟨fr 65 [(0, .val (.agg [.list ja aair2, .list jb adis4])), (1, .ptr 0 1 0), (2, .lst true true 83 []), (3, .lst true kx 83 kN), (4, vI wl)], [bx 65 [(1, some [.val (.list ja aair2), .val (.list jb adis4)])]], KK⟩)
noncomputable def Qe8 (lb n y6 yh : Nat) (ja : Bool) (aair2 : LL) (jb : Bool) (adis4 : LL) (wl : Int) (yA : CV) (yS : Bool) (l65 : LL) (vt : Int) : Option CV :=
 hold (Qas (E0 lb n 0 987) 0 (Qag (sub (B Qae) [1, 1, 0, 1, 0, 0, 1, 0, 0, 1, 1, 0, 0]) ++ []) [] (sub (B Qae) [1, 1, 0, 1, 0, 0, 1, 0, 0, 1, 1, 0, 0]) (Qaj 2 (Qaj 1 (seqK (E0 lb n 0 992) (sub (B Qae) [1, 1, 0, 1, 0, 0, 1, 0]) (sub (B Qae) [1, 1, 0, 1, 0, 0, 1, 1]) (QbO 0 (Qag (sub (B Qae) [1, 1, 0, 1, 0, 0]) ++ [5, 6, 6]) [] (Qas (E0 lb n 0 994) 0 (Qag (sub (B Qae) [1, 1, 0, 1, 0, 0]) ++ [5, 6, 6]) [] (sub (B Qae) [1, 1, 0, 1, 0, 0]) (Qaj 0 (seqK (E0 lb n 0 997) (sub (B Qae) [1, 1, 0]) (sub (B Qae) [1, 1, 1]) (retK Tryz.prog (R Qae) 0 (outK (Qaf Tryz.prog Qae))))) yh) (Qaj 0 (seqK (E0 lb n 0 997) (sub (B Qae) [1, 1, 0]) (sub (B Qae) [1, 1, 1]) (retK Tryz.prog (R Qae) 0 (outK (Qaf Tryz.prog Qae))))))))) y6 ⟨fr 65 [(0, .val (.agg [.list ja aair2, .list jb adis4])), (1, .ptr 0 1 0), (2, .lst true true 83 []), (3, .lst true yS 83 l65), (4, vI wl), (5, vV yA), (6, vI vt), (17, .val (.agg [.list ja aair2, .list jb adis4])), (18, vI wl), (19, vV yA)], [bx 65 [(1, some [.val (.list ja aair2), .val (.list jb adis4)])]], KK⟩)
noncomputable def Qk0 (lb n yh : Nat) (ja : Bool) (aair2 : LL) (jb : Bool) (adis4 : LL) (wl : Int) (wi : Bool) (oz : LL) (gb : CV) (ga : Int) : Option CV :=
 hold (E0 lb n 0 992 (sub (B Qae) [1, 1, 0, 1, 0, 0, 1, 1]) (QbO 0 (Qag (sub (B Qae) [1, 1, 0, 1, 0, 0]) ++ [5, 6, 6]) [] (Qas (E0 lb n 0 994) 0 (Qag (sub (B Qae) [1, 1, 0, 1, 0, 0]) ++ [5, 6, 6]) [] (sub (B Qae) [1, 1, 0, 1, 0, 0]) (Qaj 0 (seqK (E0 lb n 0 997) (sub (B Qae) [1, 1, 0]) (sub (B Qae) [1, 1, 1]) (retK Tryz.prog (R Qae) 0 (outK (Qaf Tryz.prog Qae))))) yh) (Qaj 0 (seqK (E0 lb n 0 997) (sub (B Qae) [1, 1, 0]) (sub (B Qae) [1, 1, 1]) (retK Tryz.prog (R Qae) 0 (outK (Qaf Tryz.prog Qae)))))) ⟨fr 65 [(0, .val (.agg [.list ja aair2, .list jb adis4])), (1, .ptr 0 1 0), (2, .lst true true 83 []), (3, .lst true wi 83 oz), (4, vI wl), (5, vV gb), (6, vI ga)], [bx 65 [(1, some [.val (.list ja aair2), .val (.list jb adis4)])]], KK⟩)
theorem Qnc (lb n yh : Nat) (ja : Bool) (aair2 : LL) (jb : Bool) (adis4 : LL) (wl : Int) (wi : Bool) (oz : LL) (gb : CV) (ga : Int) :
 Qk0 lb n yh ja aair2 jb adis4 wl wi oz gb ga =
 Qd3 lb n yh ja aair2 jb adis4 wi oz (IntKind.wrap .i64 (wl + 1)) := (Qad _).trans (by kernel_rfl)
theorem Qgz (lb n y6 yh : Nat) (ja : Bool) (aair2 : LL) (jb : Bool) (adis4 : LL) (wl : Int) (yA : CV) (yS : Bool) (l65 : LL) (vt : Int) :
 Qe8 lb n (y6 + 1) yh ja aair2 jb adis4 wl yA yS l65 vt =
 optO (CV.asL yA) fun pq =>
 bif (decide (vt < (pq.2.length : Int))) then
 (optO (CV.asL yA) fun pc =>
 optO (atL pc.2 vt) fun c76 =>
 chkO (c76.length == 1) (
 optO (c76[0]?) fun vM =>
 optO (C lb n QcQ [.int .i64 wl]) fun nP =>
 optO (CV.asS nP) fun s79 =>
 chkO (decide (([97, 105, 114, 112, 111, 114, 116, 32] : LB).length + s79.length ≤ 9223372036854775807)) (
 chkO (CV.isCell vM) (
 chkO (room (l65.length + 1) 24) (
 Qe8 lb n y6 yh ja aair2 jb adis4 wl yA (yS && false) (l65 ++ [[vM, CV.str (([97, 105, 114, 112, 111, 114, 116, 32] : LB) ++ s79)]]) (IntKind.wrap .i64 (vt + 1)))))))
 else
 (Qk0 lb n yh ja aair2 jb adis4 wl yS l65 yA vt) := (Qad _).trans (by kernel_rfl)
noncomputable def QkZ (lb n : Nat) (ja : Bool) (aair2 : LL) (jb : Bool) (adis4 : LL) (yL : Bool) (l85 : LL) (wa : Int) : Option CV :=
 hold (E0 lb n 0 997 (sub (B Qae) [1, 1, 1]) (retK Tryz.prog (R Qae) 0 (outK (Qaf Tryz.prog Qae))) ⟨fr 65 [(0, .val (.agg [.list ja aair2, .list jb adis4])), (1, .ptr 0 1 0), (2, .lst true true 83 []), (3, .lst true yL 83 l85), (4, vI wa)], [bx 65 [(1, some [.val (.list ja aair2), .val (.list jb adis4)])]], KK⟩)
noncomputable def Qdf (lb n w4 : Nat) (ja : Bool) (aair2 : LL) (jb : Bool) (adis4 : LL) (wa : Int) (vE : Bool) (vi : LL) (wq : Int) : Option CV :=
 hold (Qas (E0 lb n 0 993) 0 (Qag (sub (B Qae) [1, 1, 1, 0, 1, 0, 0]) ++ [8, 9, 9]) [] (sub (B Qae) [1, 1, 1, 0, 1, 0, 0]) (Qaj 4 (seqK (E0 lb n 0 996) (sub (B Qae) [1, 1, 1, 0]) (sub (B Qae) [1, 1, 1, 1]) (retK Tryz.prog (R Qae) 0 (outK (Qaf Tryz.prog Qae))))) w4 ⟨fr 65 [(0, .val (.agg [.list ja aair2, .list jb adis4])), (1, .ptr 0 1 0), (2, .lst true true 83 []), (3, .lst true vE 83 vi), (4, vI wa), (7, vI wq)], [bx 65 [(1, some [.val (.list ja aair2), .val (.list jb adis4)])]], KK⟩)
noncomputable def Qe9 (lb n kb w4 : Nat) (ja : Bool) (aair2 : LL) (jb : Bool) (adis4 : LL) (wa wq : Int) (ym : CV) (ve : Bool) (l143 : LL) (yP : Int) : Option CV :=
 hold (Qas (E0 lb n 0 986) 0 (Qag (sub (B Qae) [1, 1, 1, 0, 1, 0, 0, 1, 0, 0, 1, 1, 0, 0]) ++ []) [] (sub (B Qae) [1, 1, 1, 0, 1, 0, 0, 1, 0, 0, 1, 1, 0, 0]) (Qaj 6 (Qaj 5 (seqK (E0 lb n 0 991) (sub (B Qae) [1, 1, 1, 0, 1, 0, 0, 1, 0]) (sub (B Qae) [1, 1, 1, 0, 1, 0, 0, 1, 1]) (QbO 0 (Qag (sub (B Qae) [1, 1, 1, 0, 1, 0, 0]) ++ [8, 9, 9]) [] (Qas (E0 lb n 0 993) 0 (Qag (sub (B Qae) [1, 1, 1, 0, 1, 0, 0]) ++ [8, 9, 9]) [] (sub (B Qae) [1, 1, 1, 0, 1, 0, 0]) (Qaj 4 (seqK (E0 lb n 0 996) (sub (B Qae) [1, 1, 1, 0]) (sub (B Qae) [1, 1, 1, 1]) (retK Tryz.prog (R Qae) 0 (outK (Qaf Tryz.prog Qae))))) w4) (Qaj 4 (seqK (E0 lb n 0 996) (sub (B Qae) [1, 1, 1, 0]) (sub (B Qae) [1, 1, 1, 1]) (retK Tryz.prog (R Qae) 0 (outK (Qaf Tryz.prog Qae))))))))) kb ⟨fr 65 [(0, .val (.agg [.list ja aair2, .list jb adis4])), (1, .ptr 0 1 0), (2, .lst true true 83 []), (3, .lst true ve 83 l143), (4, vI wa), (7, vI wq), (8, vV ym), (9, vI yP), (44, .val (.agg [.list ja aair2, .list jb adis4])), (45, vI wq), (46, vV ym)], [bx 65 [(1, some [.val (.list ja aair2), .val (.list jb adis4)])]], KK⟩)
noncomputable def Qka (lb n w4 : Nat) (ja : Bool) (aair2 : LL) (jb : Bool) (adis4 : LL) (wa wq : Int) (kd : Bool) (vR : LL) (oq : CV) (k6 : Int) : Option CV :=
 hold (E0 lb n 0 991 (sub (B Qae) [1, 1, 1, 0, 1, 0, 0, 1, 1]) (QbO 0 (Qag (sub (B Qae) [1, 1, 1, 0, 1, 0, 0]) ++ [8, 9, 9]) [] (Qas (E0 lb n 0 993) 0 (Qag (sub (B Qae) [1, 1, 1, 0, 1, 0, 0]) ++ [8, 9, 9]) [] (sub (B Qae) [1, 1, 1, 0, 1, 0, 0]) (Qaj 4 (seqK (E0 lb n 0 996) (sub (B Qae) [1, 1, 1, 0]) (sub (B Qae) [1, 1, 1, 1]) (retK Tryz.prog (R Qae) 0 (outK (Qaf Tryz.prog Qae))))) w4) (Qaj 4 (seqK (E0 lb n 0 996) (sub (B Qae) [1, 1, 1, 0]) (sub (B Qae) [1, 1, 1, 1]) (retK Tryz.prog (R Qae) 0 (outK (Qaf Tryz.prog Qae)))))) ⟨fr 65 [(0, .val (.agg [.list ja aair2, .list jb adis4])), (1, .ptr 0 1 0), (2, .lst true true 83 []), (3, .lst true kd 83 vR), (4, vI wa), (7, vI wq), (8, vV oq), (9, vI k6)], [bx 65 [(1, some [.val (.list ja aair2), .val (.list jb adis4)])]], KK⟩)
theorem Qnu (lb n w4 : Nat) (ja : Bool) (aair2 : LL) (jb : Bool) (adis4 : LL) (wa wq : Int) (kd : Bool) (vR : LL) (oq : CV) (k6 : Int) :
 Qka lb n w4 ja aair2 jb adis4 wa wq kd vR oq k6 =
 Qdf lb n w4 ja aair2 jb adis4 wa kd vR (IntKind.wrap .i64 (wq + 1)) := (Qad _).trans (by kernel_rfl)
theorem Qgu (lb n kb w4 : Nat) (ja : Bool) (aair2 : LL) (jb : Bool) (adis4 : LL) (wa wq : Int) (ym : CV) (ve : Bool) (l143 : LL) (yP : Int) :
 Qe9 lb n (kb + 1) w4 ja aair2 jb adis4 wa wq ym ve l143 yP =
 optO (CV.asL ym) fun nb =>
 bif (decide (yP < (nb.2.length : Int))) then
 (optO (CV.asL ym) fun nf =>
 optO (atL nf.2 yP) fun c154 =>
 chkO (c154.length == 1) (
 optO (c154[0]?) fun gD =>
 optO (C lb n QcQ [.int .i64 wq]) fun ng =>
 optO (CV.asS ng) fun s157 =>
 chkO (decide (([100, 105, 115, 116, 97, 110, 99, 101, 32] : LB).length + s157.length ≤ 9223372036854775807)) (
 chkO (CV.isCell gD) (
 chkO (room (l143.length + 1) 24) (
 Qe9 lb n kb w4 ja aair2 jb adis4 wa wq ym (ve && false) (l143 ++ [[gD, CV.str (([100, 105, 115, 116, 97, 110, 99, 101, 32] : LB) ++ s157)]]) (IntKind.wrap .i64 (yP + 1)))))))
 else
 (Qka lb n w4 ja aair2 jb adis4 wa wq ve l143 ym yP) := (Qad _).trans (by kernel_rfl)
noncomputable def QkO (lb n : Nat) (ja : Bool) (aair2 : LL) (jb : Bool) (adis4 : LL) (wa : Int) (kh : Bool) (ki : LL) (kU : Int) : Option CV :=
 hold (E0 lb n 0 996 (sub (B Qae) [1, 1, 1, 1]) (retK Tryz.prog (R Qae) 0 (outK (Qaf Tryz.prog Qae))) ⟨fr 65 [(0, .val (.agg [.list ja aair2, .list jb adis4])), (1, .ptr 0 1 0), (2, .lst true true 83 []), (3, .lst true kh 83 ki), (4, vI wa), (7, vI kU)], [bx 65 [(1, some [.val (.list ja aair2), .val (.list jb adis4)])]], KK⟩)
theorem Qm9 (lb n : Nat) (ja : Bool) (aair2 : LL) (jb : Bool) (adis4 : LL) (wa : Int) (kh : Bool) (ki : LL) (kU : Int) :
 QkO lb n ja aair2 jb adis4 wa kh ki kU =
 some (.list kh ki) := (Qad _).trans (by kernel_rfl)
theorem QgB (lb n w4 : Nat) (ja : Bool) (aair2 : LL) (jb : Bool) (adis4 : LL) (wa : Int) (vE : Bool) (vi : LL) (wq : Int) :
 Qdf lb n (w4 + 1) ja aair2 jb adis4 wa vE vi wq =
 bif (decide (wq < (adis4.length : Int))) then
 (optO (C lb n QaJ [.agg [.list ja aair2, .list jb adis4], .int .i64 wq]) fun ym =>
 Qe9 lb n n w4 ja aair2 jb adis4 wa wq ym vE vi 0)
 else
 (QkO lb n ja aair2 jb adis4 wa vE vi wq) := (Qad _).trans (by kernel_rfl)
theorem Qnz (lb n : Nat) (ja : Bool) (aair2 : LL) (jb : Bool) (adis4 : LL) (yL : Bool) (l85 : LL) (wa : Int) :
 QkZ lb n ja aair2 jb adis4 yL l85 wa =
 Qdf lb n n ja aair2 jb adis4 wa yL l85 0 := (Qad _).trans (by kernel_rfl)
theorem Qgx (lb n yh : Nat) (ja : Bool) (aair2 : LL) (jb : Bool) (adis4 : LL) (kx : Bool) (kN : LL) (wl : Int) :
 Qd3 lb n (yh + 1) ja aair2 jb adis4 kx kN wl =
 bif (decide (wl < (aair2.length : Int))) then
 (optO (C lb n QaE [.agg [.list ja aair2, .list jb adis4], .int .i64 wl]) fun yA =>
 Qe8 lb n n yh ja aair2 jb adis4 wl yA kx kN 0)
 else
 (QkZ lb n ja aair2 jb adis4 kx kN wl) := (Qad _).trans (by kernel_rfl)
theorem QqV (lb n : Nat) (ja : Bool) (aair2 : LL) (jb : Bool) (adis4 : LL) :
 top lb n Qae [.agg [.list ja aair2, .list jb adis4]] =
 Qd3 lb n n ja aair2 jb adis4 true [] 0 := by kernel_rfl
noncomputable def QcC (lb n : Nat) (ja : Bool) (aair2 : LL) (jb : Bool) (adis4 : LL) (b5 : Int) (c6 : List CV) (x7 x9 jq jC jD : CV) (wk : Bool) (l17 : LL) : Option CV :=
 hold (E0 lb n 0 996 (sub (B QaE) [1, 1, 1, 1]) (retK Tryz.prog (R QaE) 0 (outK (Qaf Tryz.prog QaE))) ⟨fr 93 [(0, .val (.agg [.list ja aair2, .list jb adis4])), (1, vI b5), (2, .ptr 0 2 0), (4, .lst true true 36 []), (5, .lst true wk 36 l17), (6, .ptr 0 6 0), (11, .ptr 0 2 0), (12, .val (.list ja aair2)), (13, vI b5), (14, .cptr c6 0), (15, .val (.agg [x7, x9, jq, jC, jD]))], [bx 93 [(2, some [.val (.list ja aair2), .val (.list jb adis4)]), (6, some [.val x7, .val x9, .val jq, .val jC, .val jD])]], KK⟩)
noncomputable def QbH (lb n yT : Nat) (ja : Bool) (aair2 : LL) (jb : Bool) (adis4 : LL) (b5 : Int) (wk : Bool) (l17 : LL) (c6 : List CV) (x7 x9 jq jC jD : CV) (kE yB : Bool) (wN : Int) : Option CV :=
 hold (Qas (E0 lb n 0 991) 0 (Qag (sub (B QaE) [1, 1, 1, 1, 1, 0, 1, 0, 0]) ++ []) [] (sub (B QaE) [1, 1, 1, 1, 1, 0, 1, 0, 0]) (Qaj 0 (seqK (E0 lb n 0 994) (sub (B QaE) [1, 1, 1, 1, 1, 0]) (sub (B QaE) [1, 1, 1, 1, 1, 1]) (retK Tryz.prog (R QaE) 0 (outK (Qaf Tryz.prog QaE))))) yT ⟨fr 93 [(0, .val (.agg [.list ja aair2, .list jb adis4])), (1, vI b5), (2, .ptr 0 2 0), (4, .lst true true 36 []), (5, .lst true wk 36 l17), (6, .ptr 0 6 0), (7, vB kE), (8, vB yB), (9, vI wN), (11, .ptr 0 2 0), (12, .val (.list ja aair2)), (13, vI b5), (14, .cptr c6 0), (15, .val (.agg [x7, x9, jq, jC, jD]))], [bx 93 [(2, some [.val (.list ja aair2), .val (.list jb adis4)]), (6, some [.val x7, .val x9, .val jq, .val jC, .val jD])]], KK⟩)
noncomputable def Qef (lb n : Nat) (ja : Bool) (aair2 : LL) (jb : Bool) (adis4 : LL) (b5 : Int) (wk : Bool) (l17 : LL) (c6 : List CV) (x7 x9 jq jC jD : CV) (ww wi : Bool) (w9 : Int) : Option CV :=
 hold (E0 lb n 0 994 (sub (B QaE) [1, 1, 1, 1, 1, 1]) (retK Tryz.prog (R QaE) 0 (outK (Qaf Tryz.prog QaE))) ⟨fr 93 [(0, .val (.agg [.list ja aair2, .list jb adis4])), (1, vI b5), (2, .ptr 0 2 0), (4, .lst true true 36 []), (5, .lst true wk 36 l17), (6, .ptr 0 6 0), (7, vB ww), (8, vB wi), (9, vI w9), (11, .ptr 0 2 0), (12, .val (.list ja aair2)), (13, vI b5), (14, .cptr c6 0), (15, .val (.agg [x7, x9, jq, jC, jD]))], [bx 93 [(2, some [.val (.list ja aair2), .val (.list jb adis4)]), (6, some [.val x7, .val x9, .val jq, .val jC, .val jD])]], KK⟩)
noncomputable def QfI (lb n : Nat) (ja : Bool) (aair2 : LL) (jb : Bool) (adis4 : LL) (b5 : Int) (ww wi : Bool) (w9 : Int) (c6 : List CV) (x7 x9 jq jC jD : CV) (kG : Bool) (l83 : LL) : Option CV :=
 hold (E0 lb n 0 993 (sub (B QaE) [1, 1, 1, 1, 1, 1, 1]) (retK Tryz.prog (R QaE) 0 (outK (Qaf Tryz.prog QaE))) ⟨fr 93 [(0, .val (.agg [.list ja aair2, .list jb adis4])), (1, vI b5), (2, .ptr 0 2 0), (4, .lst true true 36 []), (5, .lst true kG 36 l83), (6, .ptr 0 6 0), (7, vB ww), (8, vB wi), (9, vI w9), (11, .ptr 0 2 0), (12, .val (.list ja aair2)), (13, vI b5), (14, .cptr c6 0), (15, .val (.agg [x7, x9, jq, jC, jD]))], [bx 93 [(2, some [.val (.list ja aair2), .val (.list jb adis4)]), (6, some [.val x7, .val x9, .val jq, .val jC, .val jD])]], KK⟩)
noncomputable def Qd8 (lb n : Nat) (ja : Bool) (aair2 : LL) (jb : Bool) (adis4 : LL) (b5 : Int) (ww wi : Bool) (w9 : Int) (c6 : List CV) (x7 x9 jq jC jD : CV) (yL : Bool) (l85 : LL) : Option CV :=
 hold (E0 lb n 0 992 (sub (B QaE) [1, 1, 1, 1, 1, 1, 1, 1]) (retK Tryz.prog (R QaE) 0 (outK (Qaf Tryz.prog QaE))) ⟨fr 93 [(0, .val (.agg [.list ja aair2, .list jb adis4])), (1, vI b5), (2, .ptr 0 2 0), (4, .lst true true 36 []), (5, .lst true yL 36 l85), (6, .ptr 0 6 0), (7, vB ww), (8, vB wi), (9, vI w9), (11, .ptr 0 2 0), (12, .val (.list ja aair2)), (13, vI b5), (14, .cptr c6 0), (15, .val (.agg [x7, x9, jq, jC, jD]))], [bx 93 [(2, some [.val (.list ja aair2), .val (.list jb adis4)]), (6, some [.val x7, .val x9, .val jq, .val jC, .val jD])]], KK⟩)
theorem Qlj (lb n : Nat) (ja : Bool) (aair2 : LL) (jb : Bool) (adis4 : LL) (b5 : Int) (ww wi : Bool) (w9 : Int) (c6 : List CV) (x7 x9 jq jC jD : CV) (yL : Bool) (l85 : LL) :
 Qd8 lb n ja aair2 jb adis4 b5 ww wi w9 c6 x7 x9 jq jC jD yL l85 =
 optO (C lb n Qbd [.agg [jC, jD]]) fun gM =>
 optO (CV.asI .i64 gM) fun pN =>
 bif (pN != 0) then
 (chkO (CV.isCell gM) (
 chkO (room (l85.length + 1) 8) (
 some (.list (yL && false) (l85 ++ [[gM]])))))
 else
 (some (.list yL l85)) := (Qad _).trans (by kernel_rfl)
theorem Qlm (lb n : Nat) (ja : Bool) (aair2 : LL) (jb : Bool) (adis4 : LL) (b5 : Int) (ww wi : Bool) (w9 : Int) (c6 : List CV) (x7 x9 jq jC jD : CV) (kG : Bool) (l83 : LL) :
 QfI lb n ja aair2 jb adis4 b5 ww wi w9 c6 x7 x9 jq jC jD kG l83 =
 bif wi then
 (chkO (room (l83.length + 1) 8) (
 Qd8 lb n ja aair2 jb adis4 b5 ww wi w9 c6 x7 x9 jq jC jD (kG && false) (l83 ++ [[CV.int .i64 8]])))
 else
 (Qd8 lb n ja aair2 jb adis4 b5 ww wi w9 c6 x7 x9 jq jC jD kG l83) := (Qad _).trans (by kernel_rfl)
theorem Qlp (lb n : Nat) (ja : Bool) (aair2 : LL) (jb : Bool) (adis4 : LL) (b5 : Int) (wk : Bool) (l17 : LL) (c6 : List CV) (x7 x9 jq jC jD : CV) (ww wi : Bool) (w9 : Int) :
 Qef lb n ja aair2 jb adis4 b5 wk l17 c6 x7 x9 jq jC jD ww wi w9 =
 bif ww then
 (chkO (room (l17.length + 1) 8) (
 QfI lb n ja aair2 jb adis4 b5 ww wi w9 c6 x7 x9 jq jC jD (wk && false) (l17 ++ [[CV.int .i64 6]])))
 else
 (QfI lb n ja aair2 jb adis4 b5 ww wi w9 c6 x7 x9 jq jC jD wk l17) := (Qad _).trans (by kernel_rfl)
theorem Qft (lb n yT : Nat) (ja : Bool) (aair2 : LL) (jb : Bool) (adis4 : LL) (b5 : Int) (wk : Bool) (l17 : LL) (c6 : List CV) (x7 x9 jq jC jD : CV) (kE yB : Bool) (wN : Int) :
 QbH lb n (yT + 1) ja aair2 jb adis4 b5 wk l17 c6 x7 x9 jq jC jD kE yB wN =
 bif (decide (wN < b5)) then
 (bif kE then
 (bif yB then
 (QbH lb n yT ja aair2 jb adis4 b5 wk l17 c6 x7 x9 jq jC jD true true (IntKind.wrap .i64 (wN + 1)))
 else
 (optO (atL aair2 wN) fun c58 =>
 chkO (c58.length == 5) (
 optO (c58[1]?) fun vA =>
 optO (CV.asS vA) fun pM =>
 optO (CV.asS x9) fun nF =>
 bif (pM == nF) then
 (optO (atL aair2 wN) fun c62 =>
 chkO (c62.length == 5) (
 optO (c62[2]?) fun ku =>
 optO (CV.asS ku) fun nM =>
 optO (CV.asS jq) fun pU =>
 QbH lb n yT ja aair2 jb adis4 b5 wk l17 c6 x7 x9 jq jC jD true (!(nM == pU)) (IntKind.wrap .i64 (wN + 1))))
 else
 (QbH lb n yT ja aair2 jb adis4 b5 wk l17 c6 x7 x9 jq jC jD true false (IntKind.wrap .i64 (wN + 1))))))
 else
 (optO (atL aair2 wN) fun c67 =>
 chkO (c67.length == 5) (
 optO (c67[0]?) fun gK =>
 optO (CV.asS gK) fun vu =>
 optO (CV.asS x7) fun vn =>
 bif yB then
 (QbH lb n yT ja aair2 jb adis4 b5 wk l17 c6 x7 x9 jq jC jD (vu == vn) true (IntKind.wrap .i64 (wN + 1)))
 else
 (optO (atL aair2 wN) fun c71 =>
 chkO (c71.length == 5) (
 optO (c71[1]?) fun qh =>
 optO (CV.asS qh) fun nN =>
 optO (CV.asS x9) fun pu =>
 bif (nN == pu) then
 (optO (atL aair2 wN) fun c75 =>
 chkO (c75.length == 5) (
 optO (c75[2]?) fun o9 =>
 optO (CV.asS o9) fun pX =>
 optO (CV.asS jq) fun nK =>
 QbH lb n yT ja aair2 jb adis4 b5 wk l17 c6 x7 x9 jq jC jD (vu == vn) (!(pX == nK)) (IntKind.wrap .i64 (wN + 1))))
 else
 (QbH lb n yT ja aair2 jb adis4 b5 wk l17 c6 x7 x9 jq jC jD (vu == vn) false (IntKind.wrap .i64 (wN + 1))))))))
 else
 (Qef lb n ja aair2 jb adis4 b5 wk l17 c6 x7 x9 jq jC jD kE yB wN) := (Qad _).trans (by kernel_rfl)
theorem Qli (lb n : Nat) (ja : Bool) (aair2 : LL) (jb : Bool) (adis4 : LL) (b5 : Int) (c6 : List CV) (x7 x9 jq jC jD : CV) (wk : Bool) (l17 : LL) :
 QcC lb n ja aair2 jb adis4 b5 c6 x7 x9 jq jC jD wk l17 =
 QbH lb n n ja aair2 jb adis4 b5 wk l17 c6 x7 x9 jq jC jD false false 0 := (Qad _).trans (by kernel_rfl)
theorem QnM (lb n : Nat) (ja : Bool) (aair2 : LL) (jb : Bool) (adis4 : LL) (b5 : Int) :
 top lb n QaE [.agg [.list ja aair2, .list jb adis4], .int .i64 b5] =
 optO (atL aair2 b5) fun c6 =>
 chkO (c6.length == 5) (
 optO (c6[0]?) fun x7 =>
 optO (c6[1]?) fun x9 =>
 optO (c6[2]?) fun jq =>
 optO (c6[3]?) fun jC =>
 optO (c6[4]?) fun jD =>
 optO (C lb n QeE [x7]) fun vo =>
 optO (CV.asB vo) fun gq =>
 bif (!gq) then
 (QcC lb n ja aair2 jb adis4 b5 c6 x7 x9 jq jC jD false [[CV.int .i64 5]])
 else
 (optO (C lb n QeE [x9]) fun pT =>
 optO (CV.asB pT) fun pB =>
 bif (!pB) then
 (QcC lb n ja aair2 jb adis4 b5 c6 x7 x9 jq jC jD false [[CV.int .i64 5]])
 else
 (optO (C lb n Qgl [jq]) fun nO =>
 optO (CV.asB nO) fun pt =>
 bif (!pt) then
 (QcC lb n ja aair2 jb adis4 b5 c6 x7 x9 jq jC jD false [[CV.int .i64 5]])
 else
 (QcC lb n ja aair2 jb adis4 b5 c6 x7 x9 jq jC jD true [])))) := by kernel_rfl
noncomputable def QcZ (lb n : Nat) (ja : Bool) (aair2 : LL) (jb : Bool) (adis4 : LL) (b5 : Int) (jO jN : CV) (c6 : List CV) (x7 x9 jq jM jS jL jH j2 jP jU jR j3 jG j0 jF jB jJ : CV) (wm : Bool) (l37 : LL) : Option CV :=
 hold (E0 lb n 0 994 (sub (B QaJ) [1, 1, 1, 1, 1, 1]) (retK Tryz.prog (R QaJ) 0 (outK (Qaf Tryz.prog QaJ))) ⟨fr 99 [(0, .val (.agg [.list ja aair2, .list jb adis4])), (1, vI b5), (2, .ptr 0 2 0), (4, .lst true true 36 []), (5, .lst true wm 36 l37), (6, .ptr 0 6 0), (7, .ptr 0 7 0), (8, vV jO), (9, .ptr 0 9 0), (10, vV jN), (14, .ptr 0 2 1), (15, .val (.list jb adis4)), (16, vI b5), (17, .cptr c6 0), (18, .val (.agg [x7, x9, jq])), (19, vV jM), (20, .val (.agg [.list ja aair2, .list jb adis4])), (21, .ptr 0 6 0), (22, vV x7), (23, vV jM), (24, vV jS), (25, vV jO), (26, vV jL), (27, .val (.agg [.list ja aair2, .list jb adis4])), (28, .ptr 0 6 1), (29, vV x9), (30, vV jL), (31, vV jH), (32, vV jN)], [bx 99 [(2, some [.val (.list ja aair2), .val (.list jb adis4)]), (6, some [.val x7, .val x9, .val jq]), (7, some [.val j2, .val jP, .val jU, .val jR, .val j3]), (9, some [.val jG, .val j0, .val jF, .val jB, .val jJ])]], KK⟩)
noncomputable def Qbr (lb n y4 : Nat) (ja : Bool) (aair2 : LL) (jb : Bool) (adis4 : LL) (b5 : Int) (wm : Bool) (l37 : LL) (jO jN : CV) (c6 : List CV) (x7 x9 jq jM jS jL jH j2 jP jU jR j3 jG j0 jF jB jJ : CV) (vh : Bool) (yz : Int) : Option CV :=
 hold (Qas (E0 lb n 0 989) 0 (Qag (sub (B QaJ) [1, 1, 1, 1, 1, 1, 1, 0, 1, 0, 0]) ++ []) [13] (sub (B QaJ) [1, 1, 1, 1, 1, 1, 1, 0, 1, 0, 0]) (Qaj 0 (seqK (E0 lb n 0 992) (sub (B QaJ) [1, 1, 1, 1, 1, 1, 1, 0]) (sub (B QaJ) [1, 1, 1, 1, 1, 1, 1, 1]) (retK Tryz.prog (R QaJ) 0 (outK (Qaf Tryz.prog QaJ))))) y4 ⟨fr 99 [(0, .val (.agg [.list ja aair2, .list jb adis4])), (1, vI b5), (2, .ptr 0 2 0), (4, .lst true true 36 []), (5, .lst true wm 36 l37), (6, .ptr 0 6 0), (7, .ptr 0 7 0), (8, vV jO), (9, .ptr 0 9 0), (10, vV jN), (11, vB vh), (12, vI yz), (14, .ptr 0 2 1), (15, .val (.list jb adis4)), (16, vI b5), (17, .cptr c6 0), (18, .val (.agg [x7, x9, jq])), (19, vV jM), (20, .val (.agg [.list ja aair2, .list jb adis4])), (21, .ptr 0 6 0), (22, vV x7), (23, vV jM), (24, vV jS), (25, vV jO), (26, vV jL), (27, .val (.agg [.list ja aair2, .list jb adis4])), (28, .ptr 0 6 1), (29, vV x9), (30, vV jL), (31, vV jH), (32, vV jN)], [bx 99 [(2, some [.val (.list ja aair2), .val (.list jb adis4)]), (6, some [.val x7, .val x9, .val jq]), (7, some [.val j2, .val jP, .val jU, .val jR, .val j3]), (9, some [.val jG, .val j0, .val jF, .val jB, .val jJ])]], KK⟩)
noncomputable def QdN (lb n : Nat) (ja : Bool) (aair2 : LL) (jb : Bool) (adis4 : LL) (b5 : Int) (wm : Bool) (l37 : LL) (jO jN : CV) (c6 : List CV) (x7 x9 jq jM jS jL jH j2 jP jU jR j3 jG j0 jF jB jJ : CV) (w6 : Bool) (yp : Int) : Option CV :=
 hold (E0 lb n 0 992 (sub (B QaJ) [1, 1, 1, 1, 1, 1, 1, 1]) (retK Tryz.prog (R QaJ) 0 (outK (Qaf Tryz.prog QaJ))) ⟨fr 99 [(0, .val (.agg [.list ja aair2, .list jb adis4])), (1, vI b5), (2, .ptr 0 2 0), (4, .lst true true 36 []), (5, .lst true wm 36 l37), (6, .ptr 0 6 0), (7, .ptr 0 7 0), (8, vV jO), (9, .ptr 0 9 0), (10, vV jN), (11, vB w6), (12, vI yp), (14, .ptr 0 2 1), (15, .val (.list jb adis4)), (16, vI b5), (17, .cptr c6 0), (18, .val (.agg [x7, x9, jq])), (19, vV jM), (20, .val (.agg [.list ja aair2, .list jb adis4])), (21, .ptr 0 6 0), (22, vV x7), (23, vV jM), (24, vV jS), (25, vV jO), (26, vV jL), (27, .val (.agg [.list ja aair2, .list jb adis4])), (28, .ptr 0 6 1), (29, vV x9), (30, vV jL), (31, vV jH), (32, vV jN)], [bx 99 [(2, some [.val (.list ja aair2), .val (.list jb adis4)]), (6, some [.val x7, .val x9, .val jq]), (7, some [.val j2, .val jP, .val jU, .val jR, .val j3]), (9, some [.val jG, .val j0, .val jF, .val jB, .val jJ])]], KK⟩)
noncomputable def QdI (lb n : Nat) (ja : Bool) (aair2 : LL) (jb : Bool) (adis4 : LL) (b5 : Int) (jO jN : CV) (w6 : Bool) (yp : Int) (c6 : List CV) (x7 x9 jq jM jS jL jH j2 jP jU jR j3 jG j0 jF jB jJ : CV) (vb : Bool) (l101 : LL) : Option CV :=
 hold (E0 lb n 0 991 (sub (B QaJ) [1, 1, 1, 1, 1, 1, 1, 1, 1]) (retK Tryz.prog (R QaJ) 0 (outK (Qaf Tryz.prog QaJ))) ⟨fr 99 [(0, .val (.agg [.list ja aair2, .list jb adis4])), (1, vI b5), (2, .ptr 0 2 0), (4, .lst true true 36 []), (5, .lst true vb 36 l101), (6, .ptr 0 6 0), (7, .ptr 0 7 0), (8, vV jO), (9, .ptr 0 9 0), (10, vV jN), (11, vB w6), (12, vI yp), (14, .ptr 0 2 1), (15, .val (.list jb adis4)), (16, vI b5), (17, .cptr c6 0), (18, .val (.agg [x7, x9, jq])), (19, vV jM), (20, .val (.agg [.list ja aair2, .list jb adis4])), (21, .ptr 0 6 0), (22, vV x7), (23, vV jM), (24, vV jS), (25, vV jO), (26, vV jL), (27, .val (.agg [.list ja aair2, .list jb adis4])), (28, .ptr 0 6 1), (29, vV x9), (30, vV jL), (31, vV jH), (32, vV jN)], [bx 99 [(2, some [.val (.list ja aair2), .val (.list jb adis4)]), (6, some [.val x7, .val x9, .val jq]), (7, some [.val j2, .val jP, .val jU, .val jR, .val j3]), (9, some [.val jG, .val j0, .val jF, .val jB, .val jJ])]], KK⟩)
theorem Qkj (lb n : Nat) (ja : Bool) (aair2 : LL) (jb : Bool) (adis4 : LL) (b5 : Int) (jO jN : CV) (w6 : Bool) (yp : Int) (c6 : List CV) (x7 x9 jq jM jS jL jH j2 jP jU jR j3 jG j0 jF jB jJ : CV) (vb : Bool) (l101 : LL) :
 QdI lb n ja aair2 jb adis4 b5 jO jN w6 yp c6 x7 x9 jq jM jS jL jH j2 jP jU jR j3 jG j0 jF jB jJ vb l101 =
 optO (C lb n Qd5 [.agg [x7, x9, jq]]) fun mX =>
 optO (CV.asB mX) fun mG =>
 bif (!mG) then
 (chkO (room (l101.length + 1) 8) (
 some (.list (vb && false) (l101 ++ [[CV.int .i64 2]]))))
 else
 (optO (CV.asS x7) fun k5 =>
 optO (CV.asS x9) fun ow =>
 bif (k5 == ow) then
 (chkO (room (l101.length + 1) 8) (
 some (.list (vb && false) (l101 ++ [[CV.int .i64 2]]))))
 else
 (some (.list vb l101))) := (Qad _).trans (by kernel_rfl)
theorem QkD (lb n : Nat) (ja : Bool) (aair2 : LL) (jb : Bool) (adis4 : LL) (b5 : Int) (wm : Bool) (l37 : LL) (jO jN : CV) (c6 : List CV) (x7 x9 jq jM jS jL jH j2 jP jU jR j3 jG j0 jF jB jJ : CV) (w6 : Bool) (yp : Int) :
 QdN lb n ja aair2 jb adis4 b5 wm l37 jO jN c6 x7 x9 jq jM jS jL jH j2 jP jU jR j3 jG j0 jF jB jJ w6 yp =
 bif w6 then
 (chkO (room (l37.length + 1) 8) (
 QdI lb n ja aair2 jb adis4 b5 jO jN w6 yp c6 x7 x9 jq jM jS jL jH j2 jP jU jR j3 jG j0 jF jB jJ (wm && false) (l37 ++ [[CV.int .i64 6]])))
 else
 (QdI lb n ja aair2 jb adis4 b5 jO jN w6 yp c6 x7 x9 jq jM jS jL jH j2 jP jU jR j3 jG j0 jF jB jJ wm l37) := (Qad _).trans (by kernel_rfl)
theorem Qfb (lb n y4 : Nat) (ja : Bool) (aair2 : LL) (jb : Bool) (adis4 : LL) (b5 : Int) (wm : Bool) (l37 : LL) (jO jN : CV) (c6 : List CV) (x7 x9 jq jM jS jL jH j2 jP jU jR j3 jG j0 jF jB jJ : CV) (vh : Bool) (yz : Int) :
 Qbr lb n (y4 + 1) ja aair2 jb adis4 b5 wm l37 jO jN c6 x7 x9 jq jM jS jL jH j2 jP jU jR j3 jG j0 jF jB jJ vh yz =
 bif (decide (yz < b5)) then
 (optO (atL adis4 yz) fun c82 =>
 chkO (c82.length == 3) (
 optO (c82[0]?) fun gB =>
 optO (c82[1]?) fun gA =>
 optO (c82[2]?) fun qr =>
 bif vh then
 (Qbr lb n y4 ja aair2 jb adis4 b5 wm l37 jO jN c6 x7 x9 jq jM jS jL jH j2 jP jU jR j3 jG j0 jF jB jJ true (IntKind.wrap .i64 (yz + 1)))
 else
 (optO (CV.asS gB) fun pI =>
 optO (CV.asS x7) fun qj =>
 bif (pI == qj) then
 (optO (CV.asS gA) fun qc =>
 optO (CV.asS x9) fun ph =>
 bif (qc == ph) then
 (Qbr lb n y4 ja aair2 jb adis4 b5 wm l37 jO jN c6 x7 x9 jq jM jS jL jH j2 jP jU jR j3 jG j0 jF jB jJ true (IntKind.wrap .i64 (yz + 1)))
 else
 (optO (CV.asS gB) fun nX =>
 optO (CV.asS x9) fun qe =>
 bif (nX == qe) then
 (optO (CV.asS gA) fun nS =>
 optO (CV.asS x7) fun pA =>
 Qbr lb n y4 ja aair2 jb adis4 b5 wm l37 jO jN c6 x7 x9 jq jM jS jL jH j2 jP jU jR j3 jG j0 jF jB jJ (nS == pA) (IntKind.wrap .i64 (yz + 1)))
 else
 (Qbr lb n y4 ja aair2 jb adis4 b5 wm l37 jO jN c6 x7 x9 jq jM jS jL jH j2 jP jU jR j3 jG j0 jF jB jJ false (IntKind.wrap .i64 (yz + 1)))))
 else
 (optO (CV.asS gB) fun n5 =>
 optO (CV.asS x9) fun nJ =>
 bif (n5 == nJ) then
 (optO (CV.asS gA) fun pL =>
 optO (CV.asS x7) fun pf =>
 Qbr lb n y4 ja aair2 jb adis4 b5 wm l37 jO jN c6 x7 x9 jq jM jS jL jH j2 jP jU jR j3 jG j0 jF jB jJ (pL == pf) (IntKind.wrap .i64 (yz + 1)))
 else
 (Qbr lb n y4 ja aair2 jb adis4 b5 wm l37 jO jN c6 x7 x9 jq jM jS jL jH j2 jP jU jR j3 jG j0 jF jB jJ false (IntKind.wrap .i64 (yz + 1)))))))
 else
 (QdN lb n ja aair2 jb adis4 b5 wm l37 jO jN c6 x7 x9 jq jM jS jL jH j2 jP jU jR j3 jG j0 jF jB jJ vh yz) := (Qad _).trans (by kernel_rfl)
theorem QkE (lb n : Nat) (ja : Bool) (aair2 : LL) (jb : Bool) (adis4 : LL) (b5 : Int) (jO jN : CV) (c6 : List CV) (x7 x9 jq jM jS jL jH j2 jP jU jR j3 jG j0 jF jB jJ : CV) (wm : Bool) (l37 : LL) :
 QcZ lb n ja aair2 jb adis4 b5 jO jN c6 x7 x9 jq jM jS jL jH j2 jP jU jR j3 jG j0 jF jB jJ wm l37 =
 Qbr lb n n ja aair2 jb adis4 b5 wm l37 jO jN c6 x7 x9 jq jM jS jL jH j2 jP jU jR j3 jG j0 jF jB jJ false 0 := (Qad _).trans (by kernel_rfl)
theorem QmV (lb n : Nat) (ja : Bool) (aair2 : LL) (jb : Bool) (adis4 : LL) (b5 : Int) :
 top lb n QaJ [.agg [.list ja aair2, .list jb adis4], .int .i64 b5] =
 optO (atL adis4 b5) fun c6 =>
 chkO (c6.length == 3) (
 optO (c6[0]?) fun x7 =>
 optO (c6[1]?) fun x9 =>
 optO (c6[2]?) fun jq =>
 optO (C lb n QbE [.agg [.list ja aair2, .list jb adis4], x7]) fun jM =>
 optO (CV.asT jM) fun kR =>
 optO (kR[0]?) fun jS =>
 optO (CV.asT jM) fun nZ =>
 optO (nZ[1]?) fun jO =>
 optO (CV.asA jS) fun c17 =>
 chkO (c17.length == 5) (
 optO (c17[0]?) fun j2 =>
 optO (c17[1]?) fun jP =>
 optO (c17[2]?) fun jU =>
 optO (c17[3]?) fun jR =>
 optO (c17[4]?) fun j3 =>
 optO (C lb n QbE [.agg [.list ja aair2, .list jb adis4], x9]) fun jL =>
 optO (CV.asT jL) fun pQ =>
 optO (pQ[0]?) fun jH =>
 optO (CV.asT jL) fun qa =>
 optO (qa[1]?) fun jN =>
 optO (CV.asA jH) fun c28 =>
 chkO (c28.length == 5) (
 optO (c28[0]?) fun jG =>
 optO (c28[1]?) fun j0 =>
 optO (c28[2]?) fun jF =>
 optO (c28[3]?) fun jB =>
 optO (c28[4]?) fun jJ =>
 optO (CV.asB jO) fun yB =>
 bif (!yB) then
 (QcZ lb n ja aair2 jb adis4 b5 jO jN c6 x7 x9 jq jM jS jL jH j2 jP jU jR j3 jG j0 jF jB jJ false [[CV.int .i64 14]])
 else
 (optO (CV.asB jN) fun nC =>
 bif (!nC) then
 (QcZ lb n ja aair2 jb adis4 b5 jO jN c6 x7 x9 jq jM jS jL jH j2 jP jU jR j3 jG j0 jF jB jJ false [[CV.int .i64 14]])
 else
 (QcZ lb n ja aair2 jb adis4 b5 jO jN c6 x7 x9 jq jM jS jL jH j2 jP jU jR j3 jG j0 jF jB jJ true []))))) := by kernel_rfl
noncomputable def QfW (lb n yj : Nat) (ja : Bool) (aair2 : LL) (jb : Bool) (adis4 : LL) (b5 : LB) (jQ : Int) : Option CV :=
 hold (Qas (E0 lb n 0 995) 0 (Qag (sub (B QbE) [1, 0, 1, 0, 0]) ++ []) [] (sub (B QbE) [1, 0, 1, 0, 0]) (Qaj 0 (seqK (E0 lb n 0 998) (sub (B QbE) [1, 0]) (sub (B QbE) [1, 1]) (retK Tryz.prog (R QbE) 0 (outK (Qaf Tryz.prog QbE))))) yj ⟨fr 28 [(0, .val (.agg [.list ja aair2, .list jb adis4])), (1, vS b5), (2, .ptr 0 2 0), (4, .ptr 0 4 0), (5, vB false), (6, vI jQ)], [bx 28 [(2, some [.val (.list ja aair2), .val (.list jb adis4)]), (4, some [.val (.str []), .val (.str []), .val (.str []), vI 0, .lst true true 195 []])]], KK⟩)
noncomputable def QlL (lb n : Nat) (ja : Bool) (aair2 : LL) (jb : Bool) (adis4 : LL) (b5 : LB) (w5 : Int) : Option CV :=
 hold (E0 lb n 0 998 (sub (B QbE) [1, 1]) (retK Tryz.prog (R QbE) 0 (outK (Qaf Tryz.prog QbE))) ⟨fr 28 [(0, .val (.agg [.list ja aair2, .list jb adis4])), (1, vS b5), (2, .ptr 0 2 0), (4, .ptr 0 4 0), (5, vB false), (6, vI w5)], [bx 28 [(2, some [.val (.list ja aair2), .val (.list jb adis4)]), (4, some [.val (.str []), .val (.str []), .val (.str []), vI 0, .lst true true 195 []])]], KK⟩)
theorem QnN (lb n : Nat) (ja : Bool) (aair2 : LL) (jb : Bool) (adis4 : LL) (b5 : LB) (w5 : Int) :
 QlL lb n ja aair2 jb adis4 b5 w5 =
 some (.tup [.agg [.str [], .str [], .str [], .int .i64 0, .list true []], .bool false]) := (Qad _).trans (by kernel_rfl)
theorem QhA (lb n yj : Nat) (ja : Bool) (aair2 : LL) (jb : Bool) (adis4 : LL) (b5 : LB) (jQ : Int) :
 QfW lb n (yj + 1) ja aair2 jb adis4 b5 jQ =
 bif (decide (jQ < (aair2.length : Int))) then
 (optO (atL aair2 jQ) fun c28 =>
 chkO (c28.length == 5) (
 optO (c28[1]?) fun jG =>
 optO (CV.asS jG) fun kK =>
 bif (kK == b5) then
 (optO (atL aair2 jQ) fun c31 =>
 chkO (c31.length == 5) (
 optO (c31[0]?) fun jB =>
 optO (c31[1]?) fun jJ =>
 optO (c31[2]?) fun yQ =>
 optO (c31[3]?) fun yW =>
 optO (c31[4]?) fun yC =>
 some (.tup [.agg [jB, jJ, yQ, yW, yC], .bool true])))
 else
 (QfW lb n yj ja aair2 jb adis4 b5 (IntKind.wrap .i64 (jQ + 1)))))
 else
 (QlL lb n ja aair2 jb adis4 b5 jQ) := (Qad _).trans (by kernel_rfl)
theorem Qrn (lb n : Nat) (ja : Bool) (aair2 : LL) (jb : Bool) (adis4 : LL) (b5 : LB) :
 top lb n QbE [.agg [.list ja aair2, .list jb adis4], .str b5] =
 QfW lb n n ja aair2 jb adis4 b5 0 := by kernel_rfl
theorem Qpk (lb n : Nat) (je ji : LB) (v7 : Int) :
 top lb n Qd5 [.agg [.str je, .str ji, .int .i64 v7]] =
 bif (decide (v7 ≥ 1)) then
 (some (.bool (decide (v7 ≤ 20000))))
 else
 (some (.bool false)) := by kernel_rfl
noncomputable def QdT (lb n yd : Nat) (jA : Int) (jz : Bool) (ashi3 : LL) (wW : Int) : Option CV :=
 hold (Qas (E0 lb n 0 993) 0 (Qag (sub (B Qbd) [1, 1, 1, 0, 1, 0, 0]) ++ []) [4] (sub (B Qbd) [1, 1, 1, 0, 1, 0, 0]) (Qaj 0 (seqK (E0 lb n 0 996) (sub (B Qbd) [1, 1, 1, 0]) (sub (B Qbd) [1, 1, 1, 1]) (retK Tryz.prog (R Qbd) 0 (outK (Qaf Tryz.prog Qbd))))) yd ⟨fr 54 [(0, .val (.agg [.int .i64 jA, .list jz ashi3])), (1, .ptr 0 1 0), (2, vI 0), (3, vI wW)], [bx 54 [(1, some [vI jA, .val (.list jz ashi3)])]], KK⟩)
noncomputable def QkC (lb n : Nat) (jA : Int) (jz : Bool) (ashi3 : LL) (gx : Int) : Option CV :=
 hold (E0 lb n 0 996 (sub (B Qbd) [1, 1, 1, 1]) (retK Tryz.prog (R Qbd) 0 (outK (Qaf Tryz.prog Qbd))) ⟨fr 54 [(0, .val (.agg [.int .i64 jA, .list jz ashi3])), (1, .ptr 0 1 0), (2, vI 0), (3, vI gx)], [bx 54 [(1, some [vI jA, .val (.list jz ashi3)])]], KK⟩)
theorem QmC (lb n : Nat) (jA : Int) (jz : Bool) (ashi3 : LL) (gx : Int) :
 QkC lb n jA jz ashi3 gx =
 some (.int .i64 0) := (Qad _).trans (by kernel_rfl)
theorem QgF (lb n yd : Nat) (jA : Int) (jz : Bool) (ashi3 : LL) (wW : Int) :
 QdT lb n (yd + 1) jA jz ashi3 wW =
 bif (decide (wW < (ashi3.length : Int))) then
 (optO (atL ashi3 wW) fun c30 =>
 chkO (c30.length == 2) (
 optO (c30[0]?) fun jF =>
 optO (c30[1]?) fun jB =>
 optO (CV.asI .i64 jF) fun vH =>
 bif (decide (vH < 0)) then
 (some (.int .i64 13))
 else
 (optO (CV.asI .i64 jF) fun pr =>
 bif (decide (pr ≥ 52596000)) then
 (some (.int .i64 13))
 else
 (bif (decide (wW > 0)) then
 (optO (atL ashi3 (IntKind.wrap .i64 (wW - 1))) fun c36 =>
 chkO (c36.length == 2) (
 optO (c36[0]?) fun yC =>
 optO (CV.asI .i64 jF) fun w5 =>
 optO (CV.asI .i64 yC) fun yq =>
 bif (decide ((IntKind.wrap .i64 (w5 - yq)) < 2880)) then
 (some (.int .i64 13))
 else
 (optO (C lb n QdW [jB]) fun gI =>
 optO (CV.asB gI) fun gm =>
 bif (!gm) then
 (some (.int .i64 2))
 else
 (QdT lb n yd jA jz ashi3 (IntKind.wrap .i64 (wW + 1))))))
 else
 (optO (C lb n QdW [jB]) fun oO =>
 optO (CV.asB oO) fun pW =>
 bif (!pW) then
 (some (.int .i64 2))
 else
 (QdT lb n yd jA jz ashi3 (IntKind.wrap .i64 (wW + 1))))))))
 else
 (QkC lb n jA jz ashi3 wW) := (Qad _).trans (by kernel_rfl)
theorem QkL (lb n : Nat) (jA : Int) (jz : Bool) (ashi3 : LL) :
 top lb n Qbd [.agg [.int .i64 jA, .list jz ashi3]] =
 bif (decide ((ashi3.length : Int) > 256)) then
 (some (.int .i64 4))
 else
 (optO (C lb n QdW [.int .i64 jA]) fun r4 =>
 optO (CV.asB r4) fun b5 =>
 bif (!b5) then
 (some (.int .i64 2))
 else
 (QdT lb n n jA jz ashi3 0)) := by kernel_rfl
theorem QpC (lb n : Nat) (a1 : Int) :
 top lb n QdW [.int .i64 a1] =
 bif (decide (a1 ≥ (-840))) then
 (some (.bool (decide (a1 ≤ 840))))
 else
 (some (.bool false)) := by kernel_rfl
end Go.Proofs
