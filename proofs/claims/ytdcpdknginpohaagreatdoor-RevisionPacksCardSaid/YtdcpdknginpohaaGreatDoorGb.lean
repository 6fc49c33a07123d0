/- Equations of functions, printed by program. Conditions: none. -/
import Derived.Test.YtdcpdknginpohaaGreatDoorEv
namespace Go.Proofs
open Go.Am
set_option maxRecDepth 100000
set_option linter.unusedVariables false
noncomputable def r07_broken_L1 :=
 fun lb n (oF : Nat) (jh : Bool) (a2 : LL) b3 wG =>
 hold (Qas (E0 lb n 0 994) 0 (Qag (sub (B Qa6) [1, 1, 0, 1, 0, 0]) ++ []) [] (sub (B Qa6) [1, 1, 0, 1, 0, 0]) (Qaj 0 (seqK (E0 lb n 0 997) (sub (B Qa6) [1, 1, 0]) (sub (B Qa6) [1, 1, 1]) (retK Tryz.prog (R Qa6) 0 (outK (Qaf Tryz.prog Qa6))))) oF ⟨fr 38 [(0, .val (.list jh a2)), (1, vI b3), (4, vB false), (5, vI wG)], [bx 38 []], KK⟩)
noncomputable def QjI (lb n : Nat) (jh : Bool) (a2 : LL) (b3 kM : Int) : Option CV :=
 hold (E0 lb n 0 997 (sub (B Qa6) [1, 1, 1]) (retK Tryz.prog (R Qa6) 0 (outK (Qaf Tryz.prog Qa6))) ⟨fr 38 [(0, .val (.list jh a2)), (1, vI b3), (4, vB false), (5, vI kM)], [bx 38 []], KK⟩)
theorem Qmz (lb n : Nat) (jh : Bool) (a2 : LL) (b3 kM : Int) :
 QjI lb n jh a2 b3 kM =
 some (.bool false) := (Qad _).trans (by kernel_rfl)
theorem Qgk (lb n oF : Nat) (jh : Bool) (a2 : LL) (b3 wG : Int) :
 r07_broken_L1 lb n (oF + 1) jh a2 b3 wG =
 bif (decide (wG ≤ b3)) then
 (optO (atL a2 wG) fun c26 =>
 chkO (c26.length == 5) (
 optO (c26[0]?) fun jN =>
 optO (atL a2 b3) fun c28 =>
 chkO (c28.length == 5) (
 optO (c28[1]?) fun jG =>
 optO (CV.asS jN) fun kK =>
 optO (CV.asS jG) fun pE =>
 bif (kK == pE) then
 (some (.bool true))
 else
 (r07_broken_L1 lb n oF jh a2 b3 (IntKind.wrap .i64 (wG + 1))))))
 else
 (QjI lb n jh a2 b3 wG) := (Qad _).trans (by kernel_rfl)
theorem Qpm (lb n : Nat) (jh : Bool) (a2 : LL) (b3 : Int) :
 top lb n Qa6 [.list jh a2, .int .i64 b3] =
 bif (decide (b3 > 0)) then
 (optO (atL a2 b3) fun c4 =>
 chkO (c4.length == 5) (
 optO (c4[0]?) fun x5 =>
 optO (atL a2 (IntKind.wrap .i64 (b3 - 1))) fun c6 =>
 chkO (c6.length == 5) (
 optO (c6[1]?) fun x7 =>
 optO (CV.asS x5) fun s9 =>
 optO (CV.asS x7) fun pp =>
 bif (!(s9 == pp)) then
 (some (.bool true))
 else
 (r07_broken_L1 lb n n jh a2 b3 0))))
 else
 (r07_broken_L1 lb n n jh a2 b3 0) := by kernel_rfl
noncomputable def Qii (lb n : Nat) (jy : LB) (jv jo jr jp : Int) (ju : Bool) (aleg7 : LL) (vL : Bool) (l12 : LL) : Option CV :=
 hold (E0 lb n 0 997 (sub (B Qb5) [1, 1, 1]) (Qhw (R Qb5) 83) ⟨fr 50 [(0, .val (.agg [.str jy, .int .i64 jv, .int .i64 jo, .int .i64 jr, .int .i64 jp, .list ju aleg7])), (1, .ptr 0 1 0), (2, .lst true true 83 []), (3, .lst true vL 83 l12)], [bx 50 [(1, some [vS jy, vI jv, vI jo, vI jr, vI jp, .val (.list ju aleg7)])]], KK⟩)
noncomputable def Qf6 (lb n : Nat) (jy : LB) (jv jo jr jp : Int) (ju : Bool) (aleg7 : LL) (yI : Bool) (l14 : LL) : Option CV :=
 hold (E0 lb n 0 996 (sub (B Qb5) [1, 1, 1, 1]) (Qhw (R Qb5) 83) ⟨fr 50 [(0, .val (.agg [.str jy, .int .i64 jv, .int .i64 jo, .int .i64 jr, .int .i64 jp, .list ju aleg7])), (1, .ptr 0 1 0), (2, .lst true true 83 []), (3, .lst true yI 83 l14)], [bx 50 [(1, some [vS jy, vI jv, vI jo, vI jr, vI jp, .val (.list ju aleg7)])]], KK⟩)
noncomputable def Qir (lb n : Nat) (jy : LB) (jv jo jr jp : Int) (ju : Bool) (aleg7 : LL) (vN : Bool) (l20 : LL) : Option CV :=
 hold (E0 lb n 0 995 (sub (B Qb5) [1, 1, 1, 1, 1]) (Qhw (R Qb5) 83) ⟨fr 50 [(0, .val (.agg [.str jy, .int .i64 jv, .int .i64 jo, .int .i64 jr, .int .i64 jp, .list ju aleg7])), (1, .ptr 0 1 0), (2, .lst true true 83 []), (3, .lst true vN 83 l20)], [bx 50 [(1, some [vS jy, vI jv, vI jo, vI jr, vI jp, .val (.list ju aleg7)])]], KK⟩)
theorem Qod (lb n : Nat) (jy : LB) (jv jo jr jp : Int) (ju : Bool) (aleg7 : LL) (vN : Bool) (l20 : LL) :
 Qir lb n jy jv jo jr jp ju aleg7 vN l20 =
 bif (decide ((aleg7.length : Int) < 1)) then
 (chkO (room (l20.length + 1) 24) (
 some (.list (vN && false) (l20 ++ [[CV.int .i64 4, CV.str [108, 101, 103, 115]]]))))
 else
 (bif (decide ((aleg7.length : Int) > 6)) then
 (chkO (room (l20.length + 1) 24) (
 some (.list (vN && false) (l20 ++ [[CV.int .i64 4, CV.str [108, 101, 103, 115]]]))))
 else
 (some (.list vN l20))) := (Qad _).trans (by kernel_rfl)
theorem QnP (lb n : Nat) (jy : LB) (jv jo jr jp : Int) (ju : Bool) (aleg7 : LL) (yI : Bool) (l14 : LL) :
 Qf6 lb n jy jv jo jr jp ju aleg7 yI l14 =
 optO (C lb n Qc0 [.agg [.int .i64 jo, .int .i64 jr, .int .i64 jp]]) fun nI =>
 optO (CV.asI .i64 nI) fun jQ =>
 bif (jQ != 0) then
 (optO (C lb n Qc0 [.agg [.int .i64 jo, .int .i64 jr, .int .i64 jp]]) fun vd =>
 chkO (CV.isCell vd) (
 chkO (room (l14.length + 1) 24) (
 Qir lb n jy jv jo jr jp ju aleg7 (yI && false) (l14 ++ [[vd, CV.str [112, 101, 114, 105, 111, 100]]]))))
 else
 (Qir lb n jy jv jo jr jp ju aleg7 yI l14) := (Qad _).trans (by kernel_rfl)
theorem Qn7 (lb n : Nat) (jy : LB) (jv jo jr jp : Int) (ju : Bool) (aleg7 : LL) (vL : Bool) (l12 : LL) :
 Qii lb n jy jv jo jr jp ju aleg7 vL l12 =
 bif (decide (jv < 1)) then
 (chkO (room (l12.length + 1) 24) (
 Qf6 lb n jy jv jo jr jp ju aleg7 (vL && false) (l12 ++ [[CV.int .i64 2, CV.str [110, 117, 109, 98, 101, 114]]])))
 else
 (bif (decide (jv > 9999)) then
 (chkO (room (l12.length + 1) 24) (
 Qf6 lb n jy jv jo jr jp ju aleg7 (vL && false) (l12 ++ [[CV.int .i64 2, CV.str [110, 117, 109, 98, 101, 114]]])))
 else
 (Qf6 lb n jy jv jo jr jp ju aleg7 vL l12)) := (Qad _).trans (by kernel_rfl)
theorem Qrw (lb n : Nat) (jy : LB) (jv jo jr jp : Int) (ju : Bool) (aleg7 : LL) :
 top lb n Qb5 [.agg [.str jy, .int .i64 jv, .int .i64 jo, .int .i64 jr, .int .i64 jp, .list ju aleg7]] =
 optO (C lb n Qgr [.str jy]) fun r9 =>
 optO (CV.asB r9) fun gj =>
 bif (!gj) then
 (Qii lb n jy jv jo jr jp ju aleg7 false [[CV.int .i64 5, CV.str [99, 97, 114, 114, 105, 101, 114]]])
 else
 (Qii lb n jy jv jo jr jp ju aleg7 true []) := by kernel_rfl
noncomputable def Qbx (lb n jI : Nat) (ja : Bool) (aair2 : LL) (jb : Bool) (adis4 : LL) (bcar5 : LB) (jk jd jg jc : Int) (jf : Bool) (bleg12 : LL) (jt : Bool × LL) (y7 : Bool) (l242 : LL) (jx : Int) : Option CV :=
 hold (Qas (E0 lb n 0 993) 0 (Qag (sub (B Qah) [1, 1, 1, 0, 1, 0, 0]) ++ [8, 10, 12]) [7, 9, 11] (sub (B Qah) [1, 1, 1, 0, 1, 0, 0]) (Qaj 0 (seqK (E0 lb n 0 996) (sub (B Qah) [1, 1, 1, 0]) (sub (B Qah) [1, 1, 1, 1]) (retK Tryz.prog (R Qah) 0 (outK (Qaf Tryz.prog Qah))))) jI ⟨fr 133 [(0, .val (.agg [.list ja aair2, .list jb adis4])), (1, .val (.agg [.str bcar5, .int .i64 jk, .int .i64 jd, .int .i64 jg, .int .i64 jc, .list jf bleg12])), (2, .ptr 0 2 0), (3, .ptr 0 3 0), (4, .lst true true 83 []), (5, .lst true y7 83 l242), (6, vI jx), (15, .val (.agg [.str bcar5, .int .i64 jk, .int .i64 jd, .int .i64 jg, .int .i64 jc, .list jf bleg12])), (16, .val (.list jt.1 jt.2))], [bx 133 [(2, some [.val (.list ja aair2), .val (.list jb adis4)]), (3, some [vS bcar5, vI jk, vI jd, vI jg, vI jc, .val (.list jf bleg12)])]], KK⟩)
noncomputable def Qe7 (lb n jI : Nat) (ja : Bool) (aair2 : LL) (jb : Bool) (adis4 : LL) (bcar5 : LB) (jk jd jg jc : Int) (jf : Bool) (bleg12 : LL) (jx : Int) (s370 : LB) (jt : Bool × LL) (c363 : List CV) (jY jW jV jZ j4 j8 : CV) (y9 : Bool) (l374 : LL) : Option CV :=
 hold (E0 lb n 0 987 (sub (B Qah) [1, 1, 1, 0, 1, 0, 0, 1, 0, 0, 1, 1, 1]) (Qaj 1 (seqK (E0 lb n 0 991) (sub (B Qah) [1, 1, 1, 0, 1, 0, 0, 1, 0]) (sub (B Qah) [1, 1, 1, 0, 1, 0, 0, 1, 1]) (QbO 0 (Qag (sub (B Qah) [1, 1, 1, 0, 1, 0, 0]) ++ [8, 10, 12]) [7, 9, 11] (Qas (E0 lb n 0 993) 0 (Qag (sub (B Qah) [1, 1, 1, 0, 1, 0, 0]) ++ [8, 10, 12]) [7, 9, 11] (sub (B Qah) [1, 1, 1, 0, 1, 0, 0]) (Qaj 0 (seqK (E0 lb n 0 996) (sub (B Qah) [1, 1, 1, 0]) (sub (B Qah) [1, 1, 1, 1]) (retK Tryz.prog (R Qah) 0 (outK (Qaf Tryz.prog Qah))))) jI) (Qaj 0 (seqK (E0 lb n 0 996) (sub (B Qah) [1, 1, 1, 0]) (sub (B Qah) [1, 1, 1, 1]) (retK Tryz.prog (R Qah) 0 (outK (Qaf Tryz.prog Qah)))))))) ⟨fr 133 [(0, .val (.agg [.list ja aair2, .list jb adis4])), (1, .val (.agg [.str bcar5, .int .i64 jk, .int .i64 jd, .int .i64 jg, .int .i64 jc, .list jf bleg12])), (2, .ptr 0 2 0), (3, .ptr 0 3 0), (4, .lst true true 83 []), (5, .lst true y9 83 l374), (6, vI jx), (7, .ptr 0 7 0), (8, .val (.str (([108, 101, 103, 32] : LB) ++ s370))), (15, .val (.agg [.str bcar5, .int .i64 jk, .int .i64 jd, .int .i64 jg, .int .i64 jc, .list jf bleg12])), (16, .val (.list jt.1 jt.2)), (35, .ptr 0 3 5), (36, .val (.list jf bleg12)), (37, vI jx), (38, .cptr c363 0), (39, .val (.agg [jY, jW, jV, jZ, j4])), (40, vI jx), (41, vV j8), (42, .val (.str (([108, 101, 103, 32] : LB) ++ s370)))], [bx 133 [(2, some [.val (.list ja aair2), .val (.list jb adis4)]), (3, some [vS bcar5, vI jk, vI jd, vI jg, vI jc, .val (.list jf bleg12)]), (7, some [.val jY, .val jW, .val jV, .val jZ, .val j4])]], KK⟩)
noncomputable def Qd4 (lb n jI : Nat) (ja : Bool) (aair2 : LL) (jb : Bool) (adis4 : LL) (bcar5 : LB) (jk jd jg jc : Int) (jf : Bool) (bleg12 : LL) (jx : Int) (s370 : LB) (wv wu : CV) (jt : Bool × LL) (c363 : List CV) (jY jW jV jZ j4 j8 wp wB wn wA wR wU wT wH wQ wL wP wS wK wJ : CV) (vg : Bool) (l399 : LL) : Option CV :=
 hold (E0 lb n 0 984 (sub (B Qah) [1, 1, 1, 0, 1, 0, 0, 1, 0, 0, 1, 1, 1, 1, 1, 1]) (Qaj 1 (seqK (E0 lb n 0 991) (sub (B Qah) [1, 1, 1, 0, 1, 0, 0, 1, 0]) (sub (B Qah) [1, 1, 1, 0, 1, 0, 0, 1, 1]) (QbO 0 (Qag (sub (B Qah) [1, 1, 1, 0, 1, 0, 0]) ++ [8, 10, 12]) [7, 9, 11] (Qas (E0 lb n 0 993) 0 (Qag (sub (B Qah) [1, 1, 1, 0, 1, 0, 0]) ++ [8, 10, 12]) [7, 9, 11] (sub (B Qah) [1, 1, 1, 0, 1, 0, 0]) (Qaj 0 (seqK (E0 lb n 0 996) (sub (B Qah) [1, 1, 1, 0]) (sub (B Qah) [1, 1, 1, 1]) (retK Tryz.prog (R Qah) 0 (outK (Qaf Tryz.prog Qah))))) jI) (Qaj 0 (seqK (E0 lb n 0 996) (sub (B Qah) [1, 1, 1, 0]) (sub (B Qah) [1, 1, 1, 1]) (retK Tryz.prog (R Qah) 0 (outK (Qaf Tryz.prog Qah)))))))) ⟨fr 133 [(0, .val (.agg [.list ja aair2, .list jb adis4])), (1, .val (.agg [.str bcar5, .int .i64 jk, .int .i64 jd, .int .i64 jg, .int .i64 jc, .list jf bleg12])), (2, .ptr 0 2 0), (3, .ptr 0 3 0), (4, .lst true true 83 []), (5, .lst true vg 83 l399), (6, vI jx), (7, .ptr 0 7 0), (8, .val (.str (([108, 101, 103, 32] : LB) ++ s370))), (9, .ptr 0 9 0), (10, vV wv), (11, .ptr 0 11 0), (12, vV wu), (15, .val (.agg [.str bcar5, .int .i64 jk, .int .i64 jd, .int .i64 jg, .int .i64 jc, .list jf bleg12])), (16, .val (.list jt.1 jt.2)), (35, .ptr 0 3 5), (36, .val (.list jf bleg12)), (37, vI jx), (38, .cptr c363 0), (39, .val (.agg [jY, jW, jV, jZ, j4])), (40, vI jx), (41, vV j8), (42, .val (.str (([108, 101, 103, 32] : LB) ++ s370))), (52, vV wp), (53, .val (.agg [.list ja aair2, .list jb adis4])), (54, .ptr 0 7 0), (55, vV jY), (56, vV wp), (57, vV wB), (58, vV wv), (59, vV wn), (60, .val (.agg [.list ja aair2, .list jb adis4])), (61, .ptr 0 7 1), (62, vV jW), (63, vV wn), (64, vV wA), (65, vV wu)], [bx 133 [(2, some [.val (.list ja aair2), .val (.list jb adis4)]), (3, some [vS bcar5, vI jk, vI jd, vI jg, vI jc, .val (.list jf bleg12)]), (7, some [.val jY, .val jW, .val jV, .val jZ, .val j4]), (9, some [.val wR, .val wU, .val wT, .val wH, .val wQ]), (11, some [.val wL, .val wP, .val wS, .val wK, .val wJ])]], KK⟩)
noncomputable def Qff (lb n jI : Nat) (ja : Bool) (aair2 : LL) (jb : Bool) (adis4 : LL) (bcar5 : LB) (jk jd jg jc : Int) (jf : Bool) (bleg12 : LL) (jx : Int) (s370 : LB) (wv wu : CV) (jt : Bool × LL) (c363 : List CV) (jY jW jV jZ j4 j8 wp wB wn wA wR wU wT wH wQ wL wP wS wK wJ : CV) (y8 : Bool) (l403 : LL) : Option CV :=
 hold (E0 lb n 0 983 (sub (B Qah) [1, 1, 1, 0, 1, 0, 0, 1, 0, 0, 1, 1, 1, 1, 1, 1, 1]) (Qaj 1 (seqK (E0 lb n 0 991) (sub (B Qah) [1, 1, 1, 0, 1, 0, 0, 1, 0]) (sub (B Qah) [1, 1, 1, 0, 1, 0, 0, 1, 1]) (QbO 0 (Qag (sub (B Qah) [1, 1, 1, 0, 1, 0, 0]) ++ [8, 10, 12]) [7, 9, 11] (Qas (E0 lb n 0 993) 0 (Qag (sub (B Qah) [1, 1, 1, 0, 1, 0, 0]) ++ [8, 10, 12]) [7, 9, 11] (sub (B Qah) [1, 1, 1, 0, 1, 0, 0]) (Qaj 0 (seqK (E0 lb n 0 996) (sub (B Qah) [1, 1, 1, 0]) (sub (B Qah) [1, 1, 1, 1]) (retK Tryz.prog (R Qah) 0 (outK (Qaf Tryz.prog Qah))))) jI) (Qaj 0 (seqK (E0 lb n 0 996) (sub (B Qah) [1, 1, 1, 0]) (sub (B Qah) [1, 1, 1, 1]) (retK Tryz.prog (R Qah) 0 (outK (Qaf Tryz.prog Qah)))))))) ⟨fr 133 [(0, .val (.agg [.list ja aair2, .list jb adis4])), (1, .val (.agg [.str bcar5, .int .i64 jk, .int .i64 jd, .int .i64 jg, .int .i64 jc, .list jf bleg12])), (2, .ptr 0 2 0), (3, .ptr 0 3 0), (4, .lst true true 83 []), (5, .lst true y8 83 l403), (6, vI jx), (7, .ptr 0 7 0), (8, .val (.str (([108, 101, 103, 32] : LB) ++ s370))), (9, .ptr 0 9 0), (10, vV wv), (11, .ptr 0 11 0), (12, vV wu), (15, .val (.agg [.str bcar5, .int .i64 jk, .int .i64 jd, .int .i64 jg, .int .i64 jc, .list jf bleg12])), (16, .val (.list jt.1 jt.2)), (35, .ptr 0 3 5), (36, .val (.list jf bleg12)), (37, vI jx), (38, .cptr c363 0), (39, .val (.agg [jY, jW, jV, jZ, j4])), (40, vI jx), (41, vV j8), (42, .val (.str (([108, 101, 103, 32] : LB) ++ s370))), (52, vV wp), (53, .val (.agg [.list ja aair2, .list jb adis4])), (54, .ptr 0 7 0), (55, vV jY), (56, vV wp), (57, vV wB), (58, vV wv), (59, vV wn), (60, .val (.agg [.list ja aair2, .list jb adis4])), (61, .ptr 0 7 1), (62, vV jW), (63, vV wn), (64, vV wA), (65, vV wu)], [bx 133 [(2, some [.val (.list ja aair2), .val (.list jb adis4)]), (3, some [vS bcar5, vI jk, vI jd, vI jg, vI jc, .val (.list jf bleg12)]), (7, some [.val jY, .val jW, .val jV, .val jZ, .val j4]), (9, some [.val wR, .val wU, .val wT, .val wH, .val wQ]), (11, some [.val wL, .val wP, .val wS, .val wK, .val wJ])]], KK⟩)
theorem QmG (lb n jI : Nat) (ja : Bool) (aair2 : LL) (jb : Bool) (adis4 : LL) (bcar5 : LB) (jk jd jg jc : Int) (jf : Bool) (bleg12 : LL) (jx : Int) (s370 : LB) (wv wu : CV) (jt : Bool × LL) (c363 : List CV) (jY jW jV jZ j4 j8 wp wB wn wA wR wU wT wH wQ wL wP wS wK wJ : CV) (y8 : Bool) (l403 : LL) :
 Qff lb n jI ja aair2 jb adis4 bcar5 jk jd jg jc jf bleg12 jx s370 wv wu jt c363 jY jW jV jZ j4 j8 wp wB wn wA wR wU wT wH wQ wL wP wS wK wJ y8 l403 =
 optO (C lb n Qcz [jV]) fun g8 =>
 optO (CV.asB g8) fun nu =>
 bif nu then
 (chkO (room (l403.length + 1) 24) (
 Qbx lb n jI ja aair2 jb adis4 bcar5 jk jd jg jc jf bleg12 jt (y8 && false) (l403 ++ [[CV.int .i64 2, CV.str (([108, 101, 103, 32] : LB) ++ s370)]]) (IntKind.wrap .i64 (jx + 1))))
 else
 (optO (C lb n Qcz [jZ]) fun mu =>
 optO (CV.asB mu) fun mZ =>
 bif mZ then
 (chkO (room (l403.length + 1) 24) (
 Qbx lb n jI ja aair2 jb adis4 bcar5 jk jd jg jc jf bleg12 jt (y8 && false) (l403 ++ [[CV.int .i64 2, CV.str (([108, 101, 103, 32] : LB) ++ s370)]]) (IntKind.wrap .i64 (jx + 1))))
 else
 (Qbx lb n jI ja aair2 jb adis4 bcar5 jk jd jg jc jf bleg12 jt y8 l403 (IntKind.wrap .i64 (jx + 1)))) := (Qad _).trans (by kernel_rfl)
theorem Qm0 (lb n jI : Nat) (ja : Bool) (aair2 : LL) (jb : Bool) (adis4 : LL) (bcar5 : LB) (jk jd jg jc : Int) (jf : Bool) (bleg12 : LL) (jx : Int) (s370 : LB) (wv wu : CV) (jt : Bool × LL) (c363 : List CV) (jY jW jV jZ j4 j8 wp wB wn wA wR wU wT wH wQ wL wP wS wK wJ : CV) (vg : Bool) (l399 : LL) :
 Qd4 lb n jI ja aair2 jb adis4 bcar5 jk jd jg jc jf bleg12 jx s370 wv wu jt c363 jY jW jV jZ j4 j8 wp wB wn wA wR wU wT wH wQ wL wP wS wK wJ vg l399 =
 optO (C lb n Qa6 [.list jf bleg12, .int .i64 jx]) fun nA =>
 optO (CV.asB nA) fun mw =>
 bif mw then
 (chkO (room (l399.length + 1) 24) (
 Qff lb n jI ja aair2 jb adis4 bcar5 jk jd jg jc jf bleg12 jx s370 wv wu jt c363 jY jW jV jZ j4 j8 wp wB wn wA wR wU wT wH wQ wL wP wS wK wJ (vg && false) (l399 ++ [[CV.int .i64 15, CV.str (([108, 101, 103, 32] : LB) ++ s370)]])))
 else
 (Qff lb n jI ja aair2 jb adis4 bcar5 jk jd jg jc jf bleg12 jx s370 wv wu jt c363 jY jW jV jZ j4 j8 wp wB wn wA wR wU wT wH wQ wL wP wS wK wJ vg l399) := (Qad _).trans (by kernel_rfl)
theorem QmQ (lb n jI : Nat) (ja : Bool) (aair2 : LL) (jb : Bool) (adis4 : LL) (bcar5 : LB) (jk jd jg jc : Int) (jf : Bool) (bleg12 : LL) (jx : Int) (s370 : LB) (jt : Bool × LL) (c363 : List CV) (jY jW jV jZ j4 j8 : CV) (y9 : Bool) (l374 : LL) :
 Qe7 lb n jI ja aair2 jb adis4 bcar5 jk jd jg jc jf bleg12 jx s370 jt c363 jY jW jV jZ j4 j8 y9 l374 =
 optO (C lb n Qa9 [.agg [.list ja aair2, .list jb adis4], jY]) fun wp =>
 optO (CV.asT wp) fun mH =>
 optO (mH[0]?) fun wB =>
 optO (CV.asT wp) fun ns =>
 optO (ns[1]?) fun wv =>
 optO (CV.asA wB) fun c380 =>
 chkO (c380.length == 5) (
 optO (c380[0]?) fun wR =>
 optO (c380[1]?) fun wU =>
 optO (c380[2]?) fun wT =>
 optO (c380[3]?) fun wH =>
 optO (c380[4]?) fun wQ =>
 optO (C lb n Qa9 [.agg [.list ja aair2, .list jb adis4], jW]) fun wn =>
 optO (CV.asT wn) fun mB =>
 optO (mB[0]?) fun wA =>
 optO (CV.asT wn) fun gY =>
 optO (gY[1]?) fun wu =>
 optO (CV.asA wA) fun c391 =>
 chkO (c391.length == 5) (
 optO (c391[0]?) fun wL =>
 optO (c391[1]?) fun wP =>
 optO (c391[2]?) fun wS =>
 optO (c391[3]?) fun wK =>
 optO (c391[4]?) fun wJ =>
 optO (CV.asB wv) fun nh =>
 bif (!nh) then
 (chkO (room (l374.length + 1) 24) (
 Qd4 lb n jI ja aair2 jb adis4 bcar5 jk jd jg jc jf bleg12 jx s370 wv wu jt c363 jY jW jV jZ j4 j8 wp wB wn wA wR wU wT wH wQ wL wP wS wK wJ (y9 && false) (l374 ++ [[CV.int .i64 14, CV.str (([108, 101, 103, 32] : LB) ++ s370)]])))
 else
 (optO (CV.asB wu) fun mO =>
 bif (!mO) then
 (chkO (room (l374.length + 1) 24) (
 Qd4 lb n jI ja aair2 jb adis4 bcar5 jk jd jg jc jf bleg12 jx s370 wv wu jt c363 jY jW jV jZ j4 j8 wp wB wn wA wR wU wT wH wQ wL wP wS wK wJ (y9 && false) (l374 ++ [[CV.int .i64 14, CV.str (([108, 101, 103, 32] : LB) ++ s370)]])))
 else
 (Qd4 lb n jI ja aair2 jb adis4 bcar5 jk jd jg jc jf bleg12 jx s370 wv wu jt c363 jY jW jV jZ j4 j8 wp wB wn wA wR wU wT wH wQ wL wP wS wK wJ y9 l374)))) := (Qad _).trans (by kernel_rfl)
noncomputable def QkH (lb n : Nat) (ja : Bool) (aair2 : LL) (jb : Bool) (adis4 : LL) (bcar5 : LB) (jk jd jg jc : Int) (jf : Bool) (bleg12 : LL) (jt : Bool × LL) (kr : Bool) (v8 : LL) (wx : Int) : Option CV :=
 hold (E0 lb n 0 996 (sub (B Qah) [1, 1, 1, 1]) (retK Tryz.prog (R Qah) 0 (outK (Qaf Tryz.prog Qah))) ⟨fr 133 [(0, .val (.agg [.list ja aair2, .list jb adis4])), (1, .val (.agg [.str bcar5, .int .i64 jk, .int .i64 jd, .int .i64 jg, .int .i64 jc, .list jf bleg12])), (2, .ptr 0 2 0), (3, .ptr 0 3 0), (4, .lst true true 83 []), (5, .lst true kr 83 v8), (6, vI wx), (15, .val (.agg [.str bcar5, .int .i64 jk, .int .i64 jd, .int .i64 jg, .int .i64 jc, .list jf bleg12])), (16, .val (.list jt.1 jt.2))], [bx 133 [(2, some [.val (.list ja aair2), .val (.list jb adis4)]), (3, some [vS bcar5, vI jk, vI jd, vI jg, vI jc, .val (.list jf bleg12)])]], KK⟩)
noncomputable def QcI (lb n vD : Nat) (ja : Bool) (aair2 : LL) (jb : Bool) (adis4 : LL) (bcar5 : LB) (jk jd jg jc : Int) (jf : Bool) (bleg12 : LL) (wx : Int) (wz : CV) (jt : Bool × LL) (yO : Bool) (l429 : LL) (yl : Int) : Option CV :=
 hold (Qas (E0 lb n 0 991) 0 (Qag (sub (B Qah) [1, 1, 1, 1, 1, 0, 1, 0, 0]) ++ []) [] (sub (B Qah) [1, 1, 1, 1, 1, 0, 1, 0, 0]) (Qaj 2 (seqK (E0 lb n 0 994) (sub (B Qah) [1, 1, 1, 1, 1, 0]) (sub (B Qah) [1, 1, 1, 1, 1, 1]) (retK Tryz.prog (R Qah) 0 (outK (Qaf Tryz.prog Qah))))) vD ⟨fr 133 [(0, .val (.agg [.list ja aair2, .list jb adis4])), (1, .val (.agg [.str bcar5, .int .i64 jk, .int .i64 jd, .int .i64 jg, .int .i64 jc, .list jf bleg12])), (2, .ptr 0 2 0), (3, .ptr 0 3 0), (4, .lst true true 83 []), (5, .lst true yO 83 l429), (6, vI wx), (13, vV wz), (14, vI yl), (15, .val (.agg [.str bcar5, .int .i64 jk, .int .i64 jd, .int .i64 jg, .int .i64 jc, .list jf bleg12])), (16, .val (.list jt.1 jt.2)), (99, .ptr 0 3 2), (100, .val (.agg [.int .i64 jd, .int .i64 jg, .int .i64 jc])), (101, vV wz)], [bx 133 [(2, some [.val (.list ja aair2), .val (.list jb adis4)]), (3, some [vS bcar5, vI jk, vI jd, vI jg, vI jc, .val (.list jf bleg12)])]], KK⟩)
noncomputable def Qho (lb n : Nat) (ja : Bool) (aair2 : LL) (jb : Bool) (adis4 : LL) (bcar5 : LB) (jk jd jg jc : Int) (jf : Bool) (bleg12 : LL) (wx : Int) (wz : CV) (jt : Bool × LL) (vW : Bool) (kf : LL) (kV : Int) : Option CV :=
 hold (E0 lb n 0 994 (sub (B Qah) [1, 1, 1, 1, 1, 1]) (retK Tryz.prog (R Qah) 0 (outK (Qaf Tryz.prog Qah))) ⟨fr 133 [(0, .val (.agg [.list ja aair2, .list jb adis4])), (1, .val (.agg [.str bcar5, .int .i64 jk, .int .i64 jd, .int .i64 jg, .int .i64 jc, .list jf bleg12])), (2, .ptr 0 2 0), (3, .ptr 0 3 0), (4, .lst true true 83 []), (5, .lst true vW 83 kf), (6, vI wx), (13, vV wz), (14, vI kV), (15, .val (.agg [.str bcar5, .int .i64 jk, .int .i64 jd, .int .i64 jg, .int .i64 jc, .list jf bleg12])), (16, .val (.list jt.1 jt.2)), (99, .ptr 0 3 2), (100, .val (.agg [.int .i64 jd, .int .i64 jg, .int .i64 jc])), (101, vV wz)], [bx 133 [(2, some [.val (.list ja aair2), .val (.list jb adis4)]), (3, some [vS bcar5, vI jk, vI jd, vI jg, vI jc, .val (.list jf bleg12)])]], KK⟩)
theorem Qfp (lb n : Nat) (ja : Bool) (aair2 : LL) (jb : Bool) (adis4 : LL) (bcar5 : LB) (jk jd jg jc : Int) (jf : Bool) (bleg12 : LL) (wx : Int) (wz : CV) (jt : Bool × LL) (vW : Bool) (kf : LL) (kV : Int) :
 Qho lb n ja aair2 jb adis4 bcar5 jk jd jg jc jf bleg12 wx wz jt vW kf kV =
 some (.list vW kf) := (Qad _).trans (by kernel_rfl)
theorem Qc4 (lb n vD : Nat) (ja : Bool) (aair2 : LL) (jb : Bool) (adis4 : LL) (bcar5 : LB) (jk jd jg jc : Int) (jf : Bool) (bleg12 : LL) (wx : Int) (wz : CV) (jt : Bool × LL) (yO : Bool) (l429 : LL) (yl : Int) :
 QcI lb n (vD + 1) ja aair2 jb adis4 bcar5 jk jd jg jc jf bleg12 wx wz jt yO l429 yl =
 bif ((l429.length : Int) == 0) then
 (optO (CV.asL wz) fun ni =>
 bif (decide (yl < (ni.2.length : Int))) then
 (optO (CV.asL wz) fun mf =>
 optO (atL mf.2 yl) fun c446 =>
 chkO (c446.length == 1) (
 optO (c446[0]?) fun nr =>
 optO (C lb n QbF [.agg [.list ja aair2, .list jb adis4], .agg [.str bcar5, .int .i64 jk, .int .i64 jd, .int .i64 jg, .int .i64 jc, .list jf bleg12], nr]) fun g9 =>
 optO (C lb n Qa1 [g9]) fun nw =>
 optO (CV.asB nw) fun nz =>
 bif (!nz) then
 (optO (CV.asL wz) fun mE =>
 optO (atL mE.2 yl) fun c452 =>
 chkO (c452.length == 1) (
 optO (c452[0]?) fun mc =>
 optO (C lb n Qf5 [mc]) fun nE =>
 optO (CV.asS nE) fun s455 =>
 chkO (decide (([100, 97, 121, 32] : LB).length + s455.length ≤ 9223372036854775807)) (
 chkO (room (l429.length + 1) 24) (
 QcI lb n vD ja aair2 jb adis4 bcar5 jk jd jg jc jf bleg12 wx wz jt (yO && false) (l429 ++ [[CV.int .i64 13, CV.str (([100, 97, 121, 32] : LB) ++ s455)]]) (IntKind.wrap .i64 (yl + 1))))))
 else
 (QcI lb n vD ja aair2 jb adis4 bcar5 jk jd jg jc jf bleg12 wx wz jt yO l429 (IntKind.wrap .i64 (yl + 1)))))
 else
 (Qho lb n ja aair2 jb adis4 bcar5 jk jd jg jc jf bleg12 wx wz jt yO l429 yl))
 else
 (Qho lb n ja aair2 jb adis4 bcar5 jk jd jg jc jf bleg12 wx wz jt yO l429 yl) := (Qad _).trans (by kernel_rfl)
theorem Qnt (lb n : Nat) (ja : Bool) (aair2 : LL) (jb : Bool) (adis4 : LL) (bcar5 : LB) (jk jd jg jc : Int) (jf : Bool) (bleg12 : LL) (jt : Bool × LL) (kr : Bool) (v8 : LL) (wx : Int) :
 QkH lb n ja aair2 jb adis4 bcar5 jk jd jg jc jf bleg12 jt kr v8 wx =
 optO (C lb n Qbk [.agg [.int .i64 jd, .int .i64 jg, .int .i64 jc]]) fun wz =>
 QcI lb n n ja aair2 jb adis4 bcar5 jk jd jg jc jf bleg12 wx wz jt kr v8 0 := (Qad _).trans (by kernel_rfl)
theorem QgD (lb n jI : Nat) (ja : Bool) (aair2 : LL) (jb : Bool) (adis4 : LL) (bcar5 : LB) (jk jd jg jc : Int) (jf : Bool) (bleg12 : LL) (jt : Bool × LL) (y7 : Bool) (l242 : LL) (jx : Int) :
 Qbx lb n (jI + 1) ja aair2 jb adis4 bcar5 jk jd jg jc jf bleg12 jt y7 l242 jx =
 bif (decide (jx < (bleg12.length : Int))) then
 (optO (atL bleg12 jx) fun c363 =>
 chkO (c363.length == 5) (
 optO (c363[0]?) fun jY =>
 optO (c363[1]?) fun jW =>
 optO (c363[2]?) fun jV =>
 optO (c363[3]?) fun jZ =>
 optO (c363[4]?) fun j4 =>
 optO (C lb n QcQ [.int .i64 jx]) fun j8 =>
 optO (CV.asS j8) fun s370 =>
 chkO (decide (([108, 101, 103, 32] : LB).length + s370.length ≤ 9223372036854775807)) (
 optO (C lb n QbG [j4, .int .i64 3, .int .i64 3]) fun m7 =>
 optO (CV.asB m7) fun mz =>
 bif (!mz) then
 (chkO (room (l242.length + 1) 24) (
 Qe7 lb n jI ja aair2 jb adis4 bcar5 jk jd jg jc jf bleg12 jx s370 jt c363 jY jW jV jZ j4 j8 (y7 && false) (l242 ++ [[CV.int .i64 5, CV.str (([108, 101, 103, 32] : LB) ++ s370)]])))
 else
 (Qe7 lb n jI ja aair2 jb adis4 bcar5 jk jd jg jc jf bleg12 jx s370 jt c363 jY jW jV jZ j4 j8 y7 l242))))
 else
 (QkH lb n ja aair2 jb adis4 bcar5 jk jd jg jc jf bleg12 jt y7 l242 jx) := (Qad _).trans (by kernel_rfl)
theorem Qqm (lb n : Nat) (ja : Bool) (aair2 : LL) (jb : Bool) (adis4 : LL) (bcar5 : LB) (jk jd jg jc : Int) (jf : Bool) (bleg12 : LL) :
 top lb n Qah [.agg [.list ja aair2, .list jb adis4], .agg [.str bcar5, .int .i64 jk, .int .i64 jd, .int .i64 jg, .int .i64 jc, .list jf bleg12]] =
 optO (C lb n Qb5 [.agg [.str bcar5, .int .i64 jk, .int .i64 jd, .int .i64 jg, .int .i64 jc, .list jf bleg12]]) fun vo =>
 optO (CV.asL vo) fun jt =>
 bif (decide ((bleg12.length : Int) < 1)) then
 (some (.list jt.1 jt.2))
 else
 (bif (decide ((bleg12.length : Int) > 6)) then
 (some (.list jt.1 jt.2))
 else
 (Qbx lb n n ja aair2 jb adis4 bcar5 jk jd jg jc jf bleg12 jt jt.1 jt.2 0)) := by kernel_rfl
theorem Qqa (lb n : Nat) (a1 : Int) :
 top lb n Qf5 [.int .i64 a1] =
 optO (C lb n QbR [.int .i64 a1]) fun r2 =>
 optO (CV.asT r2) fun t3 =>
 optO (t3[0]?) fun x4 =>
 optO (CV.asT r2) fun t5 =>
 optO (t5[1]?) fun x6 =>
 optO (CV.asT r2) fun t7 =>
 optO (t7[2]?) fun x9 =>
 optO (CV.asI .i64 x4) fun yk =>
 bif (yk == 0) then
 (some (.str []))
 else
 (optO (CV.asI .i64 x4) fun o5 =>
 optO (C lb n QeW [.int .i64 (IntKind.wrap .i64 (Int.tdiv o5 100))]) fun wY =>
 optO (CV.asI .i64 x4) fun yn =>
 optO (C lb n QeW [.int .i64 (Int.tmod yn 100)]) fun oZ =>
 optO (CV.asS wY) fun s15 =>
 optO (CV.asS oZ) fun s17 =>
 chkO (decide (s15.length + s17.length ≤ 9223372036854775807)) (
 chkO (decide ((s15 ++ s17).length + [45].length ≤ 9223372036854775807)) (
 optO (C lb n QeW [x6]) fun vd =>
 optO (CV.asS vd) fun s19 =>
 chkO (decide (((s15 ++ s17) ++ [45]).length + s19.length ≤ 9223372036854775807)) (
 chkO (decide ((((s15 ++ s17) ++ [45]) ++ s19).length + [45].length ≤ 9223372036854775807)) (
 optO (C lb n QeW [x9]) fun pP =>
 optO (CV.asS pP) fun s21 =>
 chkO (decide (((((s15 ++ s17) ++ [45]) ++ s19) ++ [45]).length + s21.length ≤ 9223372036854775807)) (
 some (.str (((((s15 ++ s17) ++ [45]) ++ s19) ++ [45]) ++ s21)))))))) := by kernel_rfl
noncomputable def Qez (lb n yG : Nat) (jQ wG yb : Int) : Option CV :=
 hold (Qas (E0 lb n 0 994) 0 (Qag (sub (B QbR) [1, 1, 1, 0, 0, 0]) ++ []) [] (sub (B QbR) [1, 1, 1, 0, 0, 0]) (Qaj 0 (seqK (E0 lb n 0 996) (sub (B QbR) [1, 1, 1, 0]) (sub (B QbR) [1, 1, 1, 1]) (retK Tryz.prog (R QbR) 0 (outK (Qaf Tryz.prog QbR))))) yG ⟨fr 33 [(0, vI jQ), (2, vI 0), (3, vI 0), (4, vI 0), (5, vI wG), (6, vI yb)], [bx 33 []], KK⟩)
noncomputable def QlB (lb n : Nat) (j5 vc wl : Int) : Option CV :=
 hold (E0 lb n 0 996 (sub (B QbR) [1, 1, 1, 1]) (retK Tryz.prog (R QbR) 0 (outK (Qaf Tryz.prog QbR))) ⟨fr 33 [(0, vI j5), (2, vI 0), (3, vI 0), (4, vI 0), (5, vI vc), (6, vI wl)], [bx 33 []], KK⟩)
theorem Qof (lb n : Nat) (j5 vc wl : Int) :
 QlB lb n j5 vc wl =
 some (.tup [.int .i64 vc, .int .i64 wl, .int .i64 (IntKind.wrap .i64 (j5 + 1))]) := (Qad _).trans (by kernel_rfl)
theorem QeJ (lb n yG : Nat) (jQ wG yb : Int) :
 Qez lb n (yG + 1) jQ wG yb =
 optO (C lb n Qb6 [.int .i64 wG, .int .i64 yb]) fun kB =>
 optO (CV.asI .i64 kB) fun yr =>
 bif (decide (jQ ≥ yr)) then
 (optO (C lb n Qb6 [.int .i64 wG, .int .i64 yb]) fun vC =>
 optO (CV.asI .i64 vC) fun vG =>
 bif ((IntKind.wrap .i64 (yb + 1)) == 13) then
 (Qez lb n yG  (IntKind.wrap .i64 (jQ - vG)) (IntKind.wrap .i64 (wG + 1)) 1)
 else
 (Qez lb n yG  (IntKind.wrap .i64 (jQ - vG)) wG (IntKind.wrap .i64 (yb + 1))))
 else
 (QlB lb n  jQ wG yb) := (Qad _).trans (by kernel_rfl)
theorem Qrd (lb n : Nat) (a1 : Int) :
 top lb n QbR [.int .i64 a1] =
 bif (decide (a1 < 0)) then
 (some (.tup [.int .i64 0, .int .i64 0, .int .i64 0]))
 else
 (bif (decide (a1 ≥ 36525)) then
 (some (.tup [.int .i64 0, .int .i64 0, .int .i64 0]))
 else
 (Qez lb n n  a1 2000 1)) := by kernel_rfl
theorem QsO (lb n : Nat) (a1 : Int) :
 top lb n QeW [.int .i64 a1] =
 optO (bytesOf [[CV.int .u8 (IntKind.wrap .u8 (IntKind.wrap .i64 (48 + (IntKind.wrap .i64 (Int.tdiv a1 10)))))], [CV.int .u8 (IntKind.wrap .u8 (IntKind.wrap .i64 (48 + (Int.tmod a1 10))))]]) fun s2 =>
 some (.str s2) := by kernel_rfl
noncomputable def Qdy (lb n : Nat) (a1 b2 : Int) (b3 : Bool) : Option CV :=
 hold (E0 lb n 0 995 (sub (B Qb6) [1, 0, 1, 0, 1]) (Qaj 0 (seqK (E0 lb n 0 998) (sub (B Qb6) [1, 0]) (sub (B Qb6) [1, 1]) (retK Tryz.prog (R Qb6) 0 (outK (Qaf Tryz.prog Qb6))))) ⟨fr 16 [(0, vI a1), (1, vI b2), (4, vI 0), (5, vI b2), (6, vB b3)], [bx 16 []], KK⟩)
theorem Qmr (lb n : Nat) (a1 b2 : Int) (b3 : Bool) :
 Qdy lb n a1 b2 b3 =
 bif b3 then
 (some (.int .i64 30))
 else
 (bif (b2 == 2) then
 (bif ((Int.tmod a1 4) == 0) then
 (some (.int .i64 29))
 else
 (some (.int .i64 28)))
 else
 (some (.int .i64 31))) := (Qad _).trans (by kernel_rfl)
theorem Qpr (lb n : Nat) (a1 b2 : Int) :
 top lb n Qb6 [.int .i64 a1, .int .i64 b2] =
 bif (b2 == 4) then
 (Qdy lb n a1 b2 (b2 == 4))
 else
 (bif (b2 == 6) then
 (Qdy lb n a1 b2 (b2 == 6))
 else
 (bif (b2 == 9) then
 (Qdy lb n a1 b2 (b2 == 9))
 else
 (Qdy lb n a1 b2 (b2 == 11)))) := by kernel_rfl
end Go.Proofs
