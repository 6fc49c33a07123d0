/- Equations of functions, printed by program. Conditions: none. -/
import Derived.Test.YtdcpdknginpohaaGreatDoorEv
namespace Go.Proofs
open Go.Am
set_option maxRecDepth 100000
set_option linter.unusedVariables false
noncomputable def r06_Check_L1 :=
 fun lb n (kv : Nat) (ja : Bool) (aair2 : LL) (jb : Bool) (adis4 : LL) (nh : Bool) (np : LL) y7 =>
 hold (Qas (E0 lb n 0 994) 0 (Qad (sub (B Qam) [1, 1, 0, 1, 0, 0]) ++ [5, 6, 6]) [] (sub (B Qam) [1, 1, 0, 1, 0, 0]) (Qaj 0 (seqK (E0 lb n 0 997) (sub (B Qam) [1, 1, 0]) (sub (B Qam) [1, 1, 1]) (retK Tryz.prog (R Qam) 0 (outK (Qag Tryz.prog Qam))))) kv ⟨fr 65 [(0, .val (.agg [.list ja aair2, .list jb adis4])), (1, .ptr 0 1 0), (2, .lst true true 83 []), (3, .lst true nh 83 np), (4, vI y7)], [bx 65 [(1, some [.val (.list ja aair2), .val (.list jb adis4)])]], KK⟩)
noncomputable def QgY (lb n pj kv : Nat) (ja : Bool) (aair2 : LL) (jb : Bool) (adis4 : LL) (y7 : Int) (oq : CV) (nj : Bool) (l65 : LL) (gG : Int) : Option CV :=
 hold (Qas (E0 lb n 0 987) 0 (Qad (sub (B Qam) [1, 1, 0, 1, 0, 0, 1, 0, 0, 1, 1, 0, 0]) ++ []) [] (sub (B Qam) [1, 1, 0, 1, 0, 0, 1, 0, 0, 1, 1, 0, 0]) (Qaj 2 (Qaj 1 (seqK (E0 lb n 0 992) (sub (B Qam) [1, 1, 0, 1, 0, 0, 1, 0]) (sub (B Qam) [1, 1, 0, 1, 0, 0, 1, 1]) (Qbs 0 (Qad (sub (B Qam) [1, 1, 0, 1, 0, 0]) ++ [5, 6, 6]) [] (Qas (E0 lb n 0 994) 0 (Qad (sub (B Qam) [1, 1, 0, 1, 0, 0]) ++ [5, 6, 6]) [] (sub (B Qam) [1, 1, 0, 1, 0, 0]) (Qaj 0 (seqK (E0 lb n 0 997) (sub (B Qam) [1, 1, 0]) (sub (B Qam) [1, 1, 1]) (retK Tryz.prog (R Qam) 0 (outK (Qag Tryz.prog Qam))))) kv) (Qaj 0 (seqK (E0 lb n 0 997) (sub (B Qam) [1, 1, 0]) (sub (B Qam) [1, 1, 1]) (retK Tryz.prog (R Qam) 0 (outK (Qag Tryz.prog Qam))))))))) pj ⟨fr 65 [(0, .val (.agg [.list ja aair2, .list jb adis4])), (1, .ptr 0 1 0), (2, .lst true true 83 []), (3, .lst true nj 83 l65), (4, vI y7), (5, vV oq), (6, vI gG), (17, .val (.agg [.list ja aair2, .list jb adis4])), (18, vI y7), (19, vV oq)], [bx 65 [(1, some [.val (.list ja aair2), .val (.list jb adis4)])]], KK⟩)
noncomputable def Qmo (lb n kv : Nat) (ja : Bool) (aair2 : LL) (jb : Bool) (adis4 : LL) (y7 : Int) (y0 : Bool) (pB : LL) (pL : CV) (qr : Int) : Option CV :=
 hold (E0 lb n 0 992 (sub (B Qam) [1, 1, 0, 1, 0, 0, 1, 1]) (Qbs 0 (Qad (sub (B Qam) [1, 1, 0, 1, 0, 0]) ++ [5, 6, 6]) [] (Qas (E0 lb n 0 994) 0 (Qad (sub (B Qam) [1, 1, 0, 1, 0, 0]) ++ [5, 6, 6]) [] (sub (B Qam) [1, 1, 0, 1, 0, 0]) (Qaj 0 (seqK (E0 lb n 0 997) (sub (B Qam) [1, 1, 0]) (sub (B Qam) [1, 1, 1]) (retK Tryz.prog (R Qam) 0 (outK (Qag Tryz.prog Qam))))) kv) (Qaj 0 (seqK (E0 lb n 0 997) (sub (B Qam) [1, 1, 0]) (sub (B Qam) [1, 1, 1]) (retK Tryz.prog (R Qam) 0 (outK (Qag Tryz.prog Qam)))))) ⟨fr 65 [(0, .val (.agg [.list ja aair2, .list jb adis4])), (1, .ptr 0 1 0), (2, .lst true true 83 []), (3, .lst true y0 83 pB), (4, vI y7), (5, vV pL), (6, vI qr)], [bx 65 [(1, some [.val (.list ja aair2), .val (.list jb adis4)])]], KK⟩)
theorem Qqs (lb n kv : Nat) (ja : Bool) (aair2 : LL) (jb : Bool) (adis4 : LL) (y7 : Int) (y0 : Bool) (pB : LL) (pL : CV) (qr : Int) :
 Qmo lb n kv ja aair2 jb adis4 y7 y0 pB pL qr =
 r06_Check_L1 lb n kv ja aair2 jb adis4 y0 pB (IntKind.wrap .i64 (y7 + 1)) := (Qaf _).trans (by kernel_rfl)
theorem QiD (lb n pj kv : Nat) (ja : Bool) (aair2 : LL) (jb : Bool) (adis4 : LL) (y7 : Int) (oq : CV) (nj : Bool) (l65 : LL) (gG : Int) :
 QgY lb n (pj + 1) kv ja aair2 jb adis4 y7 oq nj l65 gG =
 optO (CV.asL oq) fun lU =>
 bif (decide (gG < (lU.2.length : Int))) then
 (optO (CV.asL oq) fun ls =>
 optO (atL ls.2 gG) fun c76 =>
 chkO (c76.length == 1) (
 optO (c76[0]?) fun qw =>
 optO (C lb n QdS [.int .i64 y7]) fun zw =>
 optO (CV.asS zw) fun s79 =>
 chkO (decide (([97, 105, 114, 112, 111, 114, 116, 32] : LB).length + s79.length ≤ 9223372036854775807)) (
 chkO (CV.isCell qw) (
 chkO (room (l65.length + 1) 24) (
 QgY lb n pj kv ja aair2 jb adis4 y7 oq (nj && false) (l65 ++ [[qw, CV.str (([97, 105, 114, 112, 111, 114, 116, 32] : LB) ++ s79)]]) (IntKind.wrap .i64 (gG + 1)))))))
 else
 (Qmo lb n kv ja aair2 jb adis4 y7 nj l65 oq gG) := (Qaf _).trans (by kernel_rfl)
noncomputable def QmY (lb n : Nat) (ja : Bool) (aair2 : LL) (jb : Bool) (adis4 : LL) (oo : Bool) (l85 : LL) (yQ : Int) : Option CV :=
 hold (E0 lb n 0 997 (sub (B Qam) [1, 1, 1]) (retK Tryz.prog (R Qam) 0 (outK (Qag Tryz.prog Qam))) ⟨fr 65 [(0, .val (.agg [.list ja aair2, .list jb adis4])), (1, .ptr 0 1 0), (2, .lst true true 83 []), (3, .lst true oo 83 l85), (4, vI yQ)], [bx 65 [(1, some [.val (.list ja aair2), .val (.list jb adis4)])]], KK⟩)
noncomputable def Qez (lb n vT : Nat) (ja : Bool) (aair2 : LL) (jb : Bool) (adis4 : LL) (yQ : Int) (ku : Bool) (ky : LL) (i111 : Int) : Option CV :=
 hold (Qas (E0 lb n 0 993) 0 (Qad (sub (B Qam) [1, 1, 1, 0, 1, 0, 0]) ++ [8, 9, 9]) [] (sub (B Qam) [1, 1, 1, 0, 1, 0, 0]) (Qaj 4 (seqK (E0 lb n 0 996) (sub (B Qam) [1, 1, 1, 0]) (sub (B Qam) [1, 1, 1, 1]) (retK Tryz.prog (R Qam) 0 (outK (Qag Tryz.prog Qam))))) vT ⟨fr 65 [(0, .val (.agg [.list ja aair2, .list jb adis4])), (1, .ptr 0 1 0), (2, .lst true true 83 []), (3, .lst true ku 83 ky), (4, vI yQ), (7, vI i111)], [bx 65 [(1, some [.val (.list ja aair2), .val (.list jb adis4)])]], KK⟩)
noncomputable def QgV (lb n mI vT : Nat) (ja : Bool) (aair2 : LL) (jb : Bool) (adis4 : LL) (yQ i111 : Int) (kH : CV) (gn : Bool) (l143 : LL) (ow : Int) : Option CV :=
 hold (Qas (E0 lb n 0 986) 0 (Qad (sub (B Qam) [1, 1, 1, 0, 1, 0, 0, 1, 0, 0, 1, 1, 0, 0]) ++ []) [] (sub (B Qam) [1, 1, 1, 0, 1, 0, 0, 1, 0, 0, 1, 1, 0, 0]) (Qaj 6 (Qaj 5 (seqK (E0 lb n 0 991) (sub (B Qam) [1, 1, 1, 0, 1, 0, 0, 1, 0]) (sub (B Qam) [1, 1, 1, 0, 1, 0, 0, 1, 1]) (Qbs 0 (Qad (sub (B Qam) [1, 1, 1, 0, 1, 0, 0]) ++ [8, 9, 9]) [] (Qas (E0 lb n 0 993) 0 (Qad (sub (B Qam) [1, 1, 1, 0, 1, 0, 0]) ++ [8, 9, 9]) [] (sub (B Qam) [1, 1, 1, 0, 1, 0, 0]) (Qaj 4 (seqK (E0 lb n 0 996) (sub (B Qam) [1, 1, 1, 0]) (sub (B Qam) [1, 1, 1, 1]) (retK Tryz.prog (R Qam) 0 (outK (Qag Tryz.prog Qam))))) vT) (Qaj 4 (seqK (E0 lb n 0 996) (sub (B Qam) [1, 1, 1, 0]) (sub (B Qam) [1, 1, 1, 1]) (retK Tryz.prog (R Qam) 0 (outK (Qag Tryz.prog Qam))))))))) mI ⟨fr 65 [(0, .val (.agg [.list ja aair2, .list jb adis4])), (1, .ptr 0 1 0), (2, .lst true true 83 []), (3, .lst true gn 83 l143), (4, vI yQ), (7, vI i111), (8, vV kH), (9, vI ow), (44, .val (.agg [.list ja aair2, .list jb adis4])), (45, vI i111), (46, vV kH)], [bx 65 [(1, some [.val (.list ja aair2), .val (.list jb adis4)])]], KK⟩)
noncomputable def Qm0 (lb n vT : Nat) (ja : Bool) (aair2 : LL) (jb : Bool) (adis4 : LL) (yQ i111 : Int) (mB : Bool) (mO : LL) (nP : CV) (nS : Int) : Option CV :=
 hold (E0 lb n 0 991 (sub (B Qam) [1, 1, 1, 0, 1, 0, 0, 1, 1]) (Qbs 0 (Qad (sub (B Qam) [1, 1, 1, 0, 1, 0, 0]) ++ [8, 9, 9]) [] (Qas (E0 lb n 0 993) 0 (Qad (sub (B Qam) [1, 1, 1, 0, 1, 0, 0]) ++ [8, 9, 9]) [] (sub (B Qam) [1, 1, 1, 0, 1, 0, 0]) (Qaj 4 (seqK (E0 lb n 0 996) (sub (B Qam) [1, 1, 1, 0]) (sub (B Qam) [1, 1, 1, 1]) (retK Tryz.prog (R Qam) 0 (outK (Qag Tryz.prog Qam))))) vT) (Qaj 4 (seqK (E0 lb n 0 996) (sub (B Qam) [1, 1, 1, 0]) (sub (B Qam) [1, 1, 1, 1]) (retK Tryz.prog (R Qam) 0 (outK (Qag Tryz.prog Qam)))))) ⟨fr 65 [(0, .val (.agg [.list ja aair2, .list jb adis4])), (1, .ptr 0 1 0), (2, .lst true true 83 []), (3, .lst true mB 83 mO), (4, vI yQ), (7, vI i111), (8, vV nP), (9, vI nS)], [bx 65 [(1, some [.val (.list ja aair2), .val (.list jb adis4)])]], KK⟩)
theorem Qqb (lb n vT : Nat) (ja : Bool) (aair2 : LL) (jb : Bool) (adis4 : LL) (yQ i111 : Int) (mB : Bool) (mO : LL) (nP : CV) (nS : Int) :
 Qm0 lb n vT ja aair2 jb adis4 yQ i111 mB mO nP nS =
 Qez lb n vT ja aair2 jb adis4 yQ mB mO (IntKind.wrap .i64 (i111 + 1)) := (Qaf _).trans (by kernel_rfl)
theorem Qiy (lb n mI vT : Nat) (ja : Bool) (aair2 : LL) (jb : Bool) (adis4 : LL) (yQ i111 : Int) (kH : CV) (gn : Bool) (l143 : LL) (ow : Int) :
 QgV lb n (mI + 1) vT ja aair2 jb adis4 yQ i111 kH gn l143 ow =
 optO (CV.asL kH) fun sm =>
 bif (decide (ow < (sm.2.length : Int))) then
 (optO (CV.asL kH) fun zf =>
 optO (atL zf.2 ow) fun c154 =>
 chkO (c154.length == 1) (
 optO (c154[0]?) fun pX =>
 optO (C lb n QdS [.int .i64 i111]) fun qI =>
 optO (CV.asS qI) fun s157 =>
 chkO (decide (([100, 105, 115, 116, 97, 110, 99, 101, 32] : LB).length + s157.length ≤ 9223372036854775807)) (
 chkO (CV.isCell pX) (
 chkO (room (l143.length + 1) 24) (
 QgV lb n mI vT ja aair2 jb adis4 yQ i111 kH (gn && false) (l143 ++ [[pX, CV.str (([100, 105, 115, 116, 97, 110, 99, 101, 32] : LB) ++ s157)]]) (IntKind.wrap .i64 (ow + 1)))))))
 else
 (Qm0 lb n vT ja aair2 jb adis4 yQ i111 gn l143 kH ow) := (Qaf _).trans (by kernel_rfl)
noncomputable def Qnv (lb n : Nat) (ja : Bool) (aair2 : LL) (jb : Bool) (adis4 : LL) (yQ : Int) (mg : Bool) (mN : LL) (nC : Int) : Option CV :=
 hold (E0 lb n 0 996 (sub (B Qam) [1, 1, 1, 1]) (retK Tryz.prog (R Qam) 0 (outK (Qag Tryz.prog Qam))) ⟨fr 65 [(0, .val (.agg [.list ja aair2, .list jb adis4])), (1, .ptr 0 1 0), (2, .lst true true 83 []), (3, .lst true mg 83 mN), (4, vI yQ), (7, vI nC)], [bx 65 [(1, some [.val (.list ja aair2), .val (.list jb adis4)])]], KK⟩)
theorem Qqj (lb n : Nat) (ja : Bool) (aair2 : LL) (jb : Bool) (adis4 : LL) (yQ : Int) (mg : Bool) (mN : LL) (nC : Int) :
 Qnv lb n ja aair2 jb adis4 yQ mg mN nC =
 some (.list mg mN) := (Qaf _).trans (by kernel_rfl)
theorem QiH (lb n vT : Nat) (ja : Bool) (aair2 : LL) (jb : Bool) (adis4 : LL) (yQ : Int) (ku : Bool) (ky : LL) (i111 : Int) :
 Qez lb n (vT + 1) ja aair2 jb adis4 yQ ku ky i111 =
 bif (decide (i111 < (adis4.length : Int))) then
 (optO (C lb n Qa4 [.agg [.list ja aair2, .list jb adis4], .int .i64 i111]) fun kH =>
 QgV lb n n vT ja aair2 jb adis4 yQ i111 kH ku ky 0)
 else
 (Qnv lb n ja aair2 jb adis4 yQ ku ky i111) := (Qaf _).trans (by kernel_rfl)
theorem Qqg (lb n : Nat) (ja : Bool) (aair2 : LL) (jb : Bool) (adis4 : LL) (oo : Bool) (l85 : LL) (yQ : Int) :
 QmY lb n ja aair2 jb adis4 oo l85 yQ =
 Qez lb n n ja aair2 jb adis4 yQ oo l85 0 := (Qaf _).trans (by kernel_rfl)
theorem QiK (lb n kv : Nat) (ja : Bool) (aair2 : LL) (jb : Bool) (adis4 : LL) (nh : Bool) (np : LL) (y7 : Int) :
 r06_Check_L1 lb n (kv + 1) ja aair2 jb adis4 nh np y7 =
 bif (decide (y7 < (aair2.length : Int))) then
 (optO (C lb n QaZ [.agg [.list ja aair2, .list jb adis4], .int .i64 y7]) fun oq =>
 QgY lb n n kv ja aair2 jb adis4 y7 oq nh np 0)
 else
 (QmY lb n ja aair2 jb adis4 nh np y7) := (Qaf _).trans (by kernel_rfl)
theorem Qub (lb n : Nat) (ja : Bool) (aair2 : LL) (jb : Bool) (adis4 : LL) :
 top lb n Qam [.agg [.list ja aair2, .list jb adis4]] =
 r06_Check_L1 lb n n ja aair2 jb adis4 true [] 0 := by kernel_rfl
noncomputable def QdI (lb n : Nat) (ja : Bool) (aair2 : LL) (jb : Bool) (adis4 : LL) (b5 : Int) (c6 : List CV) (x7 x9 jR wn wm : CV) (yN : Bool) (l17 : LL) : Option CV :=
 hold (E0 lb n 0 996 (sub (B QaZ) [1, 1, 1, 1]) (retK Tryz.prog (R QaZ) 0 (outK (Qag Tryz.prog QaZ))) ⟨fr 93 [(0, .val (.agg [.list ja aair2, .list jb adis4])), (1, vI b5), (2, .ptr 0 2 0), (4, .lst true true 36 []), (5, .lst true yN 36 l17), (6, .ptr 0 6 0), (11, .ptr 0 2 0), (12, .val (.list ja aair2)), (13, vI b5), (14, .cptr c6 0), (15, .val (.agg [x7, x9, jR, wn, wm]))], [bx 93 [(2, some [.val (.list ja aair2), .val (.list jb adis4)]), (6, some [.val x7, .val x9, .val jR, .val wn, .val wm])]], KK⟩)
noncomputable def Qcj (lb n oN : Nat) (ja : Bool) (aair2 : LL) (jb : Bool) (adis4 : LL) (b5 : Int) (yN : Bool) (l17 : LL) (c6 : List CV) (x7 x9 jR wn wm : CV) (k4 gd : Bool) (vz : Int) : Option CV :=
 hold (Qas (E0 lb n 0 991) 0 (Qad (sub (B QaZ) [1, 1, 1, 1, 1, 0, 1, 0, 0]) ++ []) [] (sub (B QaZ) [1, 1, 1, 1, 1, 0, 1, 0, 0]) (Qaj 0 (seqK (E0 lb n 0 994) (sub (B QaZ) [1, 1, 1, 1, 1, 0]) (sub (B QaZ) [1, 1, 1, 1, 1, 1]) (retK Tryz.prog (R QaZ) 0 (outK (Qag Tryz.prog QaZ))))) oN ⟨fr 93 [(0, .val (.agg [.list ja aair2, .list jb adis4])), (1, vI b5), (2, .ptr 0 2 0), (4, .lst true true 36 []), (5, .lst true yN 36 l17), (6, .ptr 0 6 0), (7, vB k4), (8, vB gd), (9, vI vz), (11, .ptr 0 2 0), (12, .val (.list ja aair2)), (13, vI b5), (14, .cptr c6 0), (15, .val (.agg [x7, x9, jR, wn, wm]))], [bx 93 [(2, some [.val (.list ja aair2), .val (.list jb adis4)]), (6, some [.val x7, .val x9, .val jR, .val wn, .val wm])]], KK⟩)
noncomputable def QfX (lb n : Nat) (ja : Bool) (aair2 : LL) (jb : Bool) (adis4 : LL) (b5 : Int) (yN : Bool) (l17 : LL) (c6 : List CV) (x7 x9 jR wn wm : CV) (yZ y0 : Bool) (vZ : Int) : Option CV :=
 hold (E0 lb n 0 994 (sub (B QaZ) [1, 1, 1, 1, 1, 1]) (retK Tryz.prog (R QaZ) 0 (outK (Qag Tryz.prog QaZ))) ⟨fr 93 [(0, .val (.agg [.list ja aair2, .list jb adis4])), (1, vI b5), (2, .ptr 0 2 0), (4, .lst true true 36 []), (5, .lst true yN 36 l17), (6, .ptr 0 6 0), (7, vB yZ), (8, vB y0), (9, vI vZ), (11, .ptr 0 2 0), (12, .val (.list ja aair2)), (13, vI b5), (14, .cptr c6 0), (15, .val (.agg [x7, x9, jR, wn, wm]))], [bx 93 [(2, some [.val (.list ja aair2), .val (.list jb adis4)]), (6, some [.val x7, .val x9, .val jR, .val wn, .val wm])]], KK⟩)
noncomputable def QhM (lb n : Nat) (ja : Bool) (aair2 : LL) (jb : Bool) (adis4 : LL) (b5 : Int) (yZ y0 : Bool) (vZ : Int) (c6 : List CV) (x7 x9 jR wn wm : CV) (nf : Bool) (l83 : LL) : Option CV :=
 hold (E0 lb n 0 993 (sub (B QaZ) [1, 1, 1, 1, 1, 1, 1]) (retK Tryz.prog (R QaZ) 0 (outK (Qag Tryz.prog QaZ))) ⟨fr 93 [(0, .val (.agg [.list ja aair2, .list jb adis4])), (1, vI b5), (2, .ptr 0 2 0), (4, .lst true true 36 []), (5, .lst true nf 36 l83), (6, .ptr 0 6 0), (7, vB yZ), (8, vB y0), (9, vI vZ), (11, .ptr 0 2 0), (12, .val (.list ja aair2)), (13, vI b5), (14, .cptr c6 0), (15, .val (.agg [x7, x9, jR, wn, wm]))], [bx 93 [(2, some [.val (.list ja aair2), .val (.list jb adis4)]), (6, some [.val x7, .val x9, .val jR, .val wn, .val wm])]], KK⟩)
noncomputable def QfQ (lb n : Nat) (ja : Bool) (aair2 : LL) (jb : Bool) (adis4 : LL) (b5 : Int) (yZ y0 : Bool) (vZ : Int) (c6 : List CV) (x7 x9 jR wn wm : CV) (oo : Bool) (l85 : LL) : Option CV :=
 hold (E0 lb n 0 992 (sub (B QaZ) [1, 1, 1, 1, 1, 1, 1, 1]) (retK Tryz.prog (R QaZ) 0 (outK (Qag Tryz.prog QaZ))) ⟨fr 93 [(0, .val (.agg [.list ja aair2, .list jb adis4])), (1, vI b5), (2, .ptr 0 2 0), (4, .lst true true 36 []), (5, .lst true oo 36 l85), (6, .ptr 0 6 0), (7, vB yZ), (8, vB y0), (9, vI vZ), (11, .ptr 0 2 0), (12, .val (.list ja aair2)), (13, vI b5), (14, .cptr c6 0), (15, .val (.agg [x7, x9, jR, wn, wm]))], [bx 93 [(2, some [.val (.list ja aair2), .val (.list jb adis4)]), (6, some [.val x7, .val x9, .val jR, .val wn, .val wm])]], KK⟩)
theorem QnR (lb n : Nat) (ja : Bool) (aair2 : LL) (jb : Bool) (adis4 : LL) (b5 : Int) (yZ y0 : Bool) (vZ : Int) (c6 : List CV) (x7 x9 jR wn wm : CV) (oo : Bool) (l85 : LL) :
 QfQ lb n ja aair2 jb adis4 b5 yZ y0 vZ c6 x7 x9 jR wn wm oo l85 =
 optO (C lb n QbO [.agg [wn, wm]]) fun qn =>
 optO (CV.asI .i64 qn) fun zB =>
 bif (zB != 0) then
 (chkO (CV.isCell qn) (
 chkO (room (l85.length + 1) 8) (
 some (.list (oo && false) (l85 ++ [[qn]])))))
 else
 (some (.list oo l85)) := (Qaf _).trans (by kernel_rfl)
theorem Qn6 (lb n : Nat) (ja : Bool) (aair2 : LL) (jb : Bool) (adis4 : LL) (b5 : Int) (yZ y0 : Bool) (vZ : Int) (c6 : List CV) (x7 x9 jR wn wm : CV) (nf : Bool) (l83 : LL) :
 QhM lb n ja aair2 jb adis4 b5 yZ y0 vZ c6 x7 x9 jR wn wm nf l83 =
 bif y0 then
 (chkO (room (l83.length + 1) 8) (
 QfQ lb n ja aair2 jb adis4 b5 yZ y0 vZ c6 x7 x9 jR wn wm (nf && false) (l83 ++ [[CV.int .i64 8]])))
 else
 (QfQ lb n ja aair2 jb adis4 b5 yZ y0 vZ c6 x7 x9 jR wn wm nf l83) := (Qaf _).trans (by kernel_rfl)
theorem Qn5 (lb n : Nat) (ja : Bool) (aair2 : LL) (jb : Bool) (adis4 : LL) (b5 : Int) (yN : Bool) (l17 : LL) (c6 : List CV) (x7 x9 jR wn wm : CV) (yZ y0 : Bool) (vZ : Int) :
 QfX lb n ja aair2 jb adis4 b5 yN l17 c6 x7 x9 jR wn wm yZ y0 vZ =
 bif yZ then
 (chkO (room (l17.length + 1) 8) (
 QhM lb n ja aair2 jb adis4 b5 yZ y0 vZ c6 x7 x9 jR wn wm (yN && false) (l17 ++ [[CV.int .i64 6]])))
 else
 (QhM lb n ja aair2 jb adis4 b5 yZ y0 vZ c6 x7 x9 jR wn wm yN l17) := (Qaf _).trans (by kernel_rfl)
theorem Qhs (lb n oN : Nat) (ja : Bool) (aair2 : LL) (jb : Bool) (adis4 : LL) (b5 : Int) (yN : Bool) (l17 : LL) (c6 : List CV) (x7 x9 jR wn wm : CV) (k4 gd : Bool) (vz : Int) :
 Qcj lb n (oN + 1) ja aair2 jb adis4 b5 yN l17 c6 x7 x9 jR wn wm k4 gd vz =
 bif (decide (vz < b5)) then
 (bif k4 then
 (bif gd then
 (Qcj lb n oN ja aair2 jb adis4 b5 yN l17 c6 x7 x9 jR wn wm true true (IntKind.wrap .i64 (vz + 1)))
 else
 (optO (atL aair2 vz) fun c58 =>
 chkO (c58.length == 5) (
 optO (c58[1]?) fun pW =>
 optO (CV.asS pW) fun zN =>
 optO (CV.asS x9) fun zG =>
 bif (zN == zG) then
 (optO (atL aair2 vz) fun c62 =>
 chkO (c62.length == 5) (
 optO (c62[2]?) fun kr =>
 optO (CV.asS kr) fun ra =>
 optO (CV.asS jR) fun zY =>
 Qcj lb n oN ja aair2 jb adis4 b5 yN l17 c6 x7 x9 jR wn wm true (!(ra == zY)) (IntKind.wrap .i64 (vz + 1))))
 else
 (Qcj lb n oN ja aair2 jb adis4 b5 yN l17 c6 x7 x9 jR wn wm true false (IntKind.wrap .i64 (vz + 1))))))
 else
 (optO (atL aair2 vz) fun c67 =>
 chkO (c67.length == 5) (
 optO (c67[0]?) fun v8 =>
 optO (CV.asS v8) fun nm =>
 optO (CV.asS x7) fun ni =>
 bif gd then
 (Qcj lb n oN ja aair2 jb adis4 b5 yN l17 c6 x7 x9 jR wn wm (nm == ni) true (IntKind.wrap .i64 (vz + 1)))
 else
 (optO (atL aair2 vz) fun c71 =>
 chkO (c71.length == 5) (
 optO (c71[1]?) fun lz =>
 optO (CV.asS lz) fun lY =>
 optO (CV.asS x9) fun lX =>
 bif (lY == lX) then
 (optO (atL aair2 vz) fun c75 =>
 chkO (c75.length == 5) (
 optO (c75[2]?) fun ql =>
 optO (CV.asS ql) fun lJ =>
 optO (CV.asS jR) fun zy =>
 Qcj lb n oN ja aair2 jb adis4 b5 yN l17 c6 x7 x9 jR wn wm (nm == ni) (!(lJ == zy)) (IntKind.wrap .i64 (vz + 1))))
 else
 (Qcj lb n oN ja aair2 jb adis4 b5 yN l17 c6 x7 x9 jR wn wm (nm == ni) false (IntKind.wrap .i64 (vz + 1))))))))
 else
 (QfX lb n ja aair2 jb adis4 b5 yN l17 c6 x7 x9 jR wn wm k4 gd vz) := (Qaf _).trans (by kernel_rfl)
theorem QnW (lb n : Nat) (ja : Bool) (aair2 : LL) (jb : Bool) (adis4 : LL) (b5 : Int) (c6 : List CV) (x7 x9 jR wn wm : CV) (yN : Bool) (l17 : LL) :
 QdI lb n ja aair2 jb adis4 b5 c6 x7 x9 jR wn wm yN l17 =
 Qcj lb n n ja aair2 jb adis4 b5 yN l17 c6 x7 x9 jR wn wm false false 0 := (Qaf _).trans (by kernel_rfl)
theorem Qq9 (lb n : Nat) (ja : Bool) (aair2 : LL) (jb : Bool) (adis4 : LL) (b5 : Int) :
 top lb n QaZ [.agg [.list ja aair2, .list jb adis4], .int .i64 b5] =
 optO (atL aair2 b5) fun c6 =>
 chkO (c6.length == 5) (
 optO (c6[0]?) fun x7 =>
 optO (c6[1]?) fun x9 =>
 optO (c6[2]?) fun jR =>
 optO (c6[3]?) fun wn =>
 optO (c6[4]?) fun wm =>
 optO (C lb n Qgq [x7]) fun gz =>
 optO (CV.asB gz) fun m6 =>
 bif (!m6) then
 (QdI lb n ja aair2 jb adis4 b5 c6 x7 x9 jR wn wm false [[CV.int .i64 5]])
 else
 (optO (C lb n Qgq [x9]) fun lu =>
 optO (CV.asB lu) fun ll =>
 bif (!ll) then
 (QdI lb n ja aair2 jb adis4 b5 c6 x7 x9 jR wn wm false [[CV.int .i64 5]])
 else
 (optO (C lb n Qis [jR]) fun qm =>
 optO (CV.asB qm) fun rf =>
 bif (!rf) then
 (QdI lb n ja aair2 jb adis4 b5 c6 x7 x9 jR wn wm false [[CV.int .i64 5]])
 else
 (QdI lb n ja aair2 jb adis4 b5 c6 x7 x9 jR wn wm true [])))) := by kernel_rfl
noncomputable def Qd5 (lb n : Nat) (ja : Bool) (aair2 : LL) (jb : Bool) (adis4 : LL) (b5 : Int) (yc wC : CV) (c6 : List CV) (x7 x9 jR wS wD w5 wG wK w8 wA yi wi j1 yo jZ wW wH : CV) (vi : Bool) (l37 : LL) : Option CV :=
 hold (E0 lb n 0 994 (sub (B Qa4) [1, 1, 1, 1, 1, 1]) (retK Tryz.prog (R Qa4) 0 (outK (Qag Tryz.prog Qa4))) ⟨fr 99 [(0, .val (.agg [.list ja aair2, .list jb adis4])), (1, vI b5), (2, .ptr 0 2 0), (4, .lst true true 36 []), (5, .lst true vi 36 l37), (6, .ptr 0 6 0), (7, .ptr 0 7 0), (8, vV yc), (9, .ptr 0 9 0), (10, vV wC), (14, .ptr 0 2 1), (15, .val (.list jb adis4)), (16, vI b5), (17, .cptr c6 0), (18, .val (.agg [x7, x9, jR])), (19, vV wS), (20, .val (.agg [.list ja aair2, .list jb adis4])), (21, .ptr 0 6 0), (22, vV x7), (23, vV wS), (24, vV wD), (25, vV yc), (26, vV w5), (27, .val (.agg [.list ja aair2, .list jb adis4])), (28, .ptr 0 6 1), (29, vV x9), (30, vV w5), (31, vV wG), (32, vV wC)], [bx 99 [(2, some [.val (.list ja aair2), .val (.list jb adis4)]), (6, some [.val x7, .val x9, .val jR]), (7, some [.val wK, .val w8, .val wA, .val yi, .val wi]), (9, some [.val j1, .val yo, .val jZ, .val wW, .val wH])]], KK⟩)
noncomputable def QbY (lb n oW : Nat) (ja : Bool) (aair2 : LL) (jb : Bool) (adis4 : LL) (b5 : Int) (vi : Bool) (l37 : LL) (yc wC : CV) (c6 : List CV) (x7 x9 jR wS wD w5 wG wK w8 wA yi wi j1 yo jZ wW wH : CV) (m7 : Bool) (kS : Int) : Option CV :=
 hold (Qas (E0 lb n 0 989) 0 (Qad (sub (B Qa4) [1, 1, 1, 1, 1, 1, 1, 0, 1, 0, 0]) ++ []) [13] (sub (B Qa4) [1, 1, 1, 1, 1, 1, 1, 0, 1, 0, 0]) (Qaj 0 (seqK (E0 lb n 0 992) (sub (B Qa4) [1, 1, 1, 1, 1, 1, 1, 0]) (sub (B Qa4) [1, 1, 1, 1, 1, 1, 1, 1]) (retK Tryz.prog (R Qa4) 0 (outK (Qag Tryz.prog Qa4))))) oW ⟨fr 99 [(0, .val (.agg [.list ja aair2, .list jb adis4])), (1, vI b5), (2, .ptr 0 2 0), (4, .lst true true 36 []), (5, .lst true vi 36 l37), (6, .ptr 0 6 0), (7, .ptr 0 7 0), (8, vV yc), (9, .ptr 0 9 0), (10, vV wC), (11, vB m7), (12, vI kS), (14, .ptr 0 2 1), (15, .val (.list jb adis4)), (16, vI b5), (17, .cptr c6 0), (18, .val (.agg [x7, x9, jR])), (19, vV wS), (20, .val (.agg [.list ja aair2, .list jb adis4])), (21, .ptr 0 6 0), (22, vV x7), (23, vV wS), (24, vV wD), (25, vV yc), (26, vV w5), (27, .val (.agg [.list ja aair2, .list jb adis4])), (28, .ptr 0 6 1), (29, vV x9), (30, vV w5), (31, vV wG), (32, vV wC)], [bx 99 [(2, some [.val (.list ja aair2), .val (.list jb adis4)]), (6, some [.val x7, .val x9, .val jR]), (7, some [.val wK, .val w8, .val wA, .val yi, .val wi]), (9, some [.val j1, .val yo, .val jZ, .val wW, .val wH])]], KK⟩)
noncomputable def Qfm (lb n : Nat) (ja : Bool) (aair2 : LL) (jb : Bool) (adis4 : LL) (b5 : Int) (vi : Bool) (l37 : LL) (yc wC : CV) (c6 : List CV) (x7 x9 jR wS wD w5 wG wK w8 wA yi wi j1 yo jZ wW wH : CV) (vY : Bool) (kK : Int) : Option CV :=
 hold (E0 lb n 0 992 (sub (B Qa4) [1, 1, 1, 1, 1, 1, 1, 1]) (retK Tryz.prog (R Qa4) 0 (outK (Qag Tryz.prog Qa4))) ⟨fr 99 [(0, .val (.agg [.list ja aair2, .list jb adis4])), (1, vI b5), (2, .ptr 0 2 0), (4, .lst true true 36 []), (5, .lst true vi 36 l37), (6, .ptr 0 6 0), (7, .ptr 0 7 0), (8, vV yc), (9, .ptr 0 9 0), (10, vV wC), (11, vB vY), (12, vI kK), (14, .ptr 0 2 1), (15, .val (.list jb adis4)), (16, vI b5), (17, .cptr c6 0), (18, .val (.agg [x7, x9, jR])), (19, vV wS), (20, .val (.agg [.list ja aair2, .list jb adis4])), (21, .ptr 0 6 0), (22, vV x7), (23, vV wS), (24, vV wD), (25, vV yc), (26, vV w5), (27, .val (.agg [.list ja aair2, .list jb adis4])), (28, .ptr 0 6 1), (29, vV x9), (30, vV w5), (31, vV wG), (32, vV wC)], [bx 99 [(2, some [.val (.list ja aair2), .val (.list jb adis4)]), (6, some [.val x7, .val x9, .val jR]), (7, some [.val wK, .val w8, .val wA, .val yi, .val wi]), (9, some [.val j1, .val yo, .val jZ, .val wW, .val wH])]], KK⟩)
noncomputable def Qfq (lb n : Nat) (ja : Bool) (aair2 : LL) (jb : Bool) (adis4 : LL) (b5 : Int) (yc wC : CV) (vY : Bool) (kK : Int) (c6 : List CV) (x7 x9 jR wS wD w5 wG wK w8 wA yi wi j1 yo jZ wW wH : CV) (oZ : Bool) (l101 : LL) : Option CV :=
 hold (E0 lb n 0 991 (sub (B Qa4) [1, 1, 1, 1, 1, 1, 1, 1, 1]) (retK Tryz.prog (R Qa4) 0 (outK (Qag Tryz.prog Qa4))) ⟨fr 99 [(0, .val (.agg [.list ja aair2, .list jb adis4])), (1, vI b5), (2, .ptr 0 2 0), (4, .lst true true 36 []), (5, .lst true oZ 36 l101), (6, .ptr 0 6 0), (7, .ptr 0 7 0), (8, vV yc), (9, .ptr 0 9 0), (10, vV wC), (11, vB vY), (12, vI kK), (14, .ptr 0 2 1), (15, .val (.list jb adis4)), (16, vI b5), (17, .cptr c6 0), (18, .val (.agg [x7, x9, jR])), (19, vV wS), (20, .val (.agg [.list ja aair2, .list jb adis4])), (21, .ptr 0 6 0), (22, vV x7), (23, vV wS), (24, vV wD), (25, vV yc), (26, vV w5), (27, .val (.agg [.list ja aair2, .list jb adis4])), (28, .ptr 0 6 1), (29, vV x9), (30, vV w5), (31, vV wG), (32, vV wC)], [bx 99 [(2, some [.val (.list ja aair2), .val (.list jb adis4)]), (6, some [.val x7, .val x9, .val jR]), (7, some [.val wK, .val w8, .val wA, .val yi, .val wi]), (9, some [.val j1, .val yo, .val jZ, .val wW, .val wH])]], KK⟩)
theorem Qmy (lb n : Nat) (ja : Bool) (aair2 : LL) (jb : Bool) (adis4 : LL) (b5 : Int) (yc wC : CV) (vY : Bool) (kK : Int) (c6 : List CV) (x7 x9 jR wS wD w5 wG wK w8 wA yi wi j1 yo jZ wW wH : CV) (oZ : Bool) (l101 : LL) :
 Qfq lb n ja aair2 jb adis4 b5 yc wC vY kK c6 x7 x9 jR wS wD w5 wG wK w8 wA yi wi j1 yo jZ wW wH oZ l101 =
 optO (C lb n Qfv [.agg [x7, x9, jR]]) fun sR =>
 optO (CV.asB sR) fun si =>
 bif (!si) then
 (chkO (room (l101.length + 1) 8) (
 some (.list (oZ && false) (l101 ++ [[CV.int .i64 2]]))))
 else
 (optO (CV.asS x7) fun nN =>
 optO (CV.asS x9) fun nH =>
 bif (nN == nH) then
 (chkO (room (l101.length + 1) 8) (
 some (.list (oZ && false) (l101 ++ [[CV.int .i64 2]]))))
 else
 (some (.list oZ l101))) := (Qaf _).trans (by kernel_rfl)
theorem Qnm (lb n : Nat) (ja : Bool) (aair2 : LL) (jb : Bool) (adis4 : LL) (b5 : Int) (vi : Bool) (l37 : LL) (yc wC : CV) (c6 : List CV) (x7 x9 jR wS wD w5 wG wK w8 wA yi wi j1 yo jZ wW wH : CV) (vY : Bool) (kK : Int) :
 Qfm lb n ja aair2 jb adis4 b5 vi l37 yc wC c6 x7 x9 jR wS wD w5 wG wK w8 wA yi wi j1 yo jZ wW wH vY kK =
 bif vY then
 (chkO (room (l37.length + 1) 8) (
 Qfq lb n ja aair2 jb adis4 b5 yc wC vY kK c6 x7 x9 jR wS wD w5 wG wK w8 wA yi wi j1 yo jZ wW wH (vi && false) (l37 ++ [[CV.int .i64 6]])))
 else
 (Qfq lb n ja aair2 jb adis4 b5 yc wC vY kK c6 x7 x9 jR wS wD w5 wG wK w8 wA yi wi j1 yo jZ wW wH vi l37) := (Qaf _).trans (by kernel_rfl)
theorem QgX (lb n oW : Nat) (ja : Bool) (aair2 : LL) (jb : Bool) (adis4 : LL) (b5 : Int) (vi : Bool) (l37 : LL) (yc wC : CV) (c6 : List CV) (x7 x9 jR wS wD w5 wG wK w8 wA yi wi j1 yo jZ wW wH : CV) (m7 : Bool) (kS : Int) :
 QbY lb n (oW + 1) ja aair2 jb adis4 b5 vi l37 yc wC c6 x7 x9 jR wS wD w5 wG wK w8 wA yi wi j1 yo jZ wW wH m7 kS =
 bif (decide (kS < b5)) then
 (optO (atL adis4 kS) fun c82 =>
 chkO (c82.length == 3) (
 optO (c82[0]?) fun ko =>
 optO (c82[1]?) fun kl =>
 optO (c82[2]?) fun kM =>
 bif m7 then
 (QbY lb n oW ja aair2 jb adis4 b5 vi l37 yc wC c6 x7 x9 jR wS wD w5 wG wK w8 wA yi wi j1 yo jZ wW wH true (IntKind.wrap .i64 (kS + 1)))
 else
 (optO (CV.asS ko) fun rc =>
 optO (CV.asS x7) fun l0 =>
 bif (rc == l0) then
 (optO (CV.asS kl) fun lK =>
 optO (CV.asS x9) fun ld =>
 bif (lK == ld) then
 (QbY lb n oW ja aair2 jb adis4 b5 vi l37 yc wC c6 x7 x9 jR wS wD w5 wG wK w8 wA yi wi j1 yo jZ wW wH true (IntKind.wrap .i64 (kS + 1)))
 else
 (optO (CV.asS ko) fun zF =>
 optO (CV.asS x9) fun s91 =>
 bif (zF == s91) then
 (optO (CV.asS kl) fun zR =>
 optO (CV.asS x7) fun le =>
 QbY lb n oW ja aair2 jb adis4 b5 vi l37 yc wC c6 x7 x9 jR wS wD w5 wG wK w8 wA yi wi j1 yo jZ wW wH (zR == le) (IntKind.wrap .i64 (kS + 1)))
 else
 (QbY lb n oW ja aair2 jb adis4 b5 vi l37 yc wC c6 x7 x9 jR wS wD w5 wG wK w8 wA yi wi j1 yo jZ wW wH false (IntKind.wrap .i64 (kS + 1)))))
 else
 (optO (CV.asS ko) fun lS =>
 optO (CV.asS x9) fun rb =>
 bif (lS == rb) then
 (optO (CV.asS kl) fun zP =>
 optO (CV.asS x7) fun zt =>
 QbY lb n oW ja aair2 jb adis4 b5 vi l37 yc wC c6 x7 x9 jR wS wD w5 wG wK w8 wA yi wi j1 yo jZ wW wH (zP == zt) (IntKind.wrap .i64 (kS + 1)))
 else
 (QbY lb n oW ja aair2 jb adis4 b5 vi l37 yc wC c6 x7 x9 jR wS wD w5 wG wK w8 wA yi wi j1 yo jZ wW wH false (IntKind.wrap .i64 (kS + 1)))))))
 else
 (Qfm lb n ja aair2 jb adis4 b5 vi l37 yc wC c6 x7 x9 jR wS wD w5 wG wK w8 wA yi wi j1 yo jZ wW wH m7 kS) := (Qaf _).trans (by kernel_rfl)
theorem Qnh (lb n : Nat) (ja : Bool) (aair2 : LL) (jb : Bool) (adis4 : LL) (b5 : Int) (yc wC : CV) (c6 : List CV) (x7 x9 jR wS wD w5 wG wK w8 wA yi wi j1 yo jZ wW wH : CV) (vi : Bool) (l37 : LL) :
 Qd5 lb n ja aair2 jb adis4 b5 yc wC c6 x7 x9 jR wS wD w5 wG wK w8 wA yi wi j1 yo jZ wW wH vi l37 =
 QbY lb n n ja aair2 jb adis4 b5 vi l37 yc wC c6 x7 x9 jR wS wD w5 wG wK w8 wA yi wi j1 yo jZ wW wH false 0 := (Qaf _).trans (by kernel_rfl)
theorem QpJ (lb n : Nat) (ja : Bool) (aair2 : LL) (jb : Bool) (adis4 : LL) (b5 : Int) :
 top lb n Qa4 [.agg [.list ja aair2, .list jb adis4], .int .i64 b5] =
 optO (atL adis4 b5) fun c6 =>
 chkO (c6.length == 3) (
 optO (c6[0]?) fun x7 =>
 optO (c6[1]?) fun x9 =>
 optO (c6[2]?) fun jR =>
 optO (C lb n Qcl [.agg [.list ja aair2, .list jb adis4], x7]) fun wS =>
 optO (CV.asT wS) fun qk =>
 optO (qk[0]?) fun wD =>
 optO (CV.asT wS) fun l7 =>
 optO (l7[1]?) fun yc =>
 optO (CV.asA wD) fun c17 =>
 chkO (c17.length == 5) (
 optO (c17[0]?) fun wK =>
 optO (c17[1]?) fun w8 =>
 optO (c17[2]?) fun wA =>
 optO (c17[3]?) fun yi =>
 optO (c17[4]?) fun wi =>
 optO (C lb n Qcl [.agg [.list ja aair2, .list jb adis4], x9]) fun w5 =>
 optO (CV.asT w5) fun pN =>
 optO (pN[0]?) fun wG =>
 optO (CV.asT w5) fun qg =>
 optO (qg[1]?) fun wC =>
 optO (CV.asA wG) fun c28 =>
 chkO (c28.length == 5) (
 optO (c28[0]?) fun j1 =>
 optO (c28[1]?) fun yo =>
 optO (c28[2]?) fun jZ =>
 optO (c28[3]?) fun wW =>
 optO (c28[4]?) fun wH =>
 optO (CV.asB yc) fun gd =>
 bif (!gd) then
 (Qd5 lb n ja aair2 jb adis4 b5 yc wC c6 x7 x9 jR wS wD w5 wG wK w8 wA yi wi j1 yo jZ wW wH false [[CV.int .i64 14]])
 else
 (optO (CV.asB wC) fun zb =>
 bif (!zb) then
 (Qd5 lb n ja aair2 jb adis4 b5 yc wC c6 x7 x9 jR wS wD w5 wG wK w8 wA yi wi j1 yo jZ wW wH false [[CV.int .i64 14]])
 else
 (Qd5 lb n ja aair2 jb adis4 b5 yc wC c6 x7 x9 jR wS wD w5 wG wK w8 wA yi wi j1 yo jZ wW wH true []))))) := by kernel_rfl
noncomputable def QhR (lb n v7 : Nat) (ja : Bool) (aair2 : LL) (jb : Bool) (adis4 : LL) (b5 : LB) (yx : Int) : Option CV :=
 hold (Qas (E0 lb n 0 995) 0 (Qad (sub (B Qcl) [1, 0, 1, 0, 0]) ++ []) [] (sub (B Qcl) [1, 0, 1, 0, 0]) (Qaj 0 (seqK (E0 lb n 0 998) (sub (B Qcl) [1, 0]) (sub (B Qcl) [1, 1]) (retK Tryz.prog (R Qcl) 0 (outK (Qag Tryz.prog Qcl))))) v7 ⟨fr 28 [(0, .val (.agg [.list ja aair2, .list jb adis4])), (1, vS b5), (2, .ptr 0 2 0), (4, .ptr 0 4 0), (5, vB false), (6, vI yx)], [bx 28 [(2, some [.val (.list ja aair2), .val (.list jb adis4)]), (4, some [.val (.str []), .val (.str []), .val (.str []), vI 0, .lst true true 195 []])]], KK⟩)
noncomputable def Qon (lb n : Nat) (ja : Bool) (aair2 : LL) (jb : Bool) (adis4 : LL) (b5 : LB) (vW : Int) : Option CV :=
 hold (E0 lb n 0 998 (sub (B Qcl) [1, 1]) (retK Tryz.prog (R Qcl) 0 (outK (Qag Tryz.prog Qcl))) ⟨fr 28 [(0, .val (.agg [.list ja aair2, .list jb adis4])), (1, vS b5), (2, .ptr 0 2 0), (4, .ptr 0 4 0), (5, vB false), (6, vI vW)], [bx 28 [(2, some [.val (.list ja aair2), .val (.list jb adis4)]), (4, some [.val (.str []), .val (.str []), .val (.str []), vI 0, .lst true true 195 []])]], KK⟩)
theorem QqJ (lb n : Nat) (ja : Bool) (aair2 : LL) (jb : Bool) (adis4 : LL) (b5 : LB) (vW : Int) :
 Qon lb n ja aair2 jb adis4 b5 vW =
 some (.tup [.agg [.str [], .str [], .str [], .int .i64 0, .list true []], .bool false]) := (Qaf _).trans (by kernel_rfl)
theorem Qjg (lb n v7 : Nat) (ja : Bool) (aair2 : LL) (jb : Bool) (adis4 : LL) (b5 : LB) (yx : Int) :
 QhR lb n (v7 + 1) ja aair2 jb adis4 b5 yx =
 bif (decide (yx < (aair2.length : Int))) then
 (optO (atL aair2 yx) fun c28 =>
 chkO (c28.length == 5) (
 optO (c28[1]?) fun j1 =>
 optO (CV.asS j1) fun gA =>
 bif (gA == b5) then
 (optO (atL aair2 yx) fun c31 =>
 chkO (c31.length == 5) (
 optO (c31[0]?) fun wW =>
 optO (c31[1]?) fun wH =>
 optO (c31[2]?) fun yH =>
 optO (c31[3]?) fun yG =>
 optO (c31[4]?) fun yy =>
 some (.tup [.agg [wW, wH, yH, yG, yy], .bool true])))
 else
 (QhR lb n v7 ja aair2 jb adis4 b5 (IntKind.wrap .i64 (yx + 1)))))
 else
 (Qon lb n ja aair2 jb adis4 b5 yx) := (Qaf _).trans (by kernel_rfl)
theorem Qu0 (lb n : Nat) (ja : Bool) (aair2 : LL) (jb : Bool) (adis4 : LL) (b5 : LB) :
 top lb n Qcl [.agg [.list ja aair2, .list jb adis4], .str b5] =
 QhR lb n n ja aair2 jb adis4 b5 0 := by kernel_rfl
theorem Qsv (lb n : Nat) (jj jM : LB) (mE : Int) :
 top lb n Qfv [.agg [.str jj, .str jM, .int .i64 mE]] =
 bif (decide (mE ≥ 1)) then
 (some (.bool (decide (mE ≤ 20000))))
 else
 (some (.bool false)) := by kernel_rfl
noncomputable def Qfx (lb n kL : Nat) (wc : Int) (j9 : Bool) (ashi3 : LL) (ve : Int) : Option CV :=
 hold (Qas (E0 lb n 0 993) 0 (Qad (sub (B QbO) [1, 1, 1, 0, 1, 0, 0]) ++ []) [4] (sub (B QbO) [1, 1, 1, 0, 1, 0, 0]) (Qaj 0 (seqK (E0 lb n 0 996) (sub (B QbO) [1, 1, 1, 0]) (sub (B QbO) [1, 1, 1, 1]) (retK Tryz.prog (R QbO) 0 (outK (Qag Tryz.prog QbO))))) kL ⟨fr 54 [(0, .val (.agg [.int .i64 wc, .list j9 ashi3])), (1, .ptr 0 1 0), (2, vI 0), (3, vI ve)], [bx 54 [(1, some [vI wc, .val (.list j9 ashi3)])]], KK⟩)
noncomputable def Qmr (lb n : Nat) (wc : Int) (j9 : Bool) (ashi3 : LL) (p8 : Int) : Option CV :=
 hold (E0 lb n 0 996 (sub (B QbO) [1, 1, 1, 1]) (retK Tryz.prog (R QbO) 0 (outK (Qag Tryz.prog QbO))) ⟨fr 54 [(0, .val (.agg [.int .i64 wc, .list j9 ashi3])), (1, .ptr 0 1 0), (2, vI 0), (3, vI p8)], [bx 54 [(1, some [vI wc, .val (.list j9 ashi3)])]], KK⟩)
theorem Qqv (lb n : Nat) (wc : Int) (j9 : Bool) (ashi3 : LL) (p8 : Int) :
 Qmr lb n wc j9 ashi3 p8 =
 some (.int .i64 0) := (Qaf _).trans (by kernel_rfl)
theorem QiC (lb n kL : Nat) (wc : Int) (j9 : Bool) (ashi3 : LL) (ve : Int) :
 Qfx lb n (kL + 1) wc j9 ashi3 ve =
 bif (decide (ve < (ashi3.length : Int))) then
 (optO (atL ashi3 ve) fun c30 =>
 chkO (c30.length == 2) (
 optO (c30[0]?) fun jZ =>
 optO (c30[1]?) fun wW =>
 optO (CV.asI .i64 jZ) fun k8 =>
 bif (decide (k8 < 0)) then
 (some (.int .i64 13))
 else
 (optO (CV.asI .i64 jZ) fun gj =>
 bif (decide (gj ≥ 52596000)) then
 (some (.int .i64 13))
 else
 (bif (decide (ve > 0)) then
 (optO (atL ashi3 (IntKind.wrap .i64 (ve - 1))) fun c36 =>
 chkO (c36.length == 2) (
 optO (c36[0]?) fun yy =>
 optO (CV.asI .i64 jZ) fun vW =>
 optO (CV.asI .i64 yy) fun oM =>
 bif (decide ((IntKind.wrap .i64 (vW - oM)) < 2880)) then
 (some (.int .i64 13))
 else
 (optO (C lb n QfJ [wW]) fun p9 =>
 optO (CV.asB p9) fun oh =>
 bif (!oh) then
 (some (.int .i64 2))
 else
 (Qfx lb n kL wc j9 ashi3 (IntKind.wrap .i64 (ve + 1))))))
 else
 (optO (C lb n QfJ [wW]) fun pq =>
 optO (CV.asB pq) fun qd =>
 bif (!qd) then
 (some (.int .i64 2))
 else
 (Qfx lb n kL wc j9 ashi3 (IntKind.wrap .i64 (ve + 1))))))))
 else
 (Qmr lb n wc j9 ashi3 ve) := (Qaf _).trans (by kernel_rfl)
theorem Qno (lb n : Nat) (wc : Int) (j9 : Bool) (ashi3 : LL) :
 top lb n QbO [.agg [.int .i64 wc, .list j9 ashi3]] =
 bif (decide ((ashi3.length : Int) > 256)) then
 (some (.int .i64 4))
 else
 (optO (C lb n QfJ [.int .i64 wc]) fun r4 =>
 optO (CV.asB r4) fun b5 =>
 bif (!b5) then
 (some (.int .i64 2))
 else
 (Qfx lb n n wc j9 ashi3 0)) := by kernel_rfl
theorem Qsy (lb n : Nat) (a1 : Int) :
 top lb n QfJ [.int .i64 a1] =
 bif (decide (a1 ≥ (-840))) then
 (some (.bool (decide (a1 ≤ 840))))
 else
 (some (.bool false)) := by kernel_rfl
end Go.Proofs
