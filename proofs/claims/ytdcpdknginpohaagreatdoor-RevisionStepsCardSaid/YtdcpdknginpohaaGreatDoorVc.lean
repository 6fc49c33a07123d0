/- Equations of functions, printed by program. Conditions: none. -/
import Derived.Test.YtdcpdknginpohaaGreatDoorEv
namespace Go.Proofs
open Go.Am
set_option maxRecDepth 100000
set_option linter.unusedVariables false
noncomputable def revision_allowed_L1 :=
 fun lb n (pL : Nat) (wb : Bool) (a2 : LL) yt y8 y7 yd yj yb yM yH (yr : Bool) (yK : LL) ks kX =>
 hold (Qar (E2 lb n 2 995) 2 (Qad (sub (B Qbb) [1, 0, 1, 0, 0]) ++ [5]) [] (sub (B Qbb) [1, 0, 1, 0, 0]) (Qaj 0 (seqK (E2 lb n 2 998) (sub (B Qbb) [1, 0]) (sub (B Qbb) [1, 1]) (retK Tryz.prog (R Qbb) 2 (inlK (opAt (QaE (sub (B QaC) [1, 0])) 2) ⟨fr 9 [(0, .val (.list wb a2)), (1, .clo QbE [.ptr 0 3 0]), (4, vB false), (5, .val (.list wb a2)), (6, .clo QbE [.ptr 0 3 0])], [bx 39 [(3, some [vI yt, vS y8, vI y7, vI yd, vI yj, vI yb, vI yM, vS yH, .val (.list yr yK)])], bx 9 []], KK⟩ (opsK Tryz.prog (C lb n) (I8 lb n) 1 (QaE (sub (B QaC) [1, 0])) ((QaE (sub (B QaC) [1, 0])).drop 3) ((seqK (E1 lb n 1 998) (sub (B QaC) [1, 0]) (sub (B QaC) [1, 1]) (retK Tryz.prog (R QaC) 1 (inlK (opAt (QaE (sub (B QaU) [1, 1, 1, 0])) 2) ⟨fr 39 [(0, .val (.list wb a2)), (1, .val (.agg [.int .i64 yt, .str y8, .int .i64 y7, .int .i64 yd, .int .i64 yj, .int .i64 yb, .int .i64 yM, .str yH, .list yr yK])), (3, .ptr 0 3 0), (4, vI 0), (5, vV ks), (21, .val (.list wb a2)), (22, .clo QbE [.ptr 0 3 0])], [bx 39 [(3, some [vI yt, vS y8, vI y7, vI yd, vI yj, vI yb, vI yM, vS yH, .val (.list yr yK)])]], KK⟩ (opsK Tryz.prog (C lb n) (I9 lb n) 0 (QaE (sub (B QaU) [1, 1, 1, 0])) ((QaE (sub (B QaU) [1, 1, 1, 0])).drop 3) ((seqK (E0 lb n 0 996) (sub (B QaU) [1, 1, 1, 0]) (sub (B QaU) [1, 1, 1, 1]) (retK Tryz.prog (R QaU) 0 (outK (Qaf Tryz.prog QaU)))) .normal))))) .normal)))))) pL ⟨fr 19 [(0, .val (.list wb a2)), (1, .clo QbE [.ptr 0 3 0]), (4, vI 0), (6, .val (.list wb a2)), (7, .val (.int .i64 (a2.length : Int))), (8, vI kX)], [bx 39 [(3, some [vI yt, vS y8, vI y7, vI yd, vI yj, vI yb, vI yM, vS yH, .val (.list yr yK)])], bx 9 [], bx 19 []], KK⟩)
noncomputable def Qho (lb n : Nat) (wb : Bool) (a2 : LL) (yt : Int) (y8 : LB) (y7 yd yj yb yM : Int) (yH : LB) (yr : Bool) (yK : LL) (ks : CV) : Option CV :=
 hold (E2 lb n 2 998 (sub (B Qbb) [1, 1]) (retK Tryz.prog (R Qbb) 2 (inlK (opAt (QaE (sub (B QaC) [1, 0])) 2) ⟨fr 9 [(0, .val (.list wb a2)), (1, .clo QbE [.ptr 0 3 0]), (4, vB false), (5, .val (.list wb a2)), (6, .clo QbE [.ptr 0 3 0])], [bx 39 [(3, some [vI yt, vS y8, vI y7, vI yd, vI yj, vI yb, vI yM, vS yH, .val (.list yr yK)])], bx 9 []], KK⟩ (opsK Tryz.prog (C lb n) (I8 lb n) 1 (QaE (sub (B QaC) [1, 0])) ((QaE (sub (B QaC) [1, 0])).drop 3) ((seqK (E1 lb n 1 998) (sub (B QaC) [1, 0]) (sub (B QaC) [1, 1]) (retK Tryz.prog (R QaC) 1 (inlK (opAt (QaE (sub (B QaU) [1, 1, 1, 0])) 2) ⟨fr 39 [(0, .val (.list wb a2)), (1, .val (.agg [.int .i64 yt, .str y8, .int .i64 y7, .int .i64 yd, .int .i64 yj, .int .i64 yb, .int .i64 yM, .str yH, .list yr yK])), (3, .ptr 0 3 0), (4, vI 0), (5, vV ks), (21, .val (.list wb a2)), (22, .clo QbE [.ptr 0 3 0])], [bx 39 [(3, some [vI yt, vS y8, vI y7, vI yd, vI yj, vI yb, vI yM, vS yH, .val (.list yr yK)])]], KK⟩ (opsK Tryz.prog (C lb n) (I9 lb n) 0 (QaE (sub (B QaU) [1, 1, 1, 0])) ((QaE (sub (B QaU) [1, 1, 1, 0])).drop 3) ((seqK (E0 lb n 0 996) (sub (B QaU) [1, 1, 1, 0]) (sub (B QaU) [1, 1, 1, 1]) (retK Tryz.prog (R QaU) 0 (outK (Qaf Tryz.prog QaU)))) .normal))))) .normal)))) ⟨fr 19 [(0, .val (.list wb a2)), (1, .clo QbE [.ptr 0 3 0]), (4, vI 0)], [bx 39 [(3, some [vI yt, vS y8, vI y7, vI yd, vI yj, vI yb, vI yM, vS yH, .val (.list yr yK)])], bx 9 [], bx 19 []], KK⟩)
theorem Qkp (lb n : Nat) (wb : Bool) (a2 : LL) (yt : Int) (y8 : LB) (y7 yd yj yb yM : Int) (yH : LB) (yr : Bool) (yK : LL) (ks : CV) :
 Qho lb n wb a2 yt y8 y7 yd yj yb yM yH yr yK ks =
 bif (yt == 1) then
 (bif (yt != 1) then
 (some (.int .i64 7))
 else
 (some (.int .i64 0)))
 else
 (bif (yt != 1) then
 (some (.int .i64 7))
 else
 (some (.int .i64 0))) := (Qac _).trans (by kernel_rfl)
theorem QfG (lb n pL : Nat) (wb : Bool) (a2 : LL) (yt : Int) (y8 : LB) (y7 yd yj yb yM : Int) (yH : LB) (yr : Bool) (yK : LL) (ks : CV) (kX : Int) :
 revision_allowed_L1 lb n (pL + 1) wb a2 yt y8 y7 yd yj yb yM yH yr yK ks kX =
 bif (decide (kX < (a2.length : Int))) then
 (optO (atL a2 kX) fun c38 =>
 chkO (c38.length == 6) (
 optO (c38[0]?) fun mE =>
 optO (c38[1]?) fun o5 =>
 optO (c38[2]?) fun qc =>
 optO (c38[3]?) fun mw =>
 optO (c38[4]?) fun oW =>
 optO (c38[5]?) fun oN =>
 optO (C lb n Qef [.agg [mE, o5, qc, mw, oW, oN], .agg [.int .i64 yt, .str y8, .int .i64 y7, .int .i64 yd, .int .i64 yj, .int .i64 yb, .int .i64 yM, .str yH, .list yr yK]]) fun rb =>
 optO (CV.asB rb) fun gW =>
 bif gW then
 (bif (yt == 1) then
 (bif (decide (kX ≥ 0)) then
 (some (.int .i64 6))
 else
 (bif (yt != 1) then
 (bif (!(decide (kX ≥ 0))) then
 (some (.int .i64 7))
 else
 (some (.int .i64 0)))
 else
 (some (.int .i64 0))))
 else
 (bif (yt != 1) then
 (bif (!(decide (kX ≥ 0))) then
 (some (.int .i64 7))
 else
 (some (.int .i64 0)))
 else
 (some (.int .i64 0))))
 else
 (revision_allowed_L1 lb n pL wb a2 yt y8 y7 yd yj yb yM yH yr yK ks (IntKind.wrap .i64 (kX + 1)))))
 else
 (Qho lb n wb a2 yt y8 y7 yd yj yb yM yH yr yK ks ) := (Qac _).trans (by kernel_rfl)
theorem Qmz (lb n : Nat) (wb : Bool) (a2 : LL) (yt : Int) (y8 : LB) (y7 yd yj yb yM : Int) (yH : LB) (yr : Bool) (yK : LL) :
 top lb n QaU [.list wb a2, .agg [.int .i64 yt, .str y8, .int .i64 y7, .int .i64 yd, .int .i64 yj, .int .i64 yb, .int .i64 yM, .str yH, .list yr yK]] =
 bif (decide (yt < 1)) then
 (some (.int .i64 8))
 else
 (bif (decide (yt > 5)) then
 (some (.int .i64 8))
 else
 (optO (C lb n QbA [.agg [.int .i64 yd, .int .i64 yj, .int .i64 yb]]) fun ks =>
 optO (CV.asI .i64 ks) fun oQ =>
 bif (oQ != 0) then
 (some (ks))
 else
 (revision_allowed_L1 lb n n wb a2 yt y8 y7 yd yj yb yM yH yr yK ks 0))) := by kernel_rfl
noncomputable def Qc1 (lb n mA : Nat) (ja : Bool) (aair2 : LL) (jb : Bool) (adis4 : LL) (jy : Bool) (b6 : LL) (j8 : Int) (j6 : LB) (jA jm jp jn jM : Int) (jL : LB) (jt : Bool) (jz : LL) (ki : CV) (kK : Bool) (l45 : LL) (i46 : Int) : Option CV :=
 hold (Qar (E0 lb n 0 993) 0 (Qad (sub (B Qbm) [1, 1, 1, 0, 1, 0, 0]) ++ [12, 13]) [11] (sub (B Qbm) [1, 1, 1, 0, 1, 0, 0]) (Qaj 0 (seqK (E0 lb n 0 996) (sub (B Qbm) [1, 1, 1, 0]) (sub (B Qbm) [1, 1, 1, 1]) (retK Tryz.prog (R Qbm) 0 (outK (Qaf Tryz.prog Qbm))))) mA ⟨fr 82 [(0, .val (.agg [.list ja aair2, .list jb adis4])), (1, .val (.list jy b6)), (2, .val (.agg [.int .i64 j8, .str j6, .int .i64 jA, .int .i64 jm, .int .i64 jp, .int .i64 jn, .int .i64 jM, .str jL, .list jt jz])), (3, .ptr 0 3 0), (5, .ptr 0 5 0), (6, .lst true true 42 []), (7, vI 0), (8, vV ki), (9, .lst true kK 42 l45), (22, .val (.list jy b6)), (23, .val (.int .i64 (b6.length : Int))), (24, vI i46)], [bx 82 [(3, some [.val (.list ja aair2), .val (.list jb adis4)]), (5, some [vI j8, vS j6, vI jA, vI jm, vI jp, vI jn, vI jM, vS jL, .val (.list jt jz)])]], KK⟩)
noncomputable def QiF (lb n : Nat) (ja : Bool) (aair2 : LL) (jb : Bool) (adis4 : LL) (jy : Bool) (b6 : LL) (j8 : Int) (j6 : LB) (jA jm jp jn jM : Int) (jL : LB) (jt : Bool) (jz : LL) (ki : CV) (nX : Bool) (l82 : LL) : Option CV :=
 hold (E0 lb n 0 996 (sub (B Qbm) [1, 1, 1, 1]) (retK Tryz.prog (R Qbm) 0 (outK (Qaf Tryz.prog Qbm))) ⟨fr 82 [(0, .val (.agg [.list ja aair2, .list jb adis4])), (1, .val (.list jy b6)), (2, .val (.agg [.int .i64 j8, .str j6, .int .i64 jA, .int .i64 jm, .int .i64 jp, .int .i64 jn, .int .i64 jM, .str jL, .list jt jz])), (3, .ptr 0 3 0), (5, .ptr 0 5 0), (6, .lst true true 42 []), (7, vI 0), (8, vV ki), (9, .lst true nX 42 l82)], [bx 82 [(3, some [.val (.list ja aair2), .val (.list jb adis4)]), (5, some [vI j8, vS j6, vI jA, vI jm, vI jp, vI jn, vI jM, vS jL, .val (.list jt jz)])]], KK⟩)
theorem Qlv (lb n : Nat) (ja : Bool) (aair2 : LL) (jb : Bool) (adis4 : LL) (jy : Bool) (b6 : LL) (j8 : Int) (j6 : LB) (jA jm jp jn jM : Int) (jL : LB) (jt : Bool) (jz : LL) (ki : CV) (nX : Bool) (l82 : LL) :
 QiF lb n ja aair2 jb adis4 jy b6 j8 j6 jA jm jp jn jM jL jt jz ki nX l82 =
 bif (j8 == 1) then
 (optO (C lb n Qai [.agg [.list ja aair2, .list jb adis4], .agg [.str j6, .int .i64 jA, .int .i64 jm, .int .i64 jp, .int .i64 jn, .list jt jz]]) fun qX =>
 optO (CV.asL qX) fun ri =>
 bif (decide ((ri.2.length : Int) > 0)) then
 (optO (CV.asL qX) fun l5 =>
 optO (atL l5.2 0) fun c86 =>
 chkO (c86.length == 2) (
 optO (c86[0]?) fun rr =>
 some (.tup [.list true [], rr])))
 else
 (chkO (room (l82.length + 1) 72) (
 some (.tup [.list (nX && false) (l82 ++ [[CV.str j6, CV.int .i64 jA, CV.int .i64 jm, CV.int .i64 jp, CV.int .i64 jn, CV.list jt jz]]), .int .i64 0]))))
 else
 (some (.tup [.list nX l82, .int .i64 0])) := (Qac _).trans (by kernel_rfl)
theorem QcA (lb n mA : Nat) (ja : Bool) (aair2 : LL) (jb : Bool) (adis4 : LL) (jy : Bool) (b6 : LL) (j8 : Int) (j6 : LB) (jA jm jp jn jM : Int) (jL : LB) (jt : Bool) (jz : LL) (ki : CV) (kK : Bool) (l45 : LL) (i46 : Int) :
 Qc1 lb n (mA + 1) ja aair2 jb adis4 jy b6 j8 j6 jA jm jp jn jM jL jt jz ki kK l45 i46 =
 bif (decide (i46 < (b6.length : Int))) then
 (optO (atL b6 i46) fun c65 =>
 chkO (c65.length == 6) (
 optO (c65[0]?) fun kw =>
 optO (c65[1]?) fun kP =>
 optO (c65[2]?) fun kf =>
 optO (c65[3]?) fun kT =>
 optO (c65[4]?) fun mI =>
 optO (c65[5]?) fun qe =>
 bif (j8 == 1) then
 (chkO (room (l45.length + 1) 72) (
 Qc1 lb n mA ja aair2 jb adis4 jy b6 j8 j6 jA jm jp jn jM jL jt jz ki (kK && false) (l45 ++ [[kw, kP, kf, kT, mI, qe]]) (IntKind.wrap .i64 (i46 + 1))))
 else
 (optO (C lb n Qef [.agg [kw, kP, kf, kT, mI, qe], .agg [.int .i64 j8, .str j6, .int .i64 jA, .int .i64 jm, .int .i64 jp, .int .i64 jn, .int .i64 jM, .str jL, .list jt jz]]) fun lU =>
 optO (CV.asB lU) fun lQ =>
 bif (!lQ) then
 (chkO (room (l45.length + 1) 72) (
 Qc1 lb n mA ja aair2 jb adis4 jy b6 j8 j6 jA jm jp jn jM jL jt jz ki (kK && false) (l45 ++ [[kw, kP, kf, kT, mI, qe]]) (IntKind.wrap .i64 (i46 + 1))))
 else
 (optO (C lb n Qan [.agg [.list ja aair2, .list jb adis4], .agg [kw, kP, kf, kT, mI, qe], .agg [.int .i64 j8, .str j6, .int .i64 jA, .int .i64 jm, .int .i64 jp, .int .i64 jn, .int .i64 jM, .str jL, .list jt jz]]) fun q9 =>
 optO (CV.asT q9) fun t75 =>
 optO (t75[0]?) fun qP =>
 optO (CV.asT q9) fun l9 =>
 optO (l9[1]?) fun q8 =>
 optO (CV.asI .i64 q8) fun tG =>
 bif (tG != 0) then
 (some (.tup [.list true [], q8]))
 else
 (optO (CV.asL qP) fun pN =>
 chkO (pN.2.all (·.length == 6)) (
 chkO (room (l45.length + pN.2.length) 72) (
 Qc1 lb n mA ja aair2 jb adis4 jy b6 j8 j6 jA jm jp jn jM jL jt jz ki (kK && pN.2.isEmpty) (l45 ++ pN.2) (IntKind.wrap .i64 (i46 + 1)))))))))
 else
 (QiF lb n ja aair2 jb adis4 jy b6 j8 j6 jA jm jp jn jM jL jt jz ki kK l45) := (Qac _).trans (by kernel_rfl)
theorem QiC (lb n : Nat) (ja : Bool) (aair2 : LL) (jb : Bool) (adis4 : LL) (jy : Bool) (b6 : LL) (j8 : Int) (j6 : LB) (jA jm jp jn jM : Int) (jL : LB) (jt : Bool) (jz : LL) :
 top lb n Qbm [.agg [.list ja aair2, .list jb adis4], .list jy b6, .agg [.int .i64 j8, .str j6, .int .i64 jA, .int .i64 jm, .int .i64 jp, .int .i64 jn, .int .i64 jM, .str jL, .list jt jz]] =
 optO (C lb n QaU [.list jy b6, .agg [.int .i64 j8, .str j6, .int .i64 jA, .int .i64 jm, .int .i64 jp, .int .i64 jn, .int .i64 jM, .str jL, .list jt jz]]) fun ki =>
 optO (CV.asI .i64 ki) fun i20 =>
 bif (i20 != 0) then
 (some (.tup [.list true [], ki]))
 else
 (Qc1 lb n n ja aair2 jb adis4 jy b6 j8 j6 jA jm jp jn jM jL jt jz ki true [] 0) := by kernel_rfl
noncomputable def QeB (lb n gH : Nat) (ja : Bool) (aair2 : LL) (jb : Bool) (adis4 : LL) (jy : Bool) (b6 : LL) (j8 : Int) (j6 : LB) (jA jm jp jn jM : Int) (jL : LB) (jt : Bool) (jz : LL) (md : Bool) (l73 : LL) (gu : Bool) (l75 : LL) (i76 kS : Int) : Option CV :=
 hold (Qar (E0 lb n 0 991) 0 (Qad (sub (B QaD) [1, 1, 1, 1, 1, 0, 1, 0, 0]) ++ [12, 13]) [] (sub (B QaD) [1, 1, 1, 1, 1, 0, 1, 0, 0]) (Qaj 0 (seqK (E0 lb n 0 994) (sub (B QaD) [1, 1, 1, 1, 1, 0]) (sub (B QaD) [1, 1, 1, 1, 1, 1]) (retK Tryz.prog (R QaD) 0 (outK (Qaf Tryz.prog QaD))))) gH ⟨fr 129 [(0, .val (.agg [.list ja aair2, .list jb adis4])), (1, .val (.list jy b6)), (2, .val (.agg [.int .i64 j8, .str j6, .int .i64 jA, .int .i64 jm, .int .i64 jp, .int .i64 jn, .int .i64 jM, .str jL, .list jt jz])), (3, .ptr 0 3 0), (5, .ptr 0 5 0), (6, .lst true true 42 []), (7, vI 0), (8, .lst true md 42 l73), (9, .lst true gu 42 l75), (10, vI i76), (11, vI kS)], [bx 129 [(3, some [.val (.list ja aair2), .val (.list jb adis4)]), (5, some [vI j8, vS j6, vI jA, vI jm, vI jp, vI jn, vI jM, vS jL, .val (.list jt jz)])]], KK⟩)
noncomputable def Qg8 (lb n : Nat) (ja : Bool) (aair2 : LL) (jb : Bool) (adis4 : LL) (jy : Bool) (b6 : LL) (j8 : Int) (j6 : LB) (jA jm jp jn jM : Int) (jL : LB) (jt : Bool) (jz : LL) (yv : Bool) (l158 : LL) (yV : Bool) (l160 : LL) (w7 ye : Int) : Option CV :=
 hold (E0 lb n 0 994 (sub (B QaD) [1, 1, 1, 1, 1, 1]) (retK Tryz.prog (R QaD) 0 (outK (Qaf Tryz.prog QaD))) ⟨fr 129 [(0, .val (.agg [.list ja aair2, .list jb adis4])), (1, .val (.list jy b6)), (2, .val (.agg [.int .i64 j8, .str j6, .int .i64 jA, .int .i64 jm, .int .i64 jp, .int .i64 jn, .int .i64 jM, .str jL, .list jt jz])), (3, .ptr 0 3 0), (5, .ptr 0 5 0), (6, .lst true true 42 []), (7, vI 0), (8, .lst true yv 42 l158), (9, .lst true yV 42 l160), (10, vI w7), (11, vI ye)], [bx 129 [(3, some [.val (.list ja aair2), .val (.list jb adis4)]), (5, some [vI j8, vS j6, vI jA, vI jm, vI jp, vI jn, vI jM, vS jL, .val (.list jt jz)])]], KK⟩)
noncomputable def QfO (lb n : Nat) (ja : Bool) (aair2 : LL) (jb : Bool) (adis4 : LL) (jy : Bool) (b6 : LL) (j8 : Int) (j6 : LB) (jA jm jp jn jM : Int) (jL : LB) (jt : Bool) (jz : LL) (w7 ye : Int) (kl : Bool) (kj : LL) (kI : Bool) (l166 : LL) (kA : LB) (i168 kB kD i171 : Int) (ky : Bool) (kE : LL) : Option CV :=
 hold (E0 lb n 0 991 (sub (B QaD) [1, 1, 1, 1, 1, 1, 1, 1, 1]) (retK Tryz.prog (R QaD) 0 (outK (Qaf Tryz.prog QaD))) ⟨fr 129 [(0, .val (.agg [.list ja aair2, .list jb adis4])), (1, .val (.list jy b6)), (2, .val (.agg [.int .i64 j8, .str j6, .int .i64 jA, .int .i64 jm, .int .i64 jp, .int .i64 jn, .int .i64 jM, .str jL, .list jt jz])), (3, .ptr 0 3 0), (5, .ptr 0 5 0), (6, .lst true true 42 []), (7, vI 0), (8, .lst true kl 42 kj), (9, .lst true kI 42 l166), (10, vI w7), (11, vI ye)], [bx 129 [(3, some [.val (.list ja aair2), .val (.list jb adis4)]), (5, some [vI j8, vS j6, vI jA, vI jm, vI jp, vI jn, vI jM, vS jL, .val (.list jt jz)]), (14, some [vS kA, vI i168, vI kB, vI kD, vI i171, .val (.list ky kE)])]], KK⟩)
noncomputable def QgT (lb n nk : Nat) (ja : Bool) (aair2 : LL) (jb : Bool) (adis4 : LL) (jy : Bool) (b6 : LL) (j8 : Int) (j6 : LB) (jA jm jp jn jM : Int) (jL : LB) (jt : Bool) (jz : LL) (kl : Bool) (kj : LL) (kI : Bool) (l166 : LL) (w7 ye : Int) (kA : LB) (i168 kB kD i171 : Int) (ky : Bool) (kE : LL) (gc : Int) : Option CV :=
 hold (Qar (E0 lb n 0 987) 0 (Qad (sub (B QaD) [1, 1, 1, 1, 1, 1, 1, 1, 1, 0, 1, 0, 0]) ++ [16]) [] (sub (B QaD) [1, 1, 1, 1, 1, 1, 1, 1, 1, 0, 1, 0, 0]) (Qaj 2 (seqK (E0 lb n 0 990) (sub (B QaD) [1, 1, 1, 1, 1, 1, 1, 1, 1, 0]) (sub (B QaD) [1, 1, 1, 1, 1, 1, 1, 1, 1, 1]) (retK Tryz.prog (R QaD) 0 (outK (Qaf Tryz.prog QaD))))) nk ⟨fr 129 [(0, .val (.agg [.list ja aair2, .list jb adis4])), (1, .val (.list jy b6)), (2, .val (.agg [.int .i64 j8, .str j6, .int .i64 jA, .int .i64 jm, .int .i64 jp, .int .i64 jn, .int .i64 jM, .str jL, .list jt jz])), (3, .ptr 0 3 0), (5, .ptr 0 5 0), (6, .lst true true 42 []), (7, vI 0), (8, .lst true kl 42 kj), (9, .lst true kI 42 l166), (10, vI w7), (11, vI ye), (15, vI gc)], [bx 129 [(3, some [.val (.list ja aair2), .val (.list jb adis4)]), (5, some [vI j8, vS j6, vI jA, vI jm, vI jp, vI jn, vI jM, vS jL, .val (.list jt jz)]), (14, some [vS kA, vI i168, vI kB, vI kD, vI i171, .val (.list ky kE)])]], KK⟩)
noncomputable def Qnk (lb n : Nat) (ja : Bool) (aair2 : LL) (jb : Bool) (adis4 : LL) (jy : Bool) (b6 : LL) (j8 : Int) (j6 : LB) (jA jm jp jn jM : Int) (jL : LB) (jt : Bool) (jz : LL) (kl : Bool) (kj : LL) (kI : Bool) (l166 : LL) (w7 ye : Int) (kA : LB) (i168 kB kD i171 : Int) (ky : Bool) (kE : LL) (i212 : Int) : Option CV :=
 hold (E0 lb n 0 990 (sub (B QaD) [1, 1, 1, 1, 1, 1, 1, 1, 1, 1]) (retK Tryz.prog (R QaD) 0 (outK (Qaf Tryz.prog QaD))) ⟨fr 129 [(0, .val (.agg [.list ja aair2, .list jb adis4])), (1, .val (.list jy b6)), (2, .val (.agg [.int .i64 j8, .str j6, .int .i64 jA, .int .i64 jm, .int .i64 jp, .int .i64 jn, .int .i64 jM, .str jL, .list jt jz])), (3, .ptr 0 3 0), (5, .ptr 0 5 0), (6, .lst true true 42 []), (7, vI 0), (8, .lst true kl 42 kj), (9, .lst true kI 42 l166), (10, vI w7), (11, vI ye), (15, vI i212)], [bx 129 [(3, some [.val (.list ja aair2), .val (.list jb adis4)]), (5, some [vI j8, vS j6, vI jA, vI jm, vI jp, vI jn, vI jM, vS jL, .val (.list jt jz)]), (14, some [vS kA, vI i168, vI kB, vI kD, vI i171, .val (.list ky kE)])]], KK⟩)
theorem QpV (lb n : Nat) (ja : Bool) (aair2 : LL) (jb : Bool) (adis4 : LL) (jy : Bool) (b6 : LL) (j8 : Int) (j6 : LB) (jA jm jp jn jM : Int) (jL : LB) (jt : Bool) (jz : LL) (kl : Bool) (kj : LL) (kI : Bool) (l166 : LL) (w7 ye : Int) (kA : LB) (i168 kB kD i171 : Int) (ky : Bool) (kE : LL) (i212 : Int) :
 Qnk lb n ja aair2 jb adis4 jy b6 j8 j6 jA jm jp jn jM jL jt jz kl kj kI l166 w7 ye kA i168 kB kD i171 ky kE i212 =
 some (.tup [.list kl kj, .int .i64 0]) := (Qac _).trans (by kernel_rfl)
theorem QiL (lb n nk : Nat) (ja : Bool) (aair2 : LL) (jb : Bool) (adis4 : LL) (jy : Bool) (b6 : LL) (j8 : Int) (j6 : LB) (jA jm jp jn jM : Int) (jL : LB) (jt : Bool) (jz : LL) (kl : Bool) (kj : LL) (kI : Bool) (l166 : LL) (w7 ye : Int) (kA : LB) (i168 kB kD i171 : Int) (ky : Bool) (kE : LL) (gc : Int) :
 QgT lb n (nk + 1) ja aair2 jb adis4 jy b6 j8 j6 jA jm jp jn jM jL jt jz kl kj kI l166 w7 ye kA i168 kB kD i171 ky kE gc =
 bif (decide (gc < (l166.length : Int))) then
 (optO (atL l166 gc) fun c200 =>
 chkO (c200.length == 6) (
 optO (c200[0]?) fun sw =>
 optO (c200[1]?) fun sj =>
 optO (c200[2]?) fun zk =>
 optO (c200[3]?) fun ls =>
 optO (c200[4]?) fun se =>
 optO (c200[5]?) fun ly =>
 optO (C lb n Qam [.agg [.list ja aair2, .list jb adis4], .agg [sw, sj, zk, ls, se, ly]]) fun qO =>
 optO (CV.asL qO) fun zD =>
 bif (decide ((zD.2.length : Int) > 0)) then
 (optO (CV.asL qO) fun ll =>
 optO (atL ll.2 0) fun c210 =>
 chkO (c210.length == 2) (
 optO (c210[0]?) fun zA =>
 some (.tup [.list true [], zA])))
 else
 (QgT lb n nk ja aair2 jb adis4 jy b6 j8 j6 jA jm jp jn jM jL jt jz kl kj kI l166 w7 ye kA i168 kB kD i171 ky kE (IntKind.wrap .i64 (gc + 1)))))
 else
 (Qnk lb n ja aair2 jb adis4 jy b6 j8 j6 jA jm jp jn jM jL jt jz kl kj kI l166 w7 ye kA i168 kB kD i171 ky kE gc) := (Qac _).trans (by kernel_rfl)
theorem Qq7 (lb n : Nat) (ja : Bool) (aair2 : LL) (jb : Bool) (adis4 : LL) (jy : Bool) (b6 : LL) (j8 : Int) (j6 : LB) (jA jm jp jn jM : Int) (jL : LB) (jt : Bool) (jz : LL) (w7 ye : Int) (kl : Bool) (kj : LL) (kI : Bool) (l166 : LL) (kA : LB) (i168 kB kD i171 : Int) (ky : Bool) (kE : LL) :
 QfO lb n ja aair2 jb adis4 jy b6 j8 j6 jA jm jp jn jM jL jt jz w7 ye kl kj kI l166 kA i168 kB kD i171 ky kE =
 QgT lb n n ja aair2 jb adis4 jy b6 j8 j6 jA jm jp jn jM jL jt jz kl kj kI l166 w7 ye kA i168 kB kD i171 ky kE 0 := (Qac _).trans (by kernel_rfl)
noncomputable def Qfx (lb n : Nat) (ja : Bool) (aair2 : LL) (jb : Bool) (adis4 : LL) (jy : Bool) (b6 : LL) (j8 : Int) (j6 : LB) (jA jm jp jn jM : Int) (jL : LB) (jt : Bool) (jz : LL) (yv : Bool) (l158 : LL) (yV : Bool) (l160 : LL) (w7 ye : Int) : Option CV :=
 hold (E0 lb n 0 991 (sub (B QaD) [1, 1, 1, 1, 1, 1, 1, 1, 1]) (retK Tryz.prog (R QaD) 0 (outK (Qaf Tryz.prog QaD))) ⟨fr 129 [(0, .val (.agg [.list ja aair2, .list jb adis4])), (1, .val (.list jy b6)), (2, .val (.agg [.int .i64 j8, .str j6, .int .i64 jA, .int .i64 jm, .int .i64 jp, .int .i64 jn, .int .i64 jM, .str jL, .list jt jz])), (3, .ptr 0 3 0), (5, .ptr 0 5 0), (6, .lst true true 42 []), (7, vI 0), (8, .lst true yv 42 l158), (9, .lst true yV 42 l160), (10, vI w7), (11, vI ye)], [bx 129 [(3, some [.val (.list ja aair2), .val (.list jb adis4)]), (5, some [vI j8, vS j6, vI jA, vI jm, vI jp, vI jn, vI jM, vS jL, .val (.list jt jz)])]], KK⟩)
noncomputable def Qhb (lb n nG : Nat) (ja : Bool) (aair2 : LL) (jb : Bool) (adis4 : LL) (jy : Bool) (b6 : LL) (j8 : Int) (j6 : LB) (jA jm jp jn jM : Int) (jL : LB) (jt : Bool) (jz : LL) (yv : Bool) (l158 : LL) (yV : Bool) (l160 : LL) (w7 ye gg : Int) : Option CV :=
 hold (Qar (E0 lb n 0 987) 0 (Qad (sub (B QaD) [1, 1, 1, 1, 1, 1, 1, 1, 1, 0, 1, 0, 0]) ++ [16]) [] (sub (B QaD) [1, 1, 1, 1, 1, 1, 1, 1, 1, 0, 1, 0, 0]) (Qaj 2 (seqK (E0 lb n 0 990) (sub (B QaD) [1, 1, 1, 1, 1, 1, 1, 1, 1, 0]) (sub (B QaD) [1, 1, 1, 1, 1, 1, 1, 1, 1, 1]) (retK Tryz.prog (R QaD) 0 (outK (Qaf Tryz.prog QaD))))) nG ⟨fr 129 [(0, .val (.agg [.list ja aair2, .list jb adis4])), (1, .val (.list jy b6)), (2, .val (.agg [.int .i64 j8, .str j6, .int .i64 jA, .int .i64 jm, .int .i64 jp, .int .i64 jn, .int .i64 jM, .str jL, .list jt jz])), (3, .ptr 0 3 0), (5, .ptr 0 5 0), (6, .lst true true 42 []), (7, vI 0), (8, .lst true yv 42 l158), (9, .lst true yV 42 l160), (10, vI w7), (11, vI ye), (15, vI gg)], [bx 129 [(3, some [.val (.list ja aair2), .val (.list jb adis4)]), (5, some [vI j8, vS j6, vI jA, vI jm, vI jp, vI jn, vI jM, vS jL, .val (.list jt jz)])]], KK⟩)
noncomputable def Qnx (lb n : Nat) (ja : Bool) (aair2 : LL) (jb : Bool) (adis4 : LL) (jy : Bool) (b6 : LL) (j8 : Int) (j6 : LB) (jA jm jp jn jM : Int) (jL : LB) (jt : Bool) (jz : LL) (yv : Bool) (l158 : LL) (yV : Bool) (l160 : LL) (w7 ye pA : Int) : Option CV :=
 hold (E0 lb n 0 990 (sub (B QaD) [1, 1, 1, 1, 1, 1, 1, 1, 1, 1]) (retK Tryz.prog (R QaD) 0 (outK (Qaf Tryz.prog QaD))) ⟨fr 129 [(0, .val (.agg [.list ja aair2, .list jb adis4])), (1, .val (.list jy b6)), (2, .val (.agg [.int .i64 j8, .str j6, .int .i64 jA, .int .i64 jm, .int .i64 jp, .int .i64 jn, .int .i64 jM, .str jL, .list jt jz])), (3, .ptr 0 3 0), (5, .ptr 0 5 0), (6, .lst true true 42 []), (7, vI 0), (8, .lst true yv 42 l158), (9, .lst true yV 42 l160), (10, vI w7), (11, vI ye), (15, vI pA)], [bx 129 [(3, some [.val (.list ja aair2), .val (.list jb adis4)]), (5, some [vI j8, vS j6, vI jA, vI jm, vI jp, vI jn, vI jM, vS jL, .val (.list jt jz)])]], KK⟩)
theorem QpO (lb n : Nat) (ja : Bool) (aair2 : LL) (jb : Bool) (adis4 : LL) (jy : Bool) (b6 : LL) (j8 : Int) (j6 : LB) (jA jm jp jn jM : Int) (jL : LB) (jt : Bool) (jz : LL) (yv : Bool) (l158 : LL) (yV : Bool) (l160 : LL) (w7 ye pA : Int) :
 Qnx lb n ja aair2 jb adis4 jy b6 j8 j6 jA jm jp jn jM jL jt jz yv l158 yV l160 w7 ye pA =
 some (.tup [.list yv l158, .int .i64 0]) := (Qac _).trans (by kernel_rfl)
theorem Qiy (lb n nG : Nat) (ja : Bool) (aair2 : LL) (jb : Bool) (adis4 : LL) (jy : Bool) (b6 : LL) (j8 : Int) (j6 : LB) (jA jm jp jn jM : Int) (jL : LB) (jt : Bool) (jz : LL) (yv : Bool) (l158 : LL) (yV : Bool) (l160 : LL) (w7 ye gg : Int) :
 Qhb lb n (nG + 1) ja aair2 jb adis4 jy b6 j8 j6 jA jm jp jn jM jL jt jz yv l158 yV l160 w7 ye gg =
 bif (decide (gg < (l160.length : Int))) then
 (optO (atL l160 gg) fun c239 =>
 chkO (c239.length == 6) (
 optO (c239[0]?) fun su =>
 optO (c239[1]?) fun sO =>
 optO (c239[2]?) fun sq =>
 optO (c239[3]?) fun lf =>
 optO (c239[4]?) fun sy =>
 optO (c239[5]?) fun lF =>
 optO (C lb n Qam [.agg [.list ja aair2, .list jb adis4], .agg [su, sO, sq, lf, sy, lF]]) fun qL =>
 optO (CV.asL qL) fun ss =>
 bif (decide ((ss.2.length : Int) > 0)) then
 (optO (CV.asL qL) fun zd =>
 optO (atL zd.2 0) fun c249 =>
 chkO (c249.length == 2) (
 optO (c249[0]?) fun zo =>
 some (.tup [.list true [], zo])))
 else
 (Qhb lb n nG ja aair2 jb adis4 jy b6 j8 j6 jA jm jp jn jM jL jt jz yv l158 yV l160 w7 ye (IntKind.wrap .i64 (gg + 1)))))
 else
 (Qnx lb n ja aair2 jb adis4 jy b6 j8 j6 jA jm jp jn jM jL jt jz yv l158 yV l160 w7 ye gg) := (Qac _).trans (by kernel_rfl)
theorem Qql (lb n : Nat) (ja : Bool) (aair2 : LL) (jb : Bool) (adis4 : LL) (jy : Bool) (b6 : LL) (j8 : Int) (j6 : LB) (jA jm jp jn jM : Int) (jL : LB) (jt : Bool) (jz : LL) (yv : Bool) (l158 : LL) (yV : Bool) (l160 : LL) (w7 ye : Int) :
 Qfx lb n ja aair2 jb adis4 jy b6 j8 j6 jA jm jp jn jM jL jt jz yv l158 yV l160 w7 ye =
 Qhb lb n n ja aair2 jb adis4 jy b6 j8 j6 jA jm jp jn jM jL jt jz yv l158 yV l160 w7 ye 0 := (Qac _).trans (by kernel_rfl)
theorem Qrc (lb n : Nat) (ja : Bool) (aair2 : LL) (jb : Bool) (adis4 : LL) (jy : Bool) (b6 : LL) (j8 : Int) (j6 : LB) (jA jm jp jn jM : Int) (jL : LB) (jt : Bool) (jz : LL) (yv : Bool) (l158 : LL) (yV : Bool) (l160 : LL) (w7 ye : Int) :
 Qg8 lb n ja aair2 jb adis4 jy b6 j8 j6 jA jm jp jn jM jL jt jz yv l158 yV l160 w7 ye =
 bif (j8 == 1) then
 (bif (decide (w7 > 0)) then
 (some (.tup [.list true [], .int .i64 6]))
 else
 (bif (j8 != 1) then
 (bif (w7 == 0) then
 (some (.tup [.list true [], .int .i64 7]))
 else
 (bif (j8 == 1) then
 (chkO (room (l158.length + 1) 72) (
 chkO (room (l160.length + 1) 72) (
 QfO lb n ja aair2 jb adis4 jy b6 j8 j6 jA jm jp jn jM jL jt jz w7 ye (yv && false) (l158 ++ [[CV.str j6, CV.int .i64 jA, CV.int .i64 jm, CV.int .i64 jp, CV.int .i64 jn, CV.list jt jz]]) (yV && false) (l160 ++ [[CV.str j6, CV.int .i64 jA, CV.int .i64 jm, CV.int .i64 jp, CV.int .i64 jn, CV.list jt jz]]) j6 jA jm jp jn jt jz)))
 else
 (Qfx lb n ja aair2 jb adis4 jy b6 j8 j6 jA jm jp jn jM jL jt jz yv l158 yV l160 w7 ye )))
 else
 (bif (j8 == 1) then
 (chkO (room (l158.length + 1) 72) (
 chkO (room (l160.length + 1) 72) (
 QfO lb n ja aair2 jb adis4 jy b6 j8 j6 jA jm jp jn jM jL jt jz w7 ye (yv && false) (l158 ++ [[CV.str j6, CV.int .i64 jA, CV.int .i64 jm, CV.int .i64 jp, CV.int .i64 jn, CV.list jt jz]]) (yV && false) (l160 ++ [[CV.str j6, CV.int .i64 jA, CV.int .i64 jm, CV.int .i64 jp, CV.int .i64 jn, CV.list jt jz]]) j6 jA jm jp jn jt jz)))
 else
 (Qfx lb n ja aair2 jb adis4 jy b6 j8 j6 jA jm jp jn jM jL jt jz yv l158 yV l160 w7 ye ))))
 else
 (bif (j8 != 1) then
 (bif (w7 == 0) then
 (some (.tup [.list true [], .int .i64 7]))
 else
 (bif (j8 == 1) then
 (chkO (room (l158.length + 1) 72) (
 chkO (room (l160.length + 1) 72) (
 QfO lb n ja aair2 jb adis4 jy b6 j8 j6 jA jm jp jn jM jL jt jz w7 ye (yv && false) (l158 ++ [[CV.str j6, CV.int .i64 jA, CV.int .i64 jm, CV.int .i64 jp, CV.int .i64 jn, CV.list jt jz]]) (yV && false) (l160 ++ [[CV.str j6, CV.int .i64 jA, CV.int .i64 jm, CV.int .i64 jp, CV.int .i64 jn, CV.list jt jz]]) j6 jA jm jp jn jt jz)))
 else
 (Qfx lb n ja aair2 jb adis4 jy b6 j8 j6 jA jm jp jn jM jL jt jz yv l158 yV l160 w7 ye )))
 else
 (bif (j8 == 1) then
 (chkO (room (l158.length + 1) 72) (
 chkO (room (l160.length + 1) 72) (
 QfO lb n ja aair2 jb adis4 jy b6 j8 j6 jA jm jp jn jM jL jt jz w7 ye (yv && false) (l158 ++ [[CV.str j6, CV.int .i64 jA, CV.int .i64 jm, CV.int .i64 jp, CV.int .i64 jn, CV.list jt jz]]) (yV && false) (l160 ++ [[CV.str j6, CV.int .i64 jA, CV.int .i64 jm, CV.int .i64 jp, CV.int .i64 jn, CV.list jt jz]]) j6 jA jm jp jn jt jz)))
 else
 (Qfx lb n ja aair2 jb adis4 jy b6 j8 j6 jA jm jp jn jM jL jt jz yv l158 yV l160 w7 ye ))) := (Qac _).trans (by kernel_rfl)
theorem Qeo (lb n gH : Nat) (ja : Bool) (aair2 : LL) (jb : Bool) (adis4 : LL) (jy : Bool) (b6 : LL) (j8 : Int) (j6 : LB) (jA jm jp jn jM : Int) (jL : LB) (jt : Bool) (jz : LL) (md : Bool) (l73 : LL) (gu : Bool) (l75 : LL) (i76 kS : Int) :
 QeB lb n (gH + 1) ja aair2 jb adis4 jy b6 j8 j6 jA jm jp jn jM jL jt jz md l73 gu l75 i76 kS =
 bif (decide (kS < (b6.length : Int))) then
 (optO (atL b6 kS) fun c118 =>
 chkO (c118.length == 6) (
 optO (c118[0]?) fun sC =>
 optO (c118[1]?) fun sJ =>
 optO (c118[2]?) fun lA =>
 optO (c118[3]?) fun zQ =>
 optO (c118[4]?) fun sd =>
 optO (c118[5]?) fun sW =>
 optO (C lb n Qis [.agg [sC, sJ, lA, zQ, sd, sW], .agg [.int .i64 j8, .str j6, .int .i64 jA, .int .i64 jm, .int .i64 jp, .int .i64 jn, .int .i64 jM, .str jL, .list jt jz]]) fun sI =>
 optO (CV.asB sI) fun zq =>
 bif (!zq) then
 (optO (atL b6 kS) fun c127 =>
 chkO (c127.length == 6) (
 optO (c127[0]?) fun s4 =>
 optO (c127[1]?) fun zw =>
 optO (c127[2]?) fun zg =>
 optO (c127[3]?) fun sz =>
 optO (c127[4]?) fun sT =>
 optO (c127[5]?) fun lg =>
 chkO (room (l73.length + 1) 72) (
 QeB lb n gH ja aair2 jb adis4 jy b6 j8 j6 jA jm jp jn jM jL jt jz (md && false) (l73 ++ [[s4, zw, zg, sz, sT, lg]]) gu l75 i76 (IntKind.wrap .i64 (kS + 1)))))
 else
 (optO (atL b6 kS) fun c134 =>
 chkO (c134.length == 6) (
 optO (c134[0]?) fun lk =>
 optO (c134[1]?) fun zO =>
 optO (c134[2]?) fun zt =>
 optO (c134[3]?) fun zz =>
 optO (c134[4]?) fun zi =>
 optO (c134[5]?) fun sU =>
 optO (C lb n QaY [.agg [lk, zO, zt, zz, zi, sU], .agg [.int .i64 j8, .str j6, .int .i64 jA, .int .i64 jm, .int .i64 jp, .int .i64 jn, .int .i64 jM, .str jL, .list jt jz]]) fun qz =>
 optO (CV.asT qz) fun lm =>
 optO (lm[0]?) fun yQ =>
 optO (CV.asT qz) fun zh =>
 optO (zh[1]?) fun yP =>
 optO (CV.asL yQ) fun gE =>
 chkO (gE.2.all (·.length == 6)) (
 chkO (room (l73.length + gE.2.length) 72) (
 optO (CV.asI .i64 yP) fun zZ =>
 bif (decide (zZ ≥ 0)) then
 (optO (CV.asL yQ) fun s6 =>
 optO (CV.asN yP) fun zC =>
 optO (atL s6.2 zC) fun c150 =>
 chkO (c150.length == 6) (
 optO (c150[0]?) fun sR =>
 optO (c150[1]?) fun lr =>
 optO (c150[2]?) fun sL =>
 optO (c150[3]?) fun zH =>
 optO (c150[4]?) fun nm =>
 optO (c150[5]?) fun sE =>
 chkO (room (l75.length + 1) 72) (
 QeB lb n gH ja aair2 jb adis4 jy b6 j8 j6 jA jm jp jn jM jL jt jz (md && gE.2.isEmpty) (l73 ++ gE.2) (gu && false) (l75 ++ [[sR, lr, sL, zH, nm, sE]]) (IntKind.wrap .i64 (i76 + 1)) (IntKind.wrap .i64 (kS + 1)))))
 else
 (QeB lb n gH ja aair2 jb adis4 jy b6 j8 j6 jA jm jp jn jM jL jt jz (md && gE.2.isEmpty) (l73 ++ gE.2) gu l75 (IntKind.wrap .i64 (i76 + 1)) (IntKind.wrap .i64 (kS + 1)))))))))
 else
 (Qg8 lb n ja aair2 jb adis4 jy b6 j8 j6 jA jm jp jn jM jL jt jz md l73 gu l75 i76 kS) := (Qac _).trans (by kernel_rfl)
theorem QuR (lb n : Nat) (ja : Bool) (aair2 : LL) (jb : Bool) (adis4 : LL) (jy : Bool) (b6 : LL) (j8 : Int) (j6 : LB) (jA jm jp jn jM : Int) (jL : LB) (jt : Bool) (jz : LL) :
 top lb n QaD [.agg [.list ja aair2, .list jb adis4], .list jy b6, .agg [.int .i64 j8, .str j6, .int .i64 jA, .int .i64 jm, .int .i64 jp, .int .i64 jn, .int .i64 jM, .str jL, .list jt jz]] =
 bif (decide (j8 < 1)) then
 (some (.tup [.list true [], .int .i64 8]))
 else
 (bif (decide (j8 > 5)) then
 (some (.tup [.list true [], .int .i64 8]))
 else
 (optO (C lb n Qdk [.agg [.int .i64 jm, .int .i64 jp, .int .i64 jn]]) fun ki =>
 optO (CV.asI .i64 ki) fun i20 =>
 bif (i20 != 0) then
 (optO (C lb n Qdk [.agg [.int .i64 jm, .int .i64 jp, .int .i64 jn]]) fun yh =>
 some (.tup [.list true [], yh]))
 else
 (QeB lb n n ja aair2 jb adis4 jy b6 j8 j6 jA jm jp jn jM jL jt jz true [] true [] 0 0))) := by kernel_rfl
noncomputable def Qco (lb n kd : Nat) (js : LB) (jr jh jj ji : Int) (jq : Bool) (aleg7 : LL) (j9 : Int) (jJ : LB) (jH jk jo jl jB : Int) (jD : LB) (jx : Bool) (jI : LL) (wJ w3 wL vu : Int) (kJ : Bool) (l43 : LL) : Option CV :=
 hold (Qar (E0 lb n 0 993) 0 (Qad (sub (B Qaq) [1, 1, 1, 0, 1, 0, 0]) ++ []) [9] (sub (B Qaq) [1, 1, 1, 0, 1, 0, 0]) (Qaj 0 (seqK (E0 lb n 0 996) (sub (B Qaq) [1, 1, 1, 0]) (sub (B Qaq) [1, 1, 1, 1]) (retK Tryz.prog (R Qaq) 0 (outK (Qaf Tryz.prog Qaq))))) kd ⟨fr 63 [(0, .val (.agg [.str js, .int .i64 jr, .int .i64 jh, .int .i64 jj, .int .i64 ji, .list jq aleg7])), (1, .val (.agg [.int .i64 j9, .str jJ, .int .i64 jH, .int .i64 jk, .int .i64 jo, .int .i64 jl, .int .i64 jB, .str jD, .list jx jI])), (2, .val (.agg [.int .i64 wJ, .int .i64 w3, .int .i64 wL])), (3, .ptr 0 3 0), (4, .ptr 0 4 0), (5, .ptr 0 5 0), (6, .ptr 0 6 0), (7, .ptr 0 7 0), (8, vI vu), (10, .ptr 0 3 0), (11, vS js), (12, .ptr 0 3 1), (13, vI jr), (14, .val (.agg [.int .i64 wJ, .int .i64 w3, .int .i64 wL])), (15, .val (.agg [.str js, .int .i64 jr, .int .i64 wJ, .int .i64 w3, .int .i64 wL, .list true []]))], [bx 63 [(3, some [vS js, vI jr, vI jh, vI jj, vI ji, .val (.list jq aleg7)]), (4, some [vI j9, vS jJ, vI jH, vI jk, vI jo, vI jl, vI jB, vS jD, .val (.list jx jI)]), (5, some [vI wJ, vI w3, vI wL]), (6, some [.val (.str []), vI 0, vI 0, vI 0, vI 0, .lst true true 94 []]), (7, some [vS js, vI jr, vI wJ, vI w3, vI wL, .lst true kJ 94 l43])]], KK⟩)
noncomputable def QhL (lb n kd : Nat) (js : LB) (jr jh jj ji : Int) (jq : Bool) (aleg7 : LL) (j9 : Int) (jJ : LB) (jH jk jo jl jB : Int) (jD : LB) (jx : Bool) (jI : LL) (wJ w3 wL vu : Int) (c53 : List CV) (vz yX ve kc kL : CV) (kJ : Bool) (l43 : LL) (ma oq : Int) : Option CV :=
 hold (E0 lb n 0 988 (sub (B Qaq) [1, 1, 1, 0, 1, 0, 0, 1, 0, 0, 1, 1]) (Qaj 1 (seqK (E0 lb n 0 991) (sub (B Qaq) [1, 1, 1, 0, 1, 0, 0, 1, 0]) (sub (B Qaq) [1, 1, 1, 0, 1, 0, 0, 1, 1]) (QbK 0 (Qad (sub (B Qaq) [1, 1, 1, 0, 1, 0, 0]) ++ []) [9] (Qar (E0 lb n 0 993) 0 (Qad (sub (B Qaq) [1, 1, 1, 0, 1, 0, 0]) ++ []) [9] (sub (B Qaq) [1, 1, 1, 0, 1, 0, 0]) (Qaj 0 (seqK (E0 lb n 0 996) (sub (B Qaq) [1, 1, 1, 0]) (sub (B Qaq) [1, 1, 1, 1]) (retK Tryz.prog (R Qaq) 0 (outK (Qaf Tryz.prog Qaq))))) kd) (Qaj 0 (seqK (E0 lb n 0 996) (sub (B Qaq) [1, 1, 1, 0]) (sub (B Qaq) [1, 1, 1, 1]) (retK Tryz.prog (R Qaq) 0 (outK (Qaf Tryz.prog Qaq)))))))) ⟨fr 63 [(0, .val (.agg [.str js, .int .i64 jr, .int .i64 jh, .int .i64 jj, .int .i64 ji, .list jq aleg7])), (1, .val (.agg [.int .i64 j9, .str jJ, .int .i64 jH, .int .i64 jk, .int .i64 jo, .int .i64 jl, .int .i64 jB, .str jD, .list jx jI])), (2, .val (.agg [.int .i64 wJ, .int .i64 w3, .int .i64 wL])), (3, .ptr 0 3 0), (4, .ptr 0 4 0), (5, .ptr 0 5 0), (6, .ptr 0 6 0), (7, .ptr 0 7 0), (8, vI vu), (9, .ptr 0 9 0), (10, .ptr 0 3 0), (11, vS js), (12, .ptr 0 3 1), (13, vI jr), (14, .val (.agg [.int .i64 wJ, .int .i64 w3, .int .i64 wL])), (15, .val (.agg [.str js, .int .i64 jr, .int .i64 wJ, .int .i64 w3, .int .i64 wL, .list true []])), (30, .ptr 0 3 5), (31, .val (.list jq aleg7)), (32, vI vu), (33, .cptr c53 0), (34, .val (.agg [vz, yX, ve, kc, kL]))], [bx 63 [(3, some [vS js, vI jr, vI jh, vI jj, vI ji, .val (.list jq aleg7)]), (4, some [vI j9, vS jJ, vI jH, vI jk, vI jo, vI jl, vI jB, vS jD, .val (.list jx jI)]), (5, some [vI wJ, vI w3, vI wL]), (6, some [.val (.str []), vI 0, vI 0, vI 0, vI 0, .lst true true 94 []]), (7, some [vS js, vI jr, vI wJ, vI w3, vI wL, .lst true kJ 94 l43]), (9, some [.val vz, .val yX, vI ma, vI oq, .val kL])]], KK⟩)
theorem Qor (lb n kd : Nat) (js : LB) (jr jh jj ji : Int) (jq : Bool) (aleg7 : LL) (j9 : Int) (jJ : LB) (jH jk jo jl jB : Int) (jD : LB) (jx : Bool) (jI : LL) (wJ w3 wL vu : Int) (c53 : List CV) (vz yX ve kc kL : CV) (kJ : Bool) (l43 : LL) (ma oq : Int) :
 QhL lb n kd js jr jh jj ji jq aleg7 j9 jJ jH jk jo jl jB jD jx jI wJ w3 wL vu c53 vz yX ve kc kL kJ l43 ma oq =
 bif (j9 == 4) then
 (chkO (room (l43.length + 1) 64) (
 Qco lb n kd js jr jh jj ji jq aleg7 j9 jJ jH jk jo jl jB jD jx jI wJ w3 wL (IntKind.wrap .i64 (vu + 1)) (kJ && false) (l43 ++ [[vz, yX, CV.int .i64 ma, CV.int .i64 oq, CV.str jD]])))
 else
 (chkO (room (l43.length + 1) 64) (
 Qco lb n kd js jr jh jj ji jq aleg7 j9 jJ jH jk jo jl jB jD jx jI wJ w3 wL (IntKind.wrap .i64 (vu + 1)) (kJ && false) (l43 ++ [[vz, yX, CV.int .i64 ma, CV.int .i64 oq, kL]]))) := (Qac _).trans (by kernel_rfl)
noncomputable def QhP (lb n kd : Nat) (js : LB) (jr jh jj ji : Int) (jq : Bool) (aleg7 : LL) (j9 : Int) (jJ : LB) (jH jk jo jl jB : Int) (jD : LB) (jx : Bool) (jI : LL) (wJ w3 wL vu : Int) (c53 : List CV) (vz yX ve kc kL : CV) (kJ : Bool) (l43 : LL) : Option CV :=
 hold (E0 lb n 0 988 (sub (B Qaq) [1, 1, 1, 0, 1, 0, 0, 1, 0, 0, 1, 1]) (Qaj 1 (seqK (E0 lb n 0 991) (sub (B Qaq) [1, 1, 1, 0, 1, 0, 0, 1, 0]) (sub (B Qaq) [1, 1, 1, 0, 1, 0, 0, 1, 1]) (QbK 0 (Qad (sub (B Qaq) [1, 1, 1, 0, 1, 0, 0]) ++ []) [9] (Qar (E0 lb n 0 993) 0 (Qad (sub (B Qaq) [1, 1, 1, 0, 1, 0, 0]) ++ []) [9] (sub (B Qaq) [1, 1, 1, 0, 1, 0, 0]) (Qaj 0 (seqK (E0 lb n 0 996) (sub (B Qaq) [1, 1, 1, 0]) (sub (B Qaq) [1, 1, 1, 1]) (retK Tryz.prog (R Qaq) 0 (outK (Qaf Tryz.prog Qaq))))) kd) (Qaj 0 (seqK (E0 lb n 0 996) (sub (B Qaq) [1, 1, 1, 0]) (sub (B Qaq) [1, 1, 1, 1]) (retK Tryz.prog (R Qaq) 0 (outK (Qaf Tryz.prog Qaq)))))))) ⟨fr 63 [(0, .val (.agg [.str js, .int .i64 jr, .int .i64 jh, .int .i64 jj, .int .i64 ji, .list jq aleg7])), (1, .val (.agg [.int .i64 j9, .str jJ, .int .i64 jH, .int .i64 jk, .int .i64 jo, .int .i64 jl, .int .i64 jB, .str jD, .list jx jI])), (2, .val (.agg [.int .i64 wJ, .int .i64 w3, .int .i64 wL])), (3, .ptr 0 3 0), (4, .ptr 0 4 0), (5, .ptr 0 5 0), (6, .ptr 0 6 0), (7, .ptr 0 7 0), (8, vI vu), (9, .ptr 0 9 0), (10, .ptr 0 3 0), (11, vS js), (12, .ptr 0 3 1), (13, vI jr), (14, .val (.agg [.int .i64 wJ, .int .i64 w3, .int .i64 wL])), (15, .val (.agg [.str js, .int .i64 jr, .int .i64 wJ, .int .i64 w3, .int .i64 wL, .list true []])), (30, .ptr 0 3 5), (31, .val (.list jq aleg7)), (32, vI vu), (33, .cptr c53 0), (34, .val (.agg [vz, yX, ve, kc, kL]))], [bx 63 [(3, some [vS js, vI jr, vI jh, vI jj, vI ji, .val (.list jq aleg7)]), (4, some [vI j9, vS jJ, vI jH, vI jk, vI jo, vI jl, vI jB, vS jD, .val (.list jx jI)]), (5, some [vI wJ, vI w3, vI wL]), (6, some [.val (.str []), vI 0, vI 0, vI 0, vI 0, .lst true true 94 []]), (7, some [vS js, vI jr, vI wJ, vI w3, vI wL, .lst true kJ 94 l43]), (9, some [.val vz, .val yX, .val ve, .val kc, .val kL])]], KK⟩)
theorem Qoo (lb n kd : Nat) (js : LB) (jr jh jj ji : Int) (jq : Bool) (aleg7 : LL) (j9 : Int) (jJ : LB) (jH jk jo jl jB : Int) (jD : LB) (jx : Bool) (jI : LL) (wJ w3 wL vu : Int) (c53 : List CV) (vz yX ve kc kL : CV) (kJ : Bool) (l43 : LL) :
 QhP lb n kd js jr jh jj ji jq aleg7 j9 jJ jH jk jo jl jB jD jx jI wJ w3 wL vu c53 vz yX ve kc kL kJ l43 =
 bif (j9 == 4) then
 (chkO (room (l43.length + 1) 64) (
 Qco lb n kd js jr jh jj ji jq aleg7 j9 jJ jH jk jo jl jB jD jx jI wJ w3 wL (IntKind.wrap .i64 (vu + 1)) (kJ && false) (l43 ++ [[vz, yX, ve, kc, CV.str jD]])))
 else
 (chkO (room (l43.length + 1) 64) (
 Qco lb n kd js jr jh jj ji jq aleg7 j9 jJ jH jk jo jl jB jD jx jI wJ w3 wL (IntKind.wrap .i64 (vu + 1)) (kJ && false) (l43 ++ [[vz, yX, ve, kc, kL]]))) := (Qac _).trans (by kernel_rfl)
noncomputable def QkP (lb n : Nat) (js : LB) (jr jh jj ji : Int) (jq : Bool) (aleg7 : LL) (j9 : Int) (jJ : LB) (jH jk jo jl jB : Int) (jD : LB) (jx : Bool) (jI : LL) (wJ w3 wL ku : Int) (pO : Bool) (pQ : LL) : Option CV :=
 hold (E0 lb n 0 996 (sub (B Qaq) [1, 1, 1, 1]) (retK Tryz.prog (R Qaq) 0 (outK (Qaf Tryz.prog Qaq))) ⟨fr 63 [(0, .val (.agg [.str js, .int .i64 jr, .int .i64 jh, .int .i64 jj, .int .i64 ji, .list jq aleg7])), (1, .val (.agg [.int .i64 j9, .str jJ, .int .i64 jH, .int .i64 jk, .int .i64 jo, .int .i64 jl, .int .i64 jB, .str jD, .list jx jI])), (2, .val (.agg [.int .i64 wJ, .int .i64 w3, .int .i64 wL])), (3, .ptr 0 3 0), (4, .ptr 0 4 0), (5, .ptr 0 5 0), (6, .ptr 0 6 0), (7, .ptr 0 7 0), (8, vI ku), (10, .ptr 0 3 0), (11, vS js), (12, .ptr 0 3 1), (13, vI jr), (14, .val (.agg [.int .i64 wJ, .int .i64 w3, .int .i64 wL])), (15, .val (.agg [.str js, .int .i64 jr, .int .i64 wJ, .int .i64 w3, .int .i64 wL, .list true []]))], [bx 63 [(3, some [vS js, vI jr, vI jh, vI jj, vI ji, .val (.list jq aleg7)]), (4, some [vI j9, vS jJ, vI jH, vI jk, vI jo, vI jl, vI jB, vS jD, .val (.list jx jI)]), (5, some [vI wJ, vI w3, vI wL]), (6, some [.val (.str []), vI 0, vI 0, vI 0, vI 0, .lst true true 94 []]), (7, some [vS js, vI jr, vI wJ, vI w3, vI wL, .lst true pO 94 pQ])]], KK⟩)
theorem Qof (lb n : Nat) (js : LB) (jr jh jj ji : Int) (jq : Bool) (aleg7 : LL) (j9 : Int) (jJ : LB) (jH jk jo jl jB : Int) (jD : LB) (jx : Bool) (jI : LL) (wJ w3 wL ku : Int) (pO : Bool) (pQ : LL) :
 QkP lb n js jr jh jj ji jq aleg7 j9 jJ jH jk jo jl jB jD jx jI wJ w3 wL ku pO pQ =
 some (.agg [.str js, .int .i64 jr, .int .i64 wJ, .int .i64 w3, .int .i64 wL, .list pO pQ]) := (Qac _).trans (by kernel_rfl)
theorem Qhi (lb n kd : Nat) (js : LB) (jr jh jj ji : Int) (jq : Bool) (aleg7 : LL) (j9 : Int) (jJ : LB) (jH jk jo jl jB : Int) (jD : LB) (jx : Bool) (jI : LL) (wJ w3 wL vu : Int) (kJ : Bool) (l43 : LL) :
 Qco lb n (kd + 1) js jr jh jj ji jq aleg7 j9 jJ jH jk jo jl jB jD jx jI wJ w3 wL vu kJ l43 =
 bif (decide (vu < (aleg7.length : Int))) then
 (optO (atL aleg7 vu) fun c53 =>
 chkO (c53.length == 5) (
 optO (c53[0]?) fun vz =>
 optO (c53[1]?) fun yX =>
 optO (c53[2]?) fun ve =>
 optO (c53[3]?) fun kc =>
 optO (c53[4]?) fun kL =>
 bif (j9 == 3) then
 (optO (CV.asI .i64 ve) fun lO =>
 optO (CV.asI .i64 kc) fun rG =>
 QhL lb n kd js jr jh jj ji jq aleg7 j9 jJ jH jk jo jl jB jD jx jI wJ w3 wL vu c53 vz yX ve kc kL kJ l43 (IntKind.wrap .i64 (lO + jB)) (IntKind.wrap .i64 (rG + jB)))
 else
 (QhP lb n kd js jr jh jj ji jq aleg7 j9 jJ jH jk jo jl jB jD jx jI wJ w3 wL vu c53 vz yX ve kc kL kJ l43 )))
 else
 (QkP lb n js jr jh jj ji jq aleg7 j9 jJ jH jk jo jl jB jD jx jI wJ w3 wL vu kJ l43) := (Qac _).trans (by kernel_rfl)
theorem QrL (lb n : Nat) (js : LB) (jr jh jj ji : Int) (jq : Bool) (aleg7 : LL) (j9 : Int) (jJ : LB) (jH jk jo jl jB : Int) (jD : LB) (jx : Bool) (jI : LL) (wJ w3 wL : Int) :
 top lb n Qaq [.agg [.str js, .int .i64 jr, .int .i64 jh, .int .i64 jj, .int .i64 ji, .list jq aleg7], .agg [.int .i64 j9, .str jJ, .int .i64 jH, .int .i64 jk, .int .i64 jo, .int .i64 jl, .int .i64 jB, .str jD, .list jx jI], .agg [.int .i64 wJ, .int .i64 w3, .int .i64 wL]] =
 bif (j9 == 5) then
 (some (.agg [.str js, .int .i64 jr, .int .i64 wJ, .int .i64 w3, .int .i64 wL, .list jx jI]))
 else
 (Qco lb n n js jr jh jj ji jq aleg7 j9 jJ jH jk jo jl jB jD jx jI wJ w3 wL 0 true []) := by kernel_rfl
noncomputable def QdU (lb n kx : Nat) (js : LB) (jr jh jj ji : Int) (jq : Bool) (aleg7 : LL) (j9 : Int) (jJ : LB) (jH jk jo jl jB : Int) (jD : LB) (jx : Bool) (jI : LL) (wZ wn yh x23 wA yc wz : CV) (oE : Bool) (l108 : LL) (o0 vq : Int) : Option CV :=
 hold (Qar (E0 lb n 0 991) 0 (Qad (sub (B QaY) [1, 1, 1, 1, 1, 0, 1, 0, 0]) ++ []) [] (sub (B QaY) [1, 1, 1, 1, 1, 0, 1, 0, 0]) (Qaj 0 (seqK (E0 lb n 0 994) (sub (B QaY) [1, 1, 1, 1, 1, 0]) (sub (B QaY) [1, 1, 1, 1, 1, 1]) (retK Tryz.prog (R QaY) 0 (outK (Qaf Tryz.prog QaY))))) kx ⟨fr 83 [(0, .val (.agg [.str js, .int .i64 jr, .int .i64 jh, .int .i64 jj, .int .i64 ji, .list jq aleg7])), (1, .val (.agg [.int .i64 j9, .str jJ, .int .i64 jH, .int .i64 jk, .int .i64 jo, .int .i64 jl, .int .i64 jB, .str jD, .list jx jI])), (2, .ptr 0 2 0), (3, .ptr 0 3 0), (4, .lst true true 42 []), (5, vI 0), (6, vV wZ), (7, .ptr 0 7 0), (8, vV wn), (9, .lst true oE 42 l108), (10, vI o0), (11, vI vq), (12, .ptr 0 2 2), (13, .val (.agg [.int .i64 jh, .int .i64 jj, .int .i64 ji])), (14, .ptr 0 3 3), (15, .val (.agg [.int .i64 jk, .int .i64 jo, .int .i64 jl])), (16, vV wZ), (17, vV yh), (18, .ptr 0 2 2), (19, .val (.agg [.int .i64 jh, .int .i64 jj, .int .i64 ji])), (20, .ptr 0 3 3), (21, .val (.agg [.int .i64 jk, .int .i64 jo, .int .i64 jl])), (22, vV yh), (23, vV x23), (24, vV wn)], [bx 83 [(2, some [vS js, vI jr, vI jh, vI jj, vI ji, .val (.list jq aleg7)]), (3, some [vI j9, vS jJ, vI jH, vI jk, vI jo, vI jl, vI jB, vS jD, .val (.list jx jI)]), (7, some [.val wA, .val yc, .val wz])]], KK⟩)
noncomputable def Qdr (lb n kx : Nat) (js : LB) (jr jh jj ji : Int) (jq : Bool) (aleg7 : LL) (j9 : Int) (jJ : LB) (jH jk jo jl jB : Int) (jD : LB) (jx : Bool) (jI : LL) (wZ wn : CV) (vq : Int) (yh x23 wA yc wz : CV) (mj : Bool) (l176 : LL) (g0 : Int) : Option CV :=
 hold (E0 lb n 0 987 (sub (B QaY) [1, 1, 1, 1, 1, 0, 1, 0, 0, 1, 0, 0, 1]) (Qaj 1 (seqK (E0 lb n 0 989) (sub (B QaY) [1, 1, 1, 1, 1, 0, 1, 0, 0, 1, 0]) (sub (B QaY) [1, 1, 1, 1, 1, 0, 1, 0, 0, 1, 1]) (QbK 0 (Qad (sub (B QaY) [1, 1, 1, 1, 1, 0, 1, 0, 0]) ++ []) [] (Qar (E0 lb n 0 991) 0 (Qad (sub (B QaY) [1, 1, 1, 1, 1, 0, 1, 0, 0]) ++ []) [] (sub (B QaY) [1, 1, 1, 1, 1, 0, 1, 0, 0]) (Qaj 0 (seqK (E0 lb n 0 994) (sub (B QaY) [1, 1, 1, 1, 1, 0]) (sub (B QaY) [1, 1, 1, 1, 1, 1]) (retK Tryz.prog (R QaY) 0 (outK (Qaf Tryz.prog QaY))))) kx) (Qaj 0 (seqK (E0 lb n 0 994) (sub (B QaY) [1, 1, 1, 1, 1, 0]) (sub (B QaY) [1, 1, 1, 1, 1, 1]) (retK Tryz.prog (R QaY) 0 (outK (Qaf Tryz.prog QaY)))))))) ⟨fr 83 [(0, .val (.agg [.str js, .int .i64 jr, .int .i64 jh, .int .i64 jj, .int .i64 ji, .list jq aleg7])), (1, .val (.agg [.int .i64 j9, .str jJ, .int .i64 jH, .int .i64 jk, .int .i64 jo, .int .i64 jl, .int .i64 jB, .str jD, .list jx jI])), (2, .ptr 0 2 0), (3, .ptr 0 3 0), (4, .lst true true 42 []), (5, vI 0), (6, vV wZ), (7, .ptr 0 7 0), (8, vV wn), (9, .lst true mj 42 l176), (10, vI g0), (11, vI vq), (12, .ptr 0 2 2), (13, .val (.agg [.int .i64 jh, .int .i64 jj, .int .i64 ji])), (14, .ptr 0 3 3), (15, .val (.agg [.int .i64 jk, .int .i64 jo, .int .i64 jl])), (16, vV wZ), (17, vV yh), (18, .ptr 0 2 2), (19, .val (.agg [.int .i64 jh, .int .i64 jj, .int .i64 ji])), (20, .ptr 0 3 3), (21, .val (.agg [.int .i64 jk, .int .i64 jo, .int .i64 jl])), (22, vV yh), (23, vV x23), (24, vV wn)], [bx 83 [(2, some [vS js, vI jr, vI jh, vI jj, vI ji, .val (.list jq aleg7)]), (3, some [vI j9, vS jJ, vI jH, vI jk, vI jo, vI jl, vI jB, vS jD, .val (.list jx jI)]), (7, some [.val wA, .val yc, .val wz])]], KK⟩)
theorem Qkh (lb n kx : Nat) (js : LB) (jr jh jj ji : Int) (jq : Bool) (aleg7 : LL) (j9 : Int) (jJ : LB) (jH jk jo jl jB : Int) (jD : LB) (jx : Bool) (jI : LL) (wZ wn : CV) (vq : Int) (yh x23 wA yc wz : CV) (mj : Bool) (l176 : LL) (g0 : Int) :
 Qdr lb n kx js jr jh jj ji jq aleg7 j9 jJ jH jk jo jl jB jD jx jI wZ wn vq yh x23 wA yc wz mj l176 g0 =
 optO (CV.asL wZ) fun lC =>
 bif (decide (vq < (lC.2.length : Int))) then
 (optO (CV.asL wZ) fun lq =>
 optO (atL lq.2 vq) fun c180 =>
 chkO (c180.length == 3) (
 optO (c180[0]?) fun sk =>
 optO (c180[1]?) fun sV =>
 optO (c180[2]?) fun ze =>
 chkO (room (l176.length + 1) 72) (
 QdU lb n kx js jr jh jj ji jq aleg7 j9 jJ jH jk jo jl jB jD jx jI wZ wn yh x23 wA yc wz (mj && false) (l176 ++ [[CV.str js, CV.int .i64 jr, sk, sV, ze, CV.list jq aleg7]]) g0 (IntKind.wrap .i64 (vq + 1)))))
 else
 (QdU lb n kx js jr jh jj ji jq aleg7 j9 jJ jH jk jo jl jB jD jx jI wZ wn yh x23 wA yc wz mj l176 g0 (IntKind.wrap .i64 (vq + 1))) := (Qac _).trans (by kernel_rfl)
noncomputable def QnC (lb n : Nat) (js : LB) (jr jh jj ji : Int) (jq : Bool) (aleg7 : LL) (j9 : Int) (jJ : LB) (jH jk jo jl jB : Int) (jD : LB) (jx : Bool) (jI : LL) (wZ wn yh x23 wA yc wz : CV) (mK : Bool) (ng : LL) (mT pm : Int) : Option CV :=
 hold (E0 lb n 0 994 (sub (B QaY) [1, 1, 1, 1, 1, 1]) (retK Tryz.prog (R QaY) 0 (outK (Qaf Tryz.prog QaY))) ⟨fr 83 [(0, .val (.agg [.str js, .int .i64 jr, .int .i64 jh, .int .i64 jj, .int .i64 ji, .list jq aleg7])), (1, .val (.agg [.int .i64 j9, .str jJ, .int .i64 jH, .int .i64 jk, .int .i64 jo, .int .i64 jl, .int .i64 jB, .str jD, .list jx jI])), (2, .ptr 0 2 0), (3, .ptr 0 3 0), (4, .lst true true 42 []), (5, vI 0), (6, vV wZ), (7, .ptr 0 7 0), (8, vV wn), (9, .lst true mK 42 ng), (10, vI mT), (11, vI pm), (12, .ptr 0 2 2), (13, .val (.agg [.int .i64 jh, .int .i64 jj, .int .i64 ji])), (14, .ptr 0 3 3), (15, .val (.agg [.int .i64 jk, .int .i64 jo, .int .i64 jl])), (16, vV wZ), (17, vV yh), (18, .ptr 0 2 2), (19, .val (.agg [.int .i64 jh, .int .i64 jj, .int .i64 ji])), (20, .ptr 0 3 3), (21, .val (.agg [.int .i64 jk, .int .i64 jo, .int .i64 jl])), (22, vV yh), (23, vV x23), (24, vV wn)], [bx 83 [(2, some [vS js, vI jr, vI jh, vI jj, vI ji, .val (.list jq aleg7)]), (3, some [vI j9, vS jJ, vI jH, vI jk, vI jo, vI jl, vI jB, vS jD, .val (.list jx jI)]), (7, some [.val wA, .val yc, .val wz])]], KK⟩)
theorem Qqt (lb n : Nat) (js : LB) (jr jh jj ji : Int) (jq : Bool) (aleg7 : LL) (j9 : Int) (jJ : LB) (jH jk jo jl jB : Int) (jD : LB) (jx : Bool) (jI : LL) (wZ wn yh x23 wA yc wz : CV) (mK : Bool) (ng : LL) (mT pm : Int) :
 QnC lb n js jr jh jj ji jq aleg7 j9 jJ jH jk jo jl jB jD jx jI wZ wn yh x23 wA yc wz mK ng mT pm =
 some (.tup [.list mK ng, .int .i64 mT]) := (Qac _).trans (by kernel_rfl)
theorem QdC (lb n kx : Nat) (js : LB) (jr jh jj ji : Int) (jq : Bool) (aleg7 : LL) (j9 : Int) (jJ : LB) (jH jk jo jl jB : Int) (jD : LB) (jx : Bool) (jI : LL) (wZ wn yh x23 wA yc wz : CV) (oE : Bool) (l108 : LL) (o0 vq : Int) :
 QdU lb n (kx + 1) js jr jh jj ji jq aleg7 j9 jJ jH jk jo jl jB jD jx jI wZ wn yh x23 wA yc wz oE l108 o0 vq =
 optO (CV.asL wZ) fun lz =>
 bif (decide (vq ≤ (lz.2.length : Int))) then
 (bif (decide (o0 < 0)) then
 (bif (j9 != 2) then
 (optO (CV.asL wZ) fun zX =>
 bif (vq == (zX.2.length : Int)) then
 (optO (C lb n Qaq [.agg [.str js, .int .i64 jr, .int .i64 jh, .int .i64 jj, .int .i64 ji, .list jq aleg7], .agg [.int .i64 j9, .str jJ, .int .i64 jH, .int .i64 jk, .int .i64 jo, .int .i64 jl, .int .i64 jB, .str jD, .list jx jI], .agg [wA, yc, wz]]) fun zl =>
 optO (CV.asA zl) fun c168 =>
 chkO (c168.length == 6) (
 optO (c168[0]?) fun lu =>
 optO (c168[1]?) fun sS =>
 optO (c168[2]?) fun zj =>
 optO (c168[3]?) fun mR =>
 optO (c168[4]?) fun s8 =>
 optO (c168[5]?) fun z6 =>
 chkO (room (l108.length + 1) 72) (
 Qdr lb n kx js jr jh jj ji jq aleg7 j9 jJ jH jk jo jl jB jD jx jI wZ wn vq yh x23 wA yc wz (oE && false) (l108 ++ [[lu, sS, zj, mR, s8, z6]]) (l108.length : Int))))
 else
 (optO (CV.asL wZ) fun sF =>
 optO (atL sF.2 vq) fun c185 =>
 chkO (c185.length == 3) (
 optO (c185[0]?) fun zU =>
 optO (CV.asI .i64 zU) fun za =>
 optO (CV.asI .i64 wA) fun zK =>
 bif (decide (za > zK)) then
 (optO (C lb n Qaq [.agg [.str js, .int .i64 jr, .int .i64 jh, .int .i64 jj, .int .i64 ji, .list jq aleg7], .agg [.int .i64 j9, .str jJ, .int .i64 jH, .int .i64 jk, .int .i64 jo, .int .i64 jl, .int .i64 jB, .str jD, .list jx jI], .agg [wA, yc, wz]]) fun lB =>
 optO (CV.asA lB) fun c190 =>
 chkO (c190.length == 6) (
 optO (c190[0]?) fun sG =>
 optO (c190[1]?) fun li =>
 optO (c190[2]?) fun zI =>
 optO (c190[3]?) fun zn =>
 optO (c190[4]?) fun zu =>
 optO (c190[5]?) fun zP =>
 chkO (room (l108.length + 1) 72) (
 Qdr lb n kx js jr jh jj ji jq aleg7 j9 jJ jH jk jo jl jB jD jx jI wZ wn vq yh x23 wA yc wz (oE && false) (l108 ++ [[sG, li, zI, zn, zu, zP]]) (l108.length : Int))))
 else
 (Qdr lb n kx js jr jh jj ji jq aleg7 j9 jJ jH jk jo jl jB jD jx jI wZ wn vq yh x23 wA yc wz oE l108 o0))))
 else
 (Qdr lb n kx js jr jh jj ji jq aleg7 j9 jJ jH jk jo jl jB jD jx jI wZ wn vq yh x23 wA yc wz oE l108 o0))
 else
 (Qdr lb n kx js jr jh jj ji jq aleg7 j9 jJ jH jk jo jl jB jD jx jI wZ wn vq yh x23 wA yc wz oE l108 o0))
 else
 (QnC lb n js jr jh jj ji jq aleg7 j9 jJ jH jk jo jl jB jD jx jI wZ wn yh x23 wA yc wz oE l108 o0 vq) := (Qac _).trans (by kernel_rfl)
theorem Quy (lb n : Nat) (js : LB) (jr jh jj ji : Int) (jq : Bool) (aleg7 : LL) (j9 : Int) (jJ : LB) (jH jk jo jl jB : Int) (jD : LB) (jx : Bool) (jI : LL) :
 top lb n QaY [.agg [.str js, .int .i64 jr, .int .i64 jh, .int .i64 jj, .int .i64 ji, .list jq aleg7], .agg [.int .i64 j9, .str jJ, .int .i64 jH, .int .i64 jk, .int .i64 jo, .int .i64 jl, .int .i64 jB, .str jD, .list jx jI]] =
 optO (C lb n Qbj [.agg [.int .i64 jh, .int .i64 jj, .int .i64 ji], .agg [.int .i64 jk, .int .i64 jo, .int .i64 jl]]) fun wZ =>
 optO (C lb n Qb6 [.agg [.int .i64 jh, .int .i64 jj, .int .i64 ji], .agg [.int .i64 jk, .int .i64 jo, .int .i64 jl]]) fun yh =>
 optO (CV.asT yh) fun rR =>
 optO (rR[0]?) fun x23 =>
 optO (CV.asT yh) fun nQ =>
 optO (nQ[1]?) fun wn =>
 optO (CV.asA x23) fun c26 =>
 chkO (c26.length == 3) (
 optO (c26[0]?) fun wA =>
 optO (c26[1]?) fun yc =>
 optO (c26[2]?) fun wz =>
 QdU lb n n js jr jh jj ji jq aleg7 j9 jJ jH jk jo jl jB jD jx jI wZ wn yh x23 wA yc wz true [] (-1) 0) := by kernel_rfl
end Go.Proofs
