/- Equations of functions, printed by program. Conditions: none. -/
import Derived.Test.YtdcpdknginpohaaGreatDoorEv
namespace Go.Proofs
open Go.Am
set_option maxRecDepth 100000
set_option linter.unusedVariables false
theorem Qmd (lb n) (we : LB) (wd jH jP jJ : Int) (j8) (aleg7 : LL) (yl : Int) (wX : LB) (w3 wg wp wh wQ : Int) (wZ : LB) (wP) (wY : LL) :
 top lb n Qd7 [.agg [.str we, .int .i64 wd, .int .i64 jH, .int .i64 jP, .int .i64 jJ, .list j8 aleg7], .agg [.int .i64 yl, .str wX, .int .i64 w3, .int .i64 wg, .int .i64 wp, .int .i64 wh, .int .i64 wQ, .str wZ, .list wP wY]] =
 bif (!(we == wX)) then
 (some (.bool false))
 else
 (bif (wd != w3) then
 (some (.bool false))
 else
 (optO (C lb n QeW [.agg [.int .i64 jH, .int .i64 jP, .int .i64 jJ], .agg [.int .i64 wg, .int .i64 wp, .int .i64 wh]]) fun yz =>
 optO (CV.asT yz) fun t21 =>
 optO (t21[0]?) fun wi =>
 optO (CV.asT yz) fun pS =>
 optO (pS[1]?) fun w6 =>
 optO (CV.asA wi) fun c25 =>
 chkO (c25.length == 3) (
 optO (c25[0]?) fun wR =>
 optO (c25[1]?) fun wC =>
 optO (c25[2]?) fun y8 =>
 some (w6)))) := by kernel_rfl
theorem QtW (lb n) (we : LB) (wd jH jP jJ : Int) (j8) (aleg7 : LL) (gm : LB) (oH kg kR kB : Int) (o9) (gC : LL) :
 top lb n Qki [.agg [.str we, .int .i64 wd, .int .i64 jH, .int .i64 jP, .int .i64 jJ, .list j8 aleg7], .agg [.str gm, .int .i64 oH, .int .i64 kg, .int .i64 kR, .int .i64 kB, .list o9 gC]] =
 optO (C lb n Qcv [.agg [.int .i64 jH, .int .i64 jP, .int .i64 jJ], .agg [.int .i64 kg, .int .i64 kR, .int .i64 kB]]) fun pD =>
 optO (CV.asT pD) fun lL =>
 optO (lL[0]?) fun w8 =>
 optO (CV.asT pD) fun t20 =>
 optO (t20[1]?) fun yi =>
 optO (CV.asA w8) fun c22 =>
 chkO (c22.length == 3) (
 optO (c22[0]?) fun x23 =>
 optO (c22[1]?) fun w6 =>
 optO (c22[2]?) fun wG =>
 bif (we == gm) then
 (bif (wd == oH) then
 (some (yi))
 else
 (some (.bool false)))
 else
 (some (.bool false))) := by kernel_rfl
noncomputable def r08_Check_L1 :=
 fun lb n (yp : Nat) (ja : Bool) (aair2 : LL) (jb : Bool) (adis4 : LL) (ji : Bool) (b6 : LL) (kI : Bool) (od : LL) yd =>
 hold (Qas (E0 lb n 0 994) 0 (Qad (sub (B Qah) [1, 1, 0, 1, 0, 0]) ++ [7, 8, 9, 9, 10, 11, 10, 11]) [] (sub (B Qah) [1, 1, 0, 1, 0, 0]) (Qaj 0 (seqK (E0 lb n 0 997) (sub (B Qah) [1, 1, 0]) (sub (B Qah) [1, 1, 1]) (retK Tryz.prog (R Qah) 0 (outK (Qag Tryz.prog Qah))))) yp ⟨fr 74 [(0, .val (.agg [.list ja aair2, .list jb adis4])), (1, .val (.list ji b6)), (2, .ptr 0 2 0), (4, .lst true true 83 []), (5, .lst true kI 83 od), (6, vI yd)], [bx 74 [(2, some [.val (.list ja aair2), .val (.list jb adis4)])]], KK⟩)
noncomputable def Qg6 (lb n mF yp : Nat) (ja : Bool) (aair2 : LL) (jb : Bool) (adis4 : LL) (ji : Bool) (b6 : LL) (yd : Int) (s140 : LB) (w7 yq : CV) (c141 : List CV) (yT yU yS yY yX yW : CV) (gE : Bool) (l158 : LL) (kY : Int) : Option CV :=
 hold (Qas (E0 lb n 0 985) 0 (Qad (sub (B Qah) [1, 1, 0, 1, 0, 0, 1, 0, 0, 1, 1, 0, 1, 0, 0]) ++ []) [] (sub (B Qah) [1, 1, 0, 1, 0, 0, 1, 0, 0, 1, 1, 0, 1, 0, 0]) (Qaj 2 (seqK (E0 lb n 0 988) (sub (B Qah) [1, 1, 0, 1, 0, 0, 1, 0, 0, 1, 1, 0]) (sub (B Qah) [1, 1, 0, 1, 0, 0, 1, 0, 0, 1, 1, 1]) (Qaj 1 (seqK (E0 lb n 0 992) (sub (B Qah) [1, 1, 0, 1, 0, 0, 1, 0]) (sub (B Qah) [1, 1, 0, 1, 0, 0, 1, 1]) (Qbs 0 (Qad (sub (B Qah) [1, 1, 0, 1, 0, 0]) ++ [7, 8, 9, 9, 10, 11, 10, 11]) [] (Qas (E0 lb n 0 994) 0 (Qad (sub (B Qah) [1, 1, 0, 1, 0, 0]) ++ [7, 8, 9, 9, 10, 11, 10, 11]) [] (sub (B Qah) [1, 1, 0, 1, 0, 0]) (Qaj 0 (seqK (E0 lb n 0 997) (sub (B Qah) [1, 1, 0]) (sub (B Qah) [1, 1, 1]) (retK Tryz.prog (R Qah) 0 (outK (Qag Tryz.prog Qah))))) yp) (Qaj 0 (seqK (E0 lb n 0 997) (sub (B Qah) [1, 1, 0]) (sub (B Qah) [1, 1, 1]) (retK Tryz.prog (R Qah) 0 (outK (Qag Tryz.prog Qah)))))))))) mF ⟨fr 74 [(0, .val (.agg [.list ja aair2, .list jb adis4])), (1, .val (.list ji b6)), (2, .ptr 0 2 0), (4, .lst true true 83 []), (5, .lst true gE 83 l158), (6, vI yd), (7, .val (.str (([102, 108, 105, 103, 104, 116, 32] : LB) ++ s140))), (8, vV w7), (9, vI kY), (18, vI yd), (19, vV yq), (20, .val (.str (([102, 108, 105, 103, 104, 116, 32] : LB) ++ s140))), (21, .val (.agg [.list ja aair2, .list jb adis4])), (22, .val (.list ji b6)), (23, vI yd), (24, .cptr c141 0), (25, .val (.agg [yT, yU, yS, yY, yX, yW])), (26, vV w7)], [bx 74 [(2, some [.val (.list ja aair2), .val (.list jb adis4)])]], KK⟩)
noncomputable def Qjz (lb n yp : Nat) (ja : Bool) (aair2 : LL) (jb : Bool) (adis4 : LL) (ji : Bool) (b6 : LL) (yd : Int) (s140 : LB) (w7 yq : CV) (c141 : List CV) (yT yU yS yY yX yW : CV) (vr : Bool) (l178 : LL) (vb : Int) : Option CV :=
 hold (E0 lb n 0 988 (sub (B Qah) [1, 1, 0, 1, 0, 0, 1, 0, 0, 1, 1, 1]) (Qaj 1 (seqK (E0 lb n 0 992) (sub (B Qah) [1, 1, 0, 1, 0, 0, 1, 0]) (sub (B Qah) [1, 1, 0, 1, 0, 0, 1, 1]) (Qbs 0 (Qad (sub (B Qah) [1, 1, 0, 1, 0, 0]) ++ [7, 8, 9, 9, 10, 11, 10, 11]) [] (Qas (E0 lb n 0 994) 0 (Qad (sub (B Qah) [1, 1, 0, 1, 0, 0]) ++ [7, 8, 9, 9, 10, 11, 10, 11]) [] (sub (B Qah) [1, 1, 0, 1, 0, 0]) (Qaj 0 (seqK (E0 lb n 0 997) (sub (B Qah) [1, 1, 0]) (sub (B Qah) [1, 1, 1]) (retK Tryz.prog (R Qah) 0 (outK (Qag Tryz.prog Qah))))) yp) (Qaj 0 (seqK (E0 lb n 0 997) (sub (B Qah) [1, 1, 0]) (sub (B Qah) [1, 1, 1]) (retK Tryz.prog (R Qah) 0 (outK (Qag Tryz.prog Qah)))))))) ⟨fr 74 [(0, .val (.agg [.list ja aair2, .list jb adis4])), (1, .val (.list ji b6)), (2, .ptr 0 2 0), (4, .lst true true 83 []), (5, .lst true vr 83 l178), (6, vI yd), (7, .val (.str (([102, 108, 105, 103, 104, 116, 32] : LB) ++ s140))), (8, vV w7), (9, vI vb), (18, vI yd), (19, vV yq), (20, .val (.str (([102, 108, 105, 103, 104, 116, 32] : LB) ++ s140))), (21, .val (.agg [.list ja aair2, .list jb adis4])), (22, .val (.list ji b6)), (23, vI yd), (24, .cptr c141 0), (25, .val (.agg [yT, yU, yS, yY, yX, yW])), (26, vV w7)], [bx 74 [(2, some [.val (.list ja aair2), .val (.list jb adis4)])]], KK⟩)
noncomputable def QfM (lb n gu yp : Nat) (ja : Bool) (aair2 : LL) (jb : Bool) (adis4 : LL) (ji : Bool) (b6 : LL) (vr : Bool) (l178 : LL) (yd : Int) (s140 : LB) (w7 : CV) (vb : Int) (yq : CV) (c141 : List CV) (yT yU yS yY yX yW gq : CV) (kX : Int) : Option CV :=
 hold (Qas (E0 lb n 0 983) 0 (Qad (sub (B Qah) [1, 1, 0, 1, 0, 0, 1, 0, 0, 1, 1, 1, 1, 0, 1, 0, 0]) ++ []) [] (sub (B Qah) [1, 1, 0, 1, 0, 0, 1, 0, 0, 1, 1, 1, 1, 0, 1, 0, 0]) (Qaj 4 (seqK (E0 lb n 0 986) (sub (B Qah) [1, 1, 0, 1, 0, 0, 1, 0, 0, 1, 1, 1, 1, 0]) (sub (B Qah) [1, 1, 0, 1, 0, 0, 1, 0, 0, 1, 1, 1, 1, 1]) (Qaj 1 (seqK (E0 lb n 0 992) (sub (B Qah) [1, 1, 0, 1, 0, 0, 1, 0]) (sub (B Qah) [1, 1, 0, 1, 0, 0, 1, 1]) (Qbs 0 (Qad (sub (B Qah) [1, 1, 0, 1, 0, 0]) ++ [7, 8, 9, 9, 10, 11, 10, 11]) [] (Qas (E0 lb n 0 994) 0 (Qad (sub (B Qah) [1, 1, 0, 1, 0, 0]) ++ [7, 8, 9, 9, 10, 11, 10, 11]) [] (sub (B Qah) [1, 1, 0, 1, 0, 0]) (Qaj 0 (seqK (E0 lb n 0 997) (sub (B Qah) [1, 1, 0]) (sub (B Qah) [1, 1, 1]) (retK Tryz.prog (R Qah) 0 (outK (Qag Tryz.prog Qah))))) yp) (Qaj 0 (seqK (E0 lb n 0 997) (sub (B Qah) [1, 1, 0]) (sub (B Qah) [1, 1, 1]) (retK Tryz.prog (R Qah) 0 (outK (Qag Tryz.prog Qah)))))))))) gu ⟨fr 74 [(0, .val (.agg [.list ja aair2, .list jb adis4])), (1, .val (.list ji b6)), (2, .ptr 0 2 0), (4, .lst true true 83 []), (5, .lst true vr 83 l178), (6, vI yd), (7, .val (.str (([102, 108, 105, 103, 104, 116, 32] : LB) ++ s140))), (8, vV w7), (9, vI vb), (10, vV gq), (11, vI kX), (18, vI yd), (19, vV yq), (20, .val (.str (([102, 108, 105, 103, 104, 116, 32] : LB) ++ s140))), (21, .val (.agg [.list ja aair2, .list jb adis4])), (22, .val (.list ji b6)), (23, vI yd), (24, .cptr c141 0), (25, .val (.agg [yT, yU, yS, yY, yX, yW])), (26, vV w7)], [bx 74 [(2, some [.val (.list ja aair2), .val (.list jb adis4)])]], KK⟩)
noncomputable def QjB (lb n yp : Nat) (ja : Bool) (aair2 : LL) (jb : Bool) (adis4 : LL) (ji : Bool) (b6 : LL) (vr : Bool) (l178 : LL) (yd : Int) (s140 : LB) (w7 : CV) (vb : Int) (yq : CV) (c141 : List CV) (yT yU yS yY yX yW o7 : CV) (gx : Int) : Option CV :=
 hold (E0 lb n 0 986 (sub (B Qah) [1, 1, 0, 1, 0, 0, 1, 0, 0, 1, 1, 1, 1, 1]) (Qaj 1 (seqK (E0 lb n 0 992) (sub (B Qah) [1, 1, 0, 1, 0, 0, 1, 0]) (sub (B Qah) [1, 1, 0, 1, 0, 0, 1, 1]) (Qbs 0 (Qad (sub (B Qah) [1, 1, 0, 1, 0, 0]) ++ [7, 8, 9, 9, 10, 11, 10, 11]) [] (Qas (E0 lb n 0 994) 0 (Qad (sub (B Qah) [1, 1, 0, 1, 0, 0]) ++ [7, 8, 9, 9, 10, 11, 10, 11]) [] (sub (B Qah) [1, 1, 0, 1, 0, 0]) (Qaj 0 (seqK (E0 lb n 0 997) (sub (B Qah) [1, 1, 0]) (sub (B Qah) [1, 1, 1]) (retK Tryz.prog (R Qah) 0 (outK (Qag Tryz.prog Qah))))) yp) (Qaj 0 (seqK (E0 lb n 0 997) (sub (B Qah) [1, 1, 0]) (sub (B Qah) [1, 1, 1]) (retK Tryz.prog (R Qah) 0 (outK (Qag Tryz.prog Qah)))))))) ⟨fr 74 [(0, .val (.agg [.list ja aair2, .list jb adis4])), (1, .val (.list ji b6)), (2, .ptr 0 2 0), (4, .lst true true 83 []), (5, .lst true vr 83 l178), (6, vI yd), (7, .val (.str (([102, 108, 105, 103, 104, 116, 32] : LB) ++ s140))), (8, vV w7), (9, vI vb), (10, vV o7), (11, vI gx), (18, vI yd), (19, vV yq), (20, .val (.str (([102, 108, 105, 103, 104, 116, 32] : LB) ++ s140))), (21, .val (.agg [.list ja aair2, .list jb adis4])), (22, .val (.list ji b6)), (23, vI yd), (24, .cptr c141 0), (25, .val (.agg [yT, yU, yS, yY, yX, yW])), (26, vV w7)], [bx 74 [(2, some [.val (.list ja aair2), .val (.list jb adis4)])]], KK⟩)
noncomputable def Qi6 (lb n yp : Nat) (ja : Bool) (aair2 : LL) (jb : Bool) (adis4 : LL) (ji : Bool) (b6 : LL) (yd : Int) (mQ : Bool) (mG : LL) (nF : LB) (n7 : CV) (nE : Int) (nA : CV) (nW : Int) : Option CV :=
 hold (E0 lb n 0 992 (sub (B Qah) [1, 1, 0, 1, 0, 0, 1, 1]) (Qbs 0 (Qad (sub (B Qah) [1, 1, 0, 1, 0, 0]) ++ [7, 8, 9, 9, 10, 11, 10, 11]) [] (Qas (E0 lb n 0 994) 0 (Qad (sub (B Qah) [1, 1, 0, 1, 0, 0]) ++ [7, 8, 9, 9, 10, 11, 10, 11]) [] (sub (B Qah) [1, 1, 0, 1, 0, 0]) (Qaj 0 (seqK (E0 lb n 0 997) (sub (B Qah) [1, 1, 0]) (sub (B Qah) [1, 1, 1]) (retK Tryz.prog (R Qah) 0 (outK (Qag Tryz.prog Qah))))) yp) (Qaj 0 (seqK (E0 lb n 0 997) (sub (B Qah) [1, 1, 0]) (sub (B Qah) [1, 1, 1]) (retK Tryz.prog (R Qah) 0 (outK (Qag Tryz.prog Qah)))))) ⟨fr 74 [(0, .val (.agg [.list ja aair2, .list jb adis4])), (1, .val (.list ji b6)), (2, .ptr 0 2 0), (4, .lst true true 83 []), (5, .lst true mQ 83 mG), (6, vI yd), (7, vS nF), (8, vV n7), (9, vI nE), (10, vV nA), (11, vI nW)], [bx 74 [(2, some [.val (.list ja aair2), .val (.list jb adis4)])]], KK⟩)
theorem QjP (lb n yp : Nat) (ja : Bool) (aair2 : LL) (jb : Bool) (adis4 : LL) (ji : Bool) (b6 : LL) (yd : Int) (mQ : Bool) (mG : LL) (nF : LB) (n7 : CV) (nE : Int) (nA : CV) (nW : Int) :
 Qi6 lb n yp ja aair2 jb adis4 ji b6 yd mQ mG nF n7 nE nA nW =
 r08_Check_L1 lb n yp ja aair2 jb adis4 ji b6 mQ mG (IntKind.wrap .i64 (yd + 1)) := (Qaf _).trans (by kernel_rfl)
theorem QpV (lb n yp : Nat) (ja : Bool) (aair2 : LL) (jb : Bool) (adis4 : LL) (ji : Bool) (b6 : LL) (vr : Bool) (l178 : LL) (yd : Int) (s140 : LB) (w7 : CV) (vb : Int) (yq : CV) (c141 : List CV) (yT yU yS yY yX yW o7 : CV) (gx : Int) :
 QjB lb n yp ja aair2 jb adis4 ji b6 vr l178 yd s140 w7 vb yq c141 yT yU yS yY yX yW o7 gx =
 optO (CV.asB o7) fun sg =>
 bif sg then
 (chkO (room (l178.length + 1) 24) (
 Qi6 lb n yp ja aair2 jb adis4 ji b6 yd (vr && false) (l178 ++ [[CV.int .i64 6, CV.str (([102, 108, 105, 103, 104, 116, 32] : LB) ++ s140)]]) (([102, 108, 105, 103, 104, 116, 32] : LB) ++ s140) w7 vb o7 gx))
 else
 (Qi6 lb n yp ja aair2 jb adis4 ji b6 yd vr l178 (([102, 108, 105, 103, 104, 116, 32] : LB) ++ s140) w7 vb o7 gx) := (Qaf _).trans (by kernel_rfl)
theorem QiE (lb n gu yp : Nat) (ja : Bool) (aair2 : LL) (jb : Bool) (adis4 : LL) (ji : Bool) (b6 : LL) (vr : Bool) (l178 : LL) (yd : Int) (s140 : LB) (w7 : CV) (vb : Int) (yq : CV) (c141 : List CV) (yT yU yS yY yX yW gq : CV) (kX : Int) :
 QfM lb n (gu + 1) yp ja aair2 jb adis4 ji b6 vr l178 yd s140 w7 vb yq c141 yT yU yS yY yX yW gq kX =
 bif (decide (kX < yd)) then
 (optO (CV.asB gq) fun qS =>
 bif qS then
 (QfM lb n gu yp ja aair2 jb adis4 ji b6 vr l178 yd s140 w7 vb yq c141 yT yU yS yY yX yW (.bool true) (IntKind.wrap .i64 (kX + 1)))
 else
 (optO (atL b6 kX) fun c215 =>
 chkO (c215.length == 6) (
 optO (c215[0]?) fun sE =>
 optO (c215[1]?) fun sy =>
 optO (c215[2]?) fun zj =>
 optO (c215[3]?) fun s6 =>
 optO (c215[4]?) fun qG =>
 optO (c215[5]?) fun sd =>
 optO (atL b6 yd) fun c222 =>
 chkO (c222.length == 6) (
 optO (c222[0]?) fun qV =>
 optO (c222[1]?) fun sj =>
 optO (c222[2]?) fun sS =>
 optO (c222[3]?) fun q9 =>
 optO (c222[4]?) fun s4 =>
 optO (c222[5]?) fun qJ =>
 optO (C lb n Qki [.agg [sE, sy, zj, s6, qG, sd], .agg [qV, sj, sS, q9, s4, qJ]]) fun sX =>
 QfM lb n gu yp ja aair2 jb adis4 ji b6 vr l178 yd s140 w7 vb yq c141 yT yU yS yY yX yW sX (IntKind.wrap .i64 (kX + 1))))))
 else
 (QjB lb n yp ja aair2 jb adis4 ji b6 vr l178 yd s140 w7 vb yq c141 yT yU yS yY yX yW gq kX) := (Qaf _).trans (by kernel_rfl)
theorem QqG (lb n yp : Nat) (ja : Bool) (aair2 : LL) (jb : Bool) (adis4 : LL) (ji : Bool) (b6 : LL) (yd : Int) (s140 : LB) (w7 yq : CV) (c141 : List CV) (yT yU yS yY yX yW : CV) (vr : Bool) (l178 : LL) (vb : Int) :
 Qjz lb n yp ja aair2 jb adis4 ji b6 yd s140 w7 yq c141 yT yU yS yY yX yW vr l178 vb =
 QfM lb n n yp ja aair2 jb adis4 ji b6 vr l178 yd s140 w7 vb yq c141 yT yU yS yY yX yW (.bool false) 0 := (Qaf _).trans (by kernel_rfl)
theorem Qiw (lb n mF yp : Nat) (ja : Bool) (aair2 : LL) (jb : Bool) (adis4 : LL) (ji : Bool) (b6 : LL) (yd : Int) (s140 : LB) (w7 yq : CV) (c141 : List CV) (yT yU yS yY yX yW : CV) (gE : Bool) (l158 : LL) (kY : Int) :
 Qg6 lb n (mF + 1) yp ja aair2 jb adis4 ji b6 yd s140 w7 yq c141 yT yU yS yY yX yW gE l158 kY =
 optO (CV.asL w7) fun qN =>
 bif (decide (kY < (qN.2.length : Int))) then
 (optO (CV.asL w7) fun sz =>
 optO (atL sz.2 kY) fun c171 =>
 chkO (c171.length == 2) (
 optO (c171[0]?) fun qp =>
 chkO (decide ((([102, 108, 105, 103, 104, 116, 32] : LB) ++ s140).length + [32].length ≤ 9223372036854775807)) (
 optO (CV.asL w7) fun sF =>
 optO (atL sF.2 kY) fun c174 =>
 chkO (c174.length == 2) (
 optO (c174[1]?) fun sY =>
 optO (CV.asS sY) fun s176 =>
 chkO (decide (((([102, 108, 105, 103, 104, 116, 32] : LB) ++ s140) ++ [32]).length + s176.length ≤ 9223372036854775807)) (
 chkO (CV.isCell qp) (
 chkO (room (l158.length + 1) 24) (
 Qg6 lb n mF yp ja aair2 jb adis4 ji b6 yd s140 w7 yq c141 yT yU yS yY yX yW (gE && false) (l158 ++ [[qp, CV.str (((([102, 108, 105, 103, 104, 116, 32] : LB) ++ s140) ++ [32]) ++ s176)]]) (IntKind.wrap .i64 (kY + 1)))))))))
 else
 (Qjz lb n yp ja aair2 jb adis4 ji b6 yd s140 w7 yq c141 yT yU yS yY yX yW gE l158 kY) := (Qaf _).trans (by kernel_rfl)
noncomputable def QmP (lb n : Nat) (ja : Bool) (aair2 : LL) (jb : Bool) (adis4 : LL) (ji : Bool) (b6 : LL) (mR : Bool) (mj : LL) (nz : Int) : Option CV :=
 hold (E0 lb n 0 997 (sub (B Qah) [1, 1, 1]) (retK Tryz.prog (R Qah) 0 (outK (Qag Tryz.prog Qah))) ⟨fr 74 [(0, .val (.agg [.list ja aair2, .list jb adis4])), (1, .val (.list ji b6)), (2, .ptr 0 2 0), (4, .lst true true 83 []), (5, .lst true mR 83 mj), (6, vI nz)], [bx 74 [(2, some [.val (.list ja aair2), .val (.list jb adis4)])]], KK⟩)
theorem Qqe (lb n : Nat) (ja : Bool) (aair2 : LL) (jb : Bool) (adis4 : LL) (ji : Bool) (b6 : LL) (mR : Bool) (mj : LL) (nz : Int) :
 QmP lb n ja aair2 jb adis4 ji b6 mR mj nz =
 some (.list mR mj) := (Qaf _).trans (by kernel_rfl)
theorem QiA (lb n yp : Nat) (ja : Bool) (aair2 : LL) (jb : Bool) (adis4 : LL) (ji : Bool) (b6 : LL) (kI : Bool) (od : LL) (yd : Int) :
 r08_Check_L1 lb n (yp + 1) ja aair2 jb adis4 ji b6 kI od yd =
 bif (decide (yd < (b6.length : Int))) then
 (optO (C lb n QdS [.int .i64 yd]) fun yq =>
 optO (CV.asS yq) fun s140 =>
 chkO (decide (([102, 108, 105, 103, 104, 116, 32] : LB).length + s140.length ≤ 9223372036854775807)) (
 optO (atL b6 yd) fun c141 =>
 chkO (c141.length == 6) (
 optO (c141[0]?) fun yT =>
 optO (c141[1]?) fun yU =>
 optO (c141[2]?) fun yS =>
 optO (c141[3]?) fun yY =>
 optO (c141[4]?) fun yX =>
 optO (c141[5]?) fun yW =>
 optO (C lb n Qan [.agg [.list ja aair2, .list jb adis4], .agg [yT, yU, yS, yY, yX, yW]]) fun w7 =>
 Qg6 lb n n yp ja aair2 jb adis4 ji b6 yd s140 w7 yq c141 yT yU yS yY yX yW kI od 0)))
 else
 (QmP lb n ja aair2 jb adis4 ji b6 kI od yd) := (Qaf _).trans (by kernel_rfl)
theorem Qt2 (lb n : Nat) (ja : Bool) (aair2 : LL) (jb : Bool) (adis4 : LL) (ji : Bool) (b6 : LL) :
 top lb n Qah [.agg [.list ja aair2, .list jb adis4], .list ji b6] =
 r08_Check_L1 lb n n ja aair2 jb adis4 ji b6 true [] 0 := by kernel_rfl
end Go.Proofs
