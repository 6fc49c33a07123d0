/- Equations of functions, printed by program. Conditions: none. -/
import Derived.Test.YtdcpdknginpohaaGreatDoorEv
namespace Go.Proofs
open Go.Am
set_option maxRecDepth 100000
set_option linter.unusedVariables false
theorem Ql9 (lb n) (j8 : LB) (j7 jD jM jE : Int) (j3) (aleg7 : LL) (ye : Int) (wX : LB) (wZ wa wk j9 wR : Int) (wY : LB) (wP) (w3 : LL) :
 top lb n QdW [.agg [.str j8, .int .i64 j7, .int .i64 jD, .int .i64 jM, .int .i64 jE, .list j3 aleg7], .agg [.int .i64 ye, .str wX, .int .i64 wZ, .int .i64 wa, .int .i64 wk, .int .i64 j9, .int .i64 wR, .str wY, .list wP w3]] =
 bif (!(j8 == wX)) then
 (some (.bool false))
 else
 (bif (j7 != wZ) then
 (some (.bool false))
 else
 (optO (C lb n Qgf [.agg [.int .i64 jD, .int .i64 jM, .int .i64 jE], .agg [.int .i64 wa, .int .i64 wk, .int .i64 j9]]) fun yq =>
 optO (CV.asT yq) fun t21 =>
 optO (t21[0]?) fun wb =>
 optO (CV.asT yq) fun mQ =>
 optO (mQ[1]?) fun w4 =>
 optO (CV.asA wb) fun c25 =>
 chkO (c25.length == 3) (
 optO (c25[0]?) fun wQ =>
 optO (c25[1]?) fun wD =>
 optO (c25[2]?) fun wW =>
 some (w4)))) := by kernel_rfl
theorem Qs5 (lb n) (j8 : LB) (j7 jD jM jE : Int) (j3) (aleg7 : LL) (oU : LB) (od kb kH kr : Int) (oH) (gd : LL) :
 top lb n Qkc [.agg [.str j8, .int .i64 j7, .int .i64 jD, .int .i64 jM, .int .i64 jE, .list j3 aleg7], .agg [.str oU, .int .i64 od, .int .i64 kb, .int .i64 kH, .int .i64 kr, .list oH gd]] =
 optO (C lb n Qcu [.agg [.int .i64 jD, .int .i64 jM, .int .i64 jE], .agg [.int .i64 kb, .int .i64 kH, .int .i64 kr]]) fun nT =>
 optO (CV.asT nT) fun zk =>
 optO (zk[0]?) fun w7 =>
 optO (CV.asT nT) fun t20 =>
 optO (t20[1]?) fun ya =>
 optO (CV.asA w7) fun c22 =>
 chkO (c22.length == 3) (
 optO (c22[0]?) fun x23 =>
 optO (c22[1]?) fun w4 =>
 optO (c22[2]?) fun wI =>
 bif (j8 == oU) then
 (bif (j7 == od) then
 (some (ya))
 else
 (some (.bool false)))
 else
 (some (.bool false))) := by kernel_rfl
noncomputable def r10_Big_L1 :=
 fun lb n (nL : Nat) (ja : Bool) (aair2 : LL) (jb : Bool) (adis4 : LL) (jI : Bool) (b6 : LL) yw =>
 hold (Qau (E0 lb n 0 994) 0 (Qae (sub (B Qc4) [1, 1, 0, 1, 0, 0]) ++ []) [] (sub (B Qc4) [1, 1, 0, 1, 0, 0]) (Qal 0 (seqK (E0 lb n 0 997) (sub (B Qc4) [1, 1, 0]) (sub (B Qc4) [1, 1, 1]) (retK Tryz.prog (R Qc4) 0 (outK (Qaj Tryz.prog Qc4))))) nL ⟨fr 33 [(0, .val (.agg [.list ja aair2, .list jb adis4])), (1, .val (.list jI b6)), (2, .ptr 0 2 0), (4, vB false), (5, vI yw)], [bx 33 [(2, some [.val (.list ja aair2), .val (.list jb adis4)])]], KK⟩)
noncomputable def Qqr (lb n : Nat) (ja : Bool) (aair2 : LL) (jb : Bool) (adis4 : LL) (jI : Bool) (b6 : LL) (kE : Int) : Option CV :=
 hold (E0 lb n 0 997 (sub (B Qc4) [1, 1, 1]) (retK Tryz.prog (R Qc4) 0 (outK (Qaj Tryz.prog Qc4))) ⟨fr 33 [(0, .val (.agg [.list ja aair2, .list jb adis4])), (1, .val (.list jI b6)), (2, .ptr 0 2 0), (4, vB false), (5, vI kE)], [bx 33 [(2, some [.val (.list ja aair2), .val (.list jb adis4)])]], KK⟩)
theorem Qsp (lb n : Nat) (ja : Bool) (aair2 : LL) (jb : Bool) (adis4 : LL) (jI : Bool) (b6 : LL) (kE : Int) :
 Qqr lb n ja aair2 jb adis4 jI b6 kE =
 some (.bool false) := (Qad _).trans (by kernel_rfl)
theorem Qjx (lb n nL : Nat) (ja : Bool) (aair2 : LL) (jb : Bool) (adis4 : LL) (jI : Bool) (b6 : LL) (yw : Int) :
 r10_Big_L1 lb n (nL + 1) ja aair2 jb adis4 jI b6 yw =
 bif (decide (yw < (b6.length : Int))) then
 (optO (atL b6 yw) fun c29 =>
 chkO (c29.length == 6) (
 optO (c29[0]?) fun wH =>
 optO (c29[1]?) fun wj =>
 optO (c29[2]?) fun wS =>
 optO (c29[3]?) fun wC =>
 optO (c29[4]?) fun yt =>
 optO (c29[5]?) fun yA =>
 optO (C lb n Qck [.agg [.list ja aair2, .list jb adis4], .agg [wH, wj, wS, wC, yt, yA]]) fun o5 =>
 optO (CV.asB o5) fun sL =>
 bif sL then
 (some (.bool true))
 else
 (r10_Big_L1 lb n nL ja aair2 jb adis4 jI b6 (IntKind.wrap .i64 (yw + 1)))))
 else
 (Qqr lb n ja aair2 jb adis4 jI b6 yw) := (Qad _).trans (by kernel_rfl)
theorem Qip (lb n : Nat) (ja : Bool) (aair2 : LL) (jb : Bool) (adis4 : LL) (jI : Bool) (b6 : LL) :
 top lb n Qc4 [.agg [.list ja aair2, .list jb adis4], .list jI b6] =
 bif (decide ((b6.length : Int) > 12)) then
 (some (.bool true))
 else
 (bif (decide ((aair2.length : Int) > 20)) then
 (some (.bool true))
 else
 (bif (decide ((adis4.length : Int) > 40)) then
 (some (.bool true))
 else
 (r10_Big_L1 lb n n ja aair2 jb adis4 jI b6 0))) := by kernel_rfl
theorem Que (lb n : Nat) (pQ : Int) (nM : LB) (pO nd n0 nb pP : Int) (aequ9 : LB) (gz : Bool) (mX : LL) :
 top lb n Qj2 [.agg [.int .i64 pQ, .str nM, .int .i64 pO, .int .i64 nd, .int .i64 n0, .int .i64 nb, .int .i64 pP, .str aequ9, .list gz mX]] =
 bif (decide ((aequ9.length : Int) ≤ 100)) then
 (optO (C lb n Qck [.agg [.list true [], .list true []], .agg [.str nM, .int .i64 0, .int .i64 0, .int .i64 0, .int .i64 0, .list gz mX]]) fun yH =>
 optO (CV.asB yH) fun kc =>
 some (.bool (!kc)))
 else
 (some (.bool false)) := by kernel_rfl
theorem QiI (lb n : Nat) (ja : Bool) (aair2 : LL) (jb : Bool) (adis4 : LL) (jI : Bool) (b6 : LL) :
 top lb n Qkg [.agg [.list ja aair2, .list jb adis4], .list jI b6] =
 optO (C lb n Qc4 [.agg [.list ja aair2, .list jb adis4], .list jI b6]) fun r7 =>
 optO (CV.asB r7) fun b9 =>
 bif (!b9) then
 (optO (C lb n Qak [.agg [.list ja aair2, .list jb adis4]]) fun o7 =>
 optO (CV.asL o7) fun sC =>
 bif ((sC.2.length : Int) == 0) then
 (optO (C lb n Qaf [.agg [.list ja aair2, .list jb adis4], .list jI b6]) fun yH =>
 optO (CV.asL yH) fun zU =>
 some (.bool ((zU.2.length : Int) == 0)))
 else
 (some (.bool false)))
 else
 (some (.bool false)) := by kernel_rfl
noncomputable def QgV (lb n yi : Nat) (ja : Bool) (aair2 : LL) (jb : Bool) (adis4 : LL) (jI : Bool) (b6 : LL) (kv : Bool) (kT : LL) (yc : Int) : Option CV :=
 hold (Qau (E0 lb n 0 994) 0 (Qae (sub (B Qaf) [1, 1, 0, 1, 0, 0]) ++ [7, 8, 9, 9, 10, 11, 10, 11]) [] (sub (B Qaf) [1, 1, 0, 1, 0, 0]) (Qal 0 (seqK (E0 lb n 0 997) (sub (B Qaf) [1, 1, 0]) (sub (B Qaf) [1, 1, 1]) (retK Tryz.prog (R Qaf) 0 (outK (Qaj Tryz.prog Qaf))))) yi ⟨fr 74 [(0, .val (.agg [.list ja aair2, .list jb adis4])), (1, .val (.list jI b6)), (2, .ptr 0 2 0), (4, .lst true true 83 []), (5, .lst true kv 83 kT), (6, vI yc)], [bx 74 [(2, some [.val (.list ja aair2), .val (.list jb adis4)])]], KK⟩)
noncomputable def QgY (lb n gZ yi : Nat) (ja : Bool) (aair2 : LL) (jb : Bool) (adis4 : LL) (jI : Bool) (b6 : LL) (yc : Int) (s140 : LB) (w8 yj : CV) (c141 : List CV) (yP yR yQ yS yL yO : CV) (o6 : Bool) (l158 : LL) (kV : Int) : Option CV :=
 hold (Qau (E0 lb n 0 985) 0 (Qae (sub (B Qaf) [1, 1, 0, 1, 0, 0, 1, 0, 0, 1, 1, 0, 1, 0, 0]) ++ []) [] (sub (B Qaf) [1, 1, 0, 1, 0, 0, 1, 0, 0, 1, 1, 0, 1, 0, 0]) (Qal 2 (seqK (E0 lb n 0 988) (sub (B Qaf) [1, 1, 0, 1, 0, 0, 1, 0, 0, 1, 1, 0]) (sub (B Qaf) [1, 1, 0, 1, 0, 0, 1, 0, 0, 1, 1, 1]) (Qal 1 (seqK (E0 lb n 0 992) (sub (B Qaf) [1, 1, 0, 1, 0, 0, 1, 0]) (sub (B Qaf) [1, 1, 0, 1, 0, 0, 1, 1]) (QbN 0 (Qae (sub (B Qaf) [1, 1, 0, 1, 0, 0]) ++ [7, 8, 9, 9, 10, 11, 10, 11]) [] (Qau (E0 lb n 0 994) 0 (Qae (sub (B Qaf) [1, 1, 0, 1, 0, 0]) ++ [7, 8, 9, 9, 10, 11, 10, 11]) [] (sub (B Qaf) [1, 1, 0, 1, 0, 0]) (Qal 0 (seqK (E0 lb n 0 997) (sub (B Qaf) [1, 1, 0]) (sub (B Qaf) [1, 1, 1]) (retK Tryz.prog (R Qaf) 0 (outK (Qaj Tryz.prog Qaf))))) yi) (Qal 0 (seqK (E0 lb n 0 997) (sub (B Qaf) [1, 1, 0]) (sub (B Qaf) [1, 1, 1]) (retK Tryz.prog (R Qaf) 0 (outK (Qaj Tryz.prog Qaf)))))))))) gZ ⟨fr 74 [(0, .val (.agg [.list ja aair2, .list jb adis4])), (1, .val (.list jI b6)), (2, .ptr 0 2 0), (4, .lst true true 83 []), (5, .lst true o6 83 l158), (6, vI yc), (7, .val (.str (([102, 108, 105, 103, 104, 116, 32] : LB) ++ s140))), (8, vV w8), (9, vI kV), (18, vI yc), (19, vV yj), (20, .val (.str (([102, 108, 105, 103, 104, 116, 32] : LB) ++ s140))), (21, .val (.agg [.list ja aair2, .list jb adis4])), (22, .val (.list jI b6)), (23, vI yc), (24, .cptr c141 0), (25, .val (.agg [yP, yR, yQ, yS, yL, yO])), (26, vV w8)], [bx 74 [(2, some [.val (.list ja aair2), .val (.list jb adis4)])]], KK⟩)
noncomputable def Qjc (lb n yi : Nat) (ja : Bool) (aair2 : LL) (jb : Bool) (adis4 : LL) (jI : Bool) (b6 : LL) (yc : Int) (s140 : LB) (w8 yj : CV) (c141 : List CV) (yP yR yQ yS yL yO : CV) (vm : Bool) (l178 : LL) (yY : Int) : Option CV :=
 hold (E0 lb n 0 988 (sub (B Qaf) [1, 1, 0, 1, 0, 0, 1, 0, 0, 1, 1, 1]) (Qal 1 (seqK (E0 lb n 0 992) (sub (B Qaf) [1, 1, 0, 1, 0, 0, 1, 0]) (sub (B Qaf) [1, 1, 0, 1, 0, 0, 1, 1]) (QbN 0 (Qae (sub (B Qaf) [1, 1, 0, 1, 0, 0]) ++ [7, 8, 9, 9, 10, 11, 10, 11]) [] (Qau (E0 lb n 0 994) 0 (Qae (sub (B Qaf) [1, 1, 0, 1, 0, 0]) ++ [7, 8, 9, 9, 10, 11, 10, 11]) [] (sub (B Qaf) [1, 1, 0, 1, 0, 0]) (Qal 0 (seqK (E0 lb n 0 997) (sub (B Qaf) [1, 1, 0]) (sub (B Qaf) [1, 1, 1]) (retK Tryz.prog (R Qaf) 0 (outK (Qaj Tryz.prog Qaf))))) yi) (Qal 0 (seqK (E0 lb n 0 997) (sub (B Qaf) [1, 1, 0]) (sub (B Qaf) [1, 1, 1]) (retK Tryz.prog (R Qaf) 0 (outK (Qaj Tryz.prog Qaf)))))))) ⟨fr 74 [(0, .val (.agg [.list ja aair2, .list jb adis4])), (1, .val (.list jI b6)), (2, .ptr 0 2 0), (4, .lst true true 83 []), (5, .lst true vm 83 l178), (6, vI yc), (7, .val (.str (([102, 108, 105, 103, 104, 116, 32] : LB) ++ s140))), (8, vV w8), (9, vI yY), (18, vI yc), (19, vV yj), (20, .val (.str (([102, 108, 105, 103, 104, 116, 32] : LB) ++ s140))), (21, .val (.agg [.list ja aair2, .list jb adis4])), (22, .val (.list jI b6)), (23, vI yc), (24, .cptr c141 0), (25, .val (.agg [yP, yR, yQ, yS, yL, yO])), (26, vV w8)], [bx 74 [(2, some [.val (.list ja aair2), .val (.list jb adis4)])]], KK⟩)
noncomputable def Qfz (lb n gb yi : Nat) (ja : Bool) (aair2 : LL) (jb : Bool) (adis4 : LL) (jI : Bool) (b6 : LL) (vm : Bool) (l178 : LL) (yc : Int) (s140 : LB) (w8 : CV) (yY : Int) (yj : CV) (c141 : List CV) (yP yR yQ yS yL yO gp : CV) (kN : Int) : Option CV :=
 hold (Qau (E0 lb n 0 983) 0 (Qae (sub (B Qaf) [1, 1, 0, 1, 0, 0, 1, 0, 0, 1, 1, 1, 1, 0, 1, 0, 0]) ++ []) [] (sub (B Qaf) [1, 1, 0, 1, 0, 0, 1, 0, 0, 1, 1, 1, 1, 0, 1, 0, 0]) (Qal 4 (seqK (E0 lb n 0 986) (sub (B Qaf) [1, 1, 0, 1, 0, 0, 1, 0, 0, 1, 1, 1, 1, 0]) (sub (B Qaf) [1, 1, 0, 1, 0, 0, 1, 0, 0, 1, 1, 1, 1, 1]) (Qal 1 (seqK (E0 lb n 0 992) (sub (B Qaf) [1, 1, 0, 1, 0, 0, 1, 0]) (sub (B Qaf) [1, 1, 0, 1, 0, 0, 1, 1]) (QbN 0 (Qae (sub (B Qaf) [1, 1, 0, 1, 0, 0]) ++ [7, 8, 9, 9, 10, 11, 10, 11]) [] (Qau (E0 lb n 0 994) 0 (Qae (sub (B Qaf) [1, 1, 0, 1, 0, 0]) ++ [7, 8, 9, 9, 10, 11, 10, 11]) [] (sub (B Qaf) [1, 1, 0, 1, 0, 0]) (Qal 0 (seqK (E0 lb n 0 997) (sub (B Qaf) [1, 1, 0]) (sub (B Qaf) [1, 1, 1]) (retK Tryz.prog (R Qaf) 0 (outK (Qaj Tryz.prog Qaf))))) yi) (Qal 0 (seqK (E0 lb n 0 997) (sub (B Qaf) [1, 1, 0]) (sub (B Qaf) [1, 1, 1]) (retK Tryz.prog (R Qaf) 0 (outK (Qaj Tryz.prog Qaf)))))))))) gb ⟨fr 74 [(0, .val (.agg [.list ja aair2, .list jb adis4])), (1, .val (.list jI b6)), (2, .ptr 0 2 0), (4, .lst true true 83 []), (5, .lst true vm 83 l178), (6, vI yc), (7, .val (.str (([102, 108, 105, 103, 104, 116, 32] : LB) ++ s140))), (8, vV w8), (9, vI yY), (10, vV gp), (11, vI kN), (18, vI yc), (19, vV yj), (20, .val (.str (([102, 108, 105, 103, 104, 116, 32] : LB) ++ s140))), (21, .val (.agg [.list ja aair2, .list jb adis4])), (22, .val (.list jI b6)), (23, vI yc), (24, .cptr c141 0), (25, .val (.agg [yP, yR, yQ, yS, yL, yO])), (26, vV w8)], [bx 74 [(2, some [.val (.list ja aair2), .val (.list jb adis4)])]], KK⟩)
noncomputable def Qjb (lb n yi : Nat) (ja : Bool) (aair2 : LL) (jb : Bool) (adis4 : LL) (jI : Bool) (b6 : LL) (vm : Bool) (l178 : LL) (yc : Int) (s140 : LB) (w8 : CV) (yY : Int) (yj : CV) (c141 : List CV) (yP yR yQ yS yL yO oF : CV) (o8 : Int) : Option CV :=
 hold (E0 lb n 0 986 (sub (B Qaf) [1, 1, 0, 1, 0, 0, 1, 0, 0, 1, 1, 1, 1, 1]) (Qal 1 (seqK (E0 lb n 0 992) (sub (B Qaf) [1, 1, 0, 1, 0, 0, 1, 0]) (sub (B Qaf) [1, 1, 0, 1, 0, 0, 1, 1]) (QbN 0 (Qae (sub (B Qaf) [1, 1, 0, 1, 0, 0]) ++ [7, 8, 9, 9, 10, 11, 10, 11]) [] (Qau (E0 lb n 0 994) 0 (Qae (sub (B Qaf) [1, 1, 0, 1, 0, 0]) ++ [7, 8, 9, 9, 10, 11, 10, 11]) [] (sub (B Qaf) [1, 1, 0, 1, 0, 0]) (Qal 0 (seqK (E0 lb n 0 997) (sub (B Qaf) [1, 1, 0]) (sub (B Qaf) [1, 1, 1]) (retK Tryz.prog (R Qaf) 0 (outK (Qaj Tryz.prog Qaf))))) yi) (Qal 0 (seqK (E0 lb n 0 997) (sub (B Qaf) [1, 1, 0]) (sub (B Qaf) [1, 1, 1]) (retK Tryz.prog (R Qaf) 0 (outK (Qaj Tryz.prog Qaf)))))))) ⟨fr 74 [(0, .val (.agg [.list ja aair2, .list jb adis4])), (1, .val (.list jI b6)), (2, .ptr 0 2 0), (4, .lst true true 83 []), (5, .lst true vm 83 l178), (6, vI yc), (7, .val (.str (([102, 108, 105, 103, 104, 116, 32] : LB) ++ s140))), (8, vV w8), (9, vI yY), (10, vV oF), (11, vI o8), (18, vI yc), (19, vV yj), (20, .val (.str (([102, 108, 105, 103, 104, 116, 32] : LB) ++ s140))), (21, .val (.agg [.list ja aair2, .list jb adis4])), (22, .val (.list jI b6)), (23, vI yc), (24, .cptr c141 0), (25, .val (.agg [yP, yR, yQ, yS, yL, yO])), (26, vV w8)], [bx 74 [(2, some [.val (.list ja aair2), .val (.list jb adis4)])]], KK⟩)
noncomputable def QiQ (lb n yi : Nat) (ja : Bool) (aair2 : LL) (jb : Bool) (adis4 : LL) (jI : Bool) (b6 : LL) (yc : Int) (mg : Bool) (g8 : LL) (nf : LB) (nk : CV) (nr : Int) (m8 : CV) (m5 : Int) : Option CV :=
 hold (E0 lb n 0 992 (sub (B Qaf) [1, 1, 0, 1, 0, 0, 1, 1]) (QbN 0 (Qae (sub (B Qaf) [1, 1, 0, 1, 0, 0]) ++ [7, 8, 9, 9, 10, 11, 10, 11]) [] (Qau (E0 lb n 0 994) 0 (Qae (sub (B Qaf) [1, 1, 0, 1, 0, 0]) ++ [7, 8, 9, 9, 10, 11, 10, 11]) [] (sub (B Qaf) [1, 1, 0, 1, 0, 0]) (Qal 0 (seqK (E0 lb n 0 997) (sub (B Qaf) [1, 1, 0]) (sub (B Qaf) [1, 1, 1]) (retK Tryz.prog (R Qaf) 0 (outK (Qaj Tryz.prog Qaf))))) yi) (Qal 0 (seqK (E0 lb n 0 997) (sub (B Qaf) [1, 1, 0]) (sub (B Qaf) [1, 1, 1]) (retK Tryz.prog (R Qaf) 0 (outK (Qaj Tryz.prog Qaf)))))) ⟨fr 74 [(0, .val (.agg [.list ja aair2, .list jb adis4])), (1, .val (.list jI b6)), (2, .ptr 0 2 0), (4, .lst true true 83 []), (5, .lst true mg 83 g8), (6, vI yc), (7, vS nf), (8, vV nk), (9, vI nr), (10, vV m8), (11, vI m5)], [bx 74 [(2, some [.val (.list ja aair2), .val (.list jb adis4)])]], KK⟩)
theorem QjU (lb n yi : Nat) (ja : Bool) (aair2 : LL) (jb : Bool) (adis4 : LL) (jI : Bool) (b6 : LL) (yc : Int) (mg : Bool) (g8 : LL) (nf : LB) (nk : CV) (nr : Int) (m8 : CV) (m5 : Int) :
 QiQ lb n yi ja aair2 jb adis4 jI b6 yc mg g8 nf nk nr m8 m5 =
 QgV lb n yi ja aair2 jb adis4 jI b6 mg g8 (IntKind.wrap .i64 (yc + 1)) := (Qad _).trans (by kernel_rfl)
theorem Qpk (lb n yi : Nat) (ja : Bool) (aair2 : LL) (jb : Bool) (adis4 : LL) (jI : Bool) (b6 : LL) (vm : Bool) (l178 : LL) (yc : Int) (s140 : LB) (w8 : CV) (yY : Int) (yj : CV) (c141 : List CV) (yP yR yQ yS yL yO oF : CV) (o8 : Int) :
 Qjb lb n yi ja aair2 jb adis4 jI b6 vm l178 yc s140 w8 yY yj c141 yP yR yQ yS yL yO oF o8 =
 optO (CV.asB oF) fun qT =>
 bif qT then
 (chkO (room (l178.length + 1) 24) (
 QiQ lb n yi ja aair2 jb adis4 jI b6 yc (vm && false) (l178 ++ [[CV.int .i64 6, CV.str (([102, 108, 105, 103, 104, 116, 32] : LB) ++ s140)]]) (([102, 108, 105, 103, 104, 116, 32] : LB) ++ s140) w8 yY oF o8))
 else
 (QiQ lb n yi ja aair2 jb adis4 jI b6 yc vm l178 (([102, 108, 105, 103, 104, 116, 32] : LB) ++ s140) w8 yY oF o8) := (Qad _).trans (by kernel_rfl)
theorem Qin (lb n gb yi : Nat) (ja : Bool) (aair2 : LL) (jb : Bool) (adis4 : LL) (jI : Bool) (b6 : LL) (vm : Bool) (l178 : LL) (yc : Int) (s140 : LB) (w8 : CV) (yY : Int) (yj : CV) (c141 : List CV) (yP yR yQ yS yL yO gp : CV) (kN : Int) :
 Qfz lb n (gb + 1) yi ja aair2 jb adis4 jI b6 vm l178 yc s140 w8 yY yj c141 yP yR yQ yS yL yO gp kN =
 bif (decide (kN < yc)) then
 (optO (CV.asB gp) fun qo =>
 bif qo then
 (Qfz lb n gb yi ja aair2 jb adis4 jI b6 vm l178 yc s140 w8 yY yj c141 yP yR yQ yS yL yO (.bool true) (IntKind.wrap .i64 (kN + 1)))
 else
 (optO (atL b6 kN) fun c215 =>
 chkO (c215.length == 6) (
 optO (c215[0]?) fun ss =>
 optO (c215[1]?) fun qJ =>
 optO (c215[2]?) fun qx =>
 optO (c215[3]?) fun qV =>
 optO (c215[4]?) fun sz =>
 optO (c215[5]?) fun qw =>
 optO (atL b6 yc) fun c222 =>
 chkO (c222.length == 6) (
 optO (c222[0]?) fun qt =>
 optO (c222[1]?) fun qr =>
 optO (c222[2]?) fun qI =>
 optO (c222[3]?) fun qA =>
 optO (c222[4]?) fun sg =>
 optO (c222[5]?) fun pX =>
 optO (C lb n Qkc [.agg [ss, qJ, qx, qV, sz, qw], .agg [qt, qr, qI, qA, sg, pX]]) fun pY =>
 Qfz lb n gb yi ja aair2 jb adis4 jI b6 vm l178 yc s140 w8 yY yj c141 yP yR yQ yS yL yO pY (IntKind.wrap .i64 (kN + 1))))))
 else
 (Qjb lb n yi ja aair2 jb adis4 jI b6 vm l178 yc s140 w8 yY yj c141 yP yR yQ yS yL yO gp kN) := (Qad _).trans (by kernel_rfl)
theorem QpQ (lb n yi : Nat) (ja : Bool) (aair2 : LL) (jb : Bool) (adis4 : LL) (jI : Bool) (b6 : LL) (yc : Int) (s140 : LB) (w8 yj : CV) (c141 : List CV) (yP yR yQ yS yL yO : CV) (vm : Bool) (l178 : LL) (yY : Int) :
 Qjc lb n yi ja aair2 jb adis4 jI b6 yc s140 w8 yj c141 yP yR yQ yS yL yO vm l178 yY =
 Qfz lb n n yi ja aair2 jb adis4 jI b6 vm l178 yc s140 w8 yY yj c141 yP yR yQ yS yL yO (.bool false) 0 := (Qad _).trans (by kernel_rfl)
theorem Qil (lb n gZ yi : Nat) (ja : Bool) (aair2 : LL) (jb : Bool) (adis4 : LL) (jI : Bool) (b6 : LL) (yc : Int) (s140 : LB) (w8 yj : CV) (c141 : List CV) (yP yR yQ yS yL yO : CV) (o6 : Bool) (l158 : LL) (kV : Int) :
 QgY lb n (gZ + 1) yi ja aair2 jb adis4 jI b6 yc s140 w8 yj c141 yP yR yQ yS yL yO o6 l158 kV =
 optO (CV.asL w8) fun qZ =>
 bif (decide (kV < (qZ.2.length : Int))) then
 (optO (CV.asL w8) fun p9 =>
 optO (atL p9.2 kV) fun c171 =>
 chkO (c171.length == 2) (
 optO (c171[0]?) fun n4 =>
 chkO (decide ((([102, 108, 105, 103, 104, 116, 32] : LB) ++ s140).length + [32].length ≤ 9223372036854775807)) (
 optO (CV.asL w8) fun p8 =>
 optO (atL p8.2 kV) fun c174 =>
 chkO (c174.length == 2) (
 optO (c174[1]?) fun qB =>
 optO (CV.asS qB) fun s176 =>
 chkO (decide (((([102, 108, 105, 103, 104, 116, 32] : LB) ++ s140) ++ [32]).length + s176.length ≤ 9223372036854775807)) (
 chkO (CV.isCell n4) (
 chkO (room (l158.length + 1) 24) (
 QgY lb n gZ yi ja aair2 jb adis4 jI b6 yc s140 w8 yj c141 yP yR yQ yS yL yO (o6 && false) (l158 ++ [[n4, CV.str (((([102, 108, 105, 103, 104, 116, 32] : LB) ++ s140) ++ [32]) ++ s176)]]) (IntKind.wrap .i64 (kV + 1)))))))))
 else
 (Qjc lb n yi ja aair2 jb adis4 jI b6 yc s140 w8 yj c141 yP yR yQ yS yL yO o6 l158 kV) := (Qad _).trans (by kernel_rfl)
noncomputable def Qmi (lb n : Nat) (ja : Bool) (aair2 : LL) (jb : Bool) (adis4 : LL) (jI : Bool) (b6 : LL) (gO : Bool) (gQ : LL) (ns : Int) : Option CV :=
 hold (E0 lb n 0 997 (sub (B Qaf) [1, 1, 1]) (retK Tryz.prog (R Qaf) 0 (outK (Qaj Tryz.prog Qaf))) ⟨fr 74 [(0, .val (.agg [.list ja aair2, .list jb adis4])), (1, .val (.list jI b6)), (2, .ptr 0 2 0), (4, .lst true true 83 []), (5, .lst true gO 83 gQ), (6, vI ns)], [bx 74 [(2, some [.val (.list ja aair2), .val (.list jb adis4)])]], KK⟩)
theorem Qp5 (lb n : Nat) (ja : Bool) (aair2 : LL) (jb : Bool) (adis4 : LL) (jI : Bool) (b6 : LL) (gO : Bool) (gQ : LL) (ns : Int) :
 Qmi lb n ja aair2 jb adis4 jI b6 gO gQ ns =
 some (.list gO gQ) := (Qad _).trans (by kernel_rfl)
theorem Qij (lb n yi : Nat) (ja : Bool) (aair2 : LL) (jb : Bool) (adis4 : LL) (jI : Bool) (b6 : LL) (kv : Bool) (kT : LL) (yc : Int) :
 QgV lb n (yi + 1) ja aair2 jb adis4 jI b6 kv kT yc =
 bif (decide (yc < (b6.length : Int))) then
 (optO (C lb n QdU [.int .i64 yc]) fun yj =>
 optO (CV.asS yj) fun s140 =>
 chkO (decide (([102, 108, 105, 103, 104, 116, 32] : LB).length + s140.length ≤ 9223372036854775807)) (
 optO (atL b6 yc) fun c141 =>
 chkO (c141.length == 6) (
 optO (c141[0]?) fun yP =>
 optO (c141[1]?) fun yR =>
 optO (c141[2]?) fun yQ =>
 optO (c141[3]?) fun yS =>
 optO (c141[4]?) fun yL =>
 optO (c141[5]?) fun yO =>
 optO (C lb n Qam [.agg [.list ja aair2, .list jb adis4], .agg [yP, yR, yQ, yS, yL, yO]]) fun w8 =>
 QgY lb n n yi ja aair2 jb adis4 jI b6 yc s140 w8 yj c141 yP yR yQ yS yL yO kv kT 0)))
 else
 (Qmi lb n ja aair2 jb adis4 jI b6 kv kT yc) := (Qad _).trans (by kernel_rfl)
theorem Qt5 (lb n : Nat) (ja : Bool) (aair2 : LL) (jb : Bool) (adis4 : LL) (jI : Bool) (b6 : LL) :
 top lb n Qaf [.agg [.list ja aair2, .list jb adis4], .list jI b6] =
 QgV lb n n ja aair2 jb adis4 jI b6 true [] 0 := by kernel_rfl
end Go.Proofs
