/- Equations of functions, printed by program. Conditions: none. -/
import Derived.Test.YtdcpdknginpohaaGreatDoorEv
namespace Go.Proofs
open Go.Am
set_option maxRecDepth 100000
set_option linter.unusedVariables false
theorem Qqg (lb n) (jy : LB) (jv jo jr jp : Int) (ju) (aleg7 : LL) (ya : LB) (wO j9 wj j7 : Int) (wy) (wZ : LL) :
 top lb n Qie [.agg [.str jy, .int .i64 jv, .int .i64 jo, .int .i64 jr, .int .i64 jp, .list ju aleg7], .agg [.str ya, .int .i64 wO, .int .i64 j9, .int .i64 wj, .int .i64 j7, .list wy wZ]] =
 optO (C lb n Qbt [.agg [.int .i64 jo, .int .i64 jr, .int .i64 jp], .agg [.int .i64 j9, .int .i64 wj, .int .i64 j7]]) fun yK =>
 optO (CV.asT yK) fun gg =>
 optO (gg[0]?) fun jP =>
 optO (CV.asT yK) fun t20 =>
 optO (t20[1]?) fun jR =>
 optO (CV.asA jP) fun c22 =>
 chkO (c22.length == 3) (
 optO (c22[0]?) fun x23 =>
 optO (c22[1]?) fun yY =>
 optO (c22[2]?) fun jH =>
 bif (jy == ya) then
 (bif (jv == wO) then
 (some (jR))
 else
 (some (.bool false)))
 else
 (some (.bool false))) := by kernel_rfl
noncomputable def r10_Big_L1 :=
 fun lb n (oR : Nat) (ja : Bool) (aair2 : LL) (jb : Bool) (adis4 : LL) (js : Bool) (b6 : LL) wG =>
 hold (Qas (E0 lb n 0 994) 0 (Qag (sub (B QbU) [1, 1, 0, 1, 0, 0]) ++ []) [] (sub (B QbU) [1, 1, 0, 1, 0, 0]) (Qaj 0 (seqK (E0 lb n 0 997) (sub (B QbU) [1, 1, 0]) (sub (B QbU) [1, 1, 1]) (retK Tryz.prog (R QbU) 0 (outK (Qaf Tryz.prog QbU))))) oR ⟨fr 33 [(0, .val (.agg [.list ja aair2, .list jb adis4])), (1, .val (.list js b6)), (2, .ptr 0 2 0), (4, vB false), (5, vI wG)], [bx 33 [(2, some [.val (.list ja aair2), .val (.list jb adis4)])]], KK⟩)
noncomputable def Qm7 (lb n : Nat) (ja : Bool) (aair2 : LL) (jb : Bool) (adis4 : LL) (js : Bool) (b6 : LL) (yq : Int) : Option CV :=
 hold (E0 lb n 0 997 (sub (B QbU) [1, 1, 1]) (retK Tryz.prog (R QbU) 0 (outK (Qaf Tryz.prog QbU))) ⟨fr 33 [(0, .val (.agg [.list ja aair2, .list jb adis4])), (1, .val (.list js b6)), (2, .ptr 0 2 0), (4, vB false), (5, vI yq)], [bx 33 [(2, some [.val (.list ja aair2), .val (.list jb adis4)])]], KK⟩)
theorem Qpe (lb n : Nat) (ja : Bool) (aair2 : LL) (jb : Bool) (adis4 : LL) (js : Bool) (b6 : LL) (yq : Int) :
 Qm7 lb n ja aair2 jb adis4 js b6 yq =
 some (.bool false) := (Qad _).trans (by kernel_rfl)
theorem QhJ (lb n oR : Nat) (ja : Bool) (aair2 : LL) (jb : Bool) (adis4 : LL) (js : Bool) (b6 : LL) (wG : Int) :
 r10_Big_L1 lb n (oR + 1) ja aair2 jb adis4 js b6 wG =
 bif (decide (wG < (b6.length : Int))) then
 (optO (atL b6 wG) fun c29 =>
 chkO (c29.length == 6) (
 optO (c29[0]?) fun j0 =>
 optO (c29[1]?) fun jF =>
 optO (c29[2]?) fun jB =>
 optO (c29[3]?) fun jJ =>
 optO (c29[4]?) fun yQ =>
 optO (c29[5]?) fun yW =>
 optO (C lb n QbX [.agg [.list ja aair2, .list jb adis4], .agg [j0, jF, jB, jJ, yQ, yW]]) fun kA =>
 optO (CV.asB kA) fun p9 =>
 bif p9 then
 (some (.bool true))
 else
 (r10_Big_L1 lb n oR ja aair2 jb adis4 js b6 (IntKind.wrap .i64 (wG + 1)))))
 else
 (Qm7 lb n ja aair2 jb adis4 js b6 wG) := (Qad _).trans (by kernel_rfl)
theorem QgP (lb n : Nat) (ja : Bool) (aair2 : LL) (jb : Bool) (adis4 : LL) (js : Bool) (b6 : LL) :
 top lb n QbU [.agg [.list ja aair2, .list jb adis4], .list js b6] =
 bif (decide ((b6.length : Int) > 12)) then
 (some (.bool true))
 else
 (bif (decide ((aair2.length : Int) > 20)) then
 (some (.bool true))
 else
 (bif (decide ((adis4.length : Int) > 40)) then
 (some (.bool true))
 else
 (r10_Big_L1 lb n n ja aair2 jb adis4 js b6 0))) := by kernel_rfl
theorem Qhv (lb n : Nat) (ja : Bool) (aair2 : LL) (jb : Bool) (adis4 : LL) (js : Bool) (b6 : LL) :
 top lb n Qig [.agg [.list ja aair2, .list jb adis4], .list js b6] =
 optO (C lb n QbU [.agg [.list ja aair2, .list jb adis4], .list js b6]) fun r7 =>
 optO (CV.asB r7) fun b9 =>
 bif (!b9) then
 (optO (C lb n Qae [.agg [.list ja aair2, .list jb adis4]]) fun yo =>
 optO (CV.asL yo) fun yM =>
 bif ((yM.2.length : Int) == 0) then
 (optO (C lb n Qaa [.agg [.list ja aair2, .list jb adis4], .list js b6]) fun wY =>
 optO (CV.asL wY) fun nQ =>
 some (.bool ((nQ.2.length : Int) == 0)))
 else
 (some (.bool false)))
 else
 (some (.bool false)) := by kernel_rfl
noncomputable def Qec (lb n oN : Nat) (jh : Bool) (a2 : LL) (j1 : Bool) (b4 : LL) (yf : Int) : Option CV :=
 hold (Qas (E0 lb n 0 994) 0 (Qag (sub (B Qba) [1, 1, 0, 1, 0, 0]) ++ []) [] (sub (B Qba) [1, 1, 0, 1, 0, 0]) (Qaj 0 (seqK (E0 lb n 0 997) (sub (B Qba) [1, 1, 0]) (sub (B Qba) [1, 1, 1]) (retK Tryz.prog (R Qba) 0 (outK (Qaf Tryz.prog Qba))))) oN ⟨fr 27 [(0, .val (.list jh a2)), (1, .val (.list j1 b4)), (4, vB false), (5, vI yf)], [bx 27 []], KK⟩)
noncomputable def Qi3 (lb n : Nat) (jh : Bool) (a2 : LL) (j1 : Bool) (b4 : LL) (gk : Int) : Option CV :=
 hold (E0 lb n 0 997 (sub (B Qba) [1, 1, 1]) (retK Tryz.prog (R Qba) 0 (outK (Qaf Tryz.prog Qba))) ⟨fr 27 [(0, .val (.list jh a2)), (1, .val (.list j1 b4)), (4, vB false), (5, vI gk)], [bx 27 []], KK⟩)
theorem Qll (lb n : Nat) (jh : Bool) (a2 : LL) (j1 : Bool) (b4 : LL) (gk : Int) :
 Qi3 lb n jh a2 j1 b4 gk =
 some (.bool true) := (Qad _).trans (by kernel_rfl)
theorem Qfy (lb n oN : Nat) (jh : Bool) (a2 : LL) (j1 : Bool) (b4 : LL) (yf : Int) :
 Qec lb n (oN + 1) jh a2 j1 b4 yf =
 bif (decide (yf < (a2.length : Int))) then
 (optO (atL a2 yf) fun c42 =>
 chkO (c42.length == 6) (
 optO (c42[0]?) fun o8 =>
 optO (c42[1]?) fun vP =>
 optO (c42[2]?) fun o4 =>
 optO (c42[3]?) fun oW =>
 optO (c42[4]?) fun nH =>
 optO (c42[5]?) fun ks =>
 optO (atL b4 yf) fun c49 =>
 chkO (c49.length == 6) (
 optO (c49[0]?) fun vp =>
 optO (c49[1]?) fun kO =>
 optO (c49[2]?) fun yV =>
 optO (c49[3]?) fun kw =>
 optO (c49[4]?) fun gu =>
 optO (c49[5]?) fun yZ =>
 optO (C lb n QjB [.agg [o8, vP, o4, oW, nH, ks], .agg [vp, kO, yV, kw, gu, yZ]]) fun yA =>
 optO (CV.asB yA) fun qg =>
 bif (!qg) then
 (some (.bool false))
 else
 (Qec lb n oN jh a2 j1 b4 (IntKind.wrap .i64 (yf + 1))))))
 else
 (Qi3 lb n jh a2 j1 b4 yf) := (Qad _).trans (by kernel_rfl)
theorem Qob (lb n : Nat) (jh : Bool) (a2 : LL) (j1 : Bool) (b4 : LL) :
 top lb n Qba [.list jh a2, .list j1 b4] =
 bif ((a2.length : Int) != (b4.length : Int)) then
 (some (.bool false))
 else
 (Qec lb n n jh a2 j1 b4 0) := by kernel_rfl
noncomputable def Qfe (lb n jT : Nat) (ja : Bool) (aair2 : LL) (jb : Bool) (adis4 : LL) (js : Bool) (b6 : LL) (kC : Bool) (kt : LL) (jK : Int) : Option CV :=
 hold (Qas (E0 lb n 0 994) 0 (Qag (sub (B Qaa) [1, 1, 0, 1, 0, 0]) ++ [7, 8, 9, 9, 10, 11, 10, 11]) [] (sub (B Qaa) [1, 1, 0, 1, 0, 0]) (Qaj 0 (seqK (E0 lb n 0 997) (sub (B Qaa) [1, 1, 0]) (sub (B Qaa) [1, 1, 1]) (retK Tryz.prog (R Qaa) 0 (outK (Qaf Tryz.prog Qaa))))) jT ⟨fr 74 [(0, .val (.agg [.list ja aair2, .list jb adis4])), (1, .val (.list js b6)), (2, .ptr 0 2 0), (4, .lst true true 83 []), (5, .lst true kC 83 kt), (6, vI jK)], [bx 74 [(2, some [.val (.list ja aair2), .val (.list jb adis4)])]], KK⟩)
noncomputable def Qfi (lb n ka jT : Nat) (ja : Bool) (aair2 : LL) (jb : Bool) (adis4 : LL) (js : Bool) (b6 : LL) (jK : Int) (s140 : LB) (jE jX : CV) (c141 : List CV) (wh wc wg wd we wb : CV) (vf : Bool) (l158 : LL) (yF : Int) : Option CV :=
 hold (Qas (E0 lb n 0 985) 0 (Qag (sub (B Qaa) [1, 1, 0, 1, 0, 0, 1, 0, 0, 1, 1, 0, 1, 0, 0]) ++ []) [] (sub (B Qaa) [1, 1, 0, 1, 0, 0, 1, 0, 0, 1, 1, 0, 1, 0, 0]) (Qaj 2 (seqK (E0 lb n 0 988) (sub (B Qaa) [1, 1, 0, 1, 0, 0, 1, 0, 0, 1, 1, 0]) (sub (B Qaa) [1, 1, 0, 1, 0, 0, 1, 0, 0, 1, 1, 1]) (Qaj 1 (seqK (E0 lb n 0 992) (sub (B Qaa) [1, 1, 0, 1, 0, 0, 1, 0]) (sub (B Qaa) [1, 1, 0, 1, 0, 0, 1, 1]) (QbO 0 (Qag (sub (B Qaa) [1, 1, 0, 1, 0, 0]) ++ [7, 8, 9, 9, 10, 11, 10, 11]) [] (Qas (E0 lb n 0 994) 0 (Qag (sub (B Qaa) [1, 1, 0, 1, 0, 0]) ++ [7, 8, 9, 9, 10, 11, 10, 11]) [] (sub (B Qaa) [1, 1, 0, 1, 0, 0]) (Qaj 0 (seqK (E0 lb n 0 997) (sub (B Qaa) [1, 1, 0]) (sub (B Qaa) [1, 1, 1]) (retK Tryz.prog (R Qaa) 0 (outK (Qaf Tryz.prog Qaa))))) jT) (Qaj 0 (seqK (E0 lb n 0 997) (sub (B Qaa) [1, 1, 0]) (sub (B Qaa) [1, 1, 1]) (retK Tryz.prog (R Qaa) 0 (outK (Qaf Tryz.prog Qaa)))))))))) ka ⟨fr 74 [(0, .val (.agg [.list ja aair2, .list jb adis4])), (1, .val (.list js b6)), (2, .ptr 0 2 0), (4, .lst true true 83 []), (5, .lst true vf 83 l158), (6, vI jK), (7, .val (.str (([102, 108, 105, 103, 104, 116, 32] : LB) ++ s140))), (8, vV jE), (9, vI yF), (18, vI jK), (19, vV jX), (20, .val (.str (([102, 108, 105, 103, 104, 116, 32] : LB) ++ s140))), (21, .val (.agg [.list ja aair2, .list jb adis4])), (22, .val (.list js b6)), (23, vI jK), (24, .cptr c141 0), (25, .val (.agg [wh, wc, wg, wd, we, wb])), (26, vV jE)], [bx 74 [(2, some [.val (.list ja aair2), .val (.list jb adis4)])]], KK⟩)
noncomputable def QgZ (lb n jT : Nat) (ja : Bool) (aair2 : LL) (jb : Bool) (adis4 : LL) (js : Bool) (b6 : LL) (jK : Int) (s140 : LB) (jE jX : CV) (c141 : List CV) (wh wc wg wd we wb : CV) (wI : Bool) (l178 : LL) (wo : Int) : Option CV :=
 hold (E0 lb n 0 988 (sub (B Qaa) [1, 1, 0, 1, 0, 0, 1, 0, 0, 1, 1, 1]) (Qaj 1 (seqK (E0 lb n 0 992) (sub (B Qaa) [1, 1, 0, 1, 0, 0, 1, 0]) (sub (B Qaa) [1, 1, 0, 1, 0, 0, 1, 1]) (QbO 0 (Qag (sub (B Qaa) [1, 1, 0, 1, 0, 0]) ++ [7, 8, 9, 9, 10, 11, 10, 11]) [] (Qas (E0 lb n 0 994) 0 (Qag (sub (B Qaa) [1, 1, 0, 1, 0, 0]) ++ [7, 8, 9, 9, 10, 11, 10, 11]) [] (sub (B Qaa) [1, 1, 0, 1, 0, 0]) (Qaj 0 (seqK (E0 lb n 0 997) (sub (B Qaa) [1, 1, 0]) (sub (B Qaa) [1, 1, 1]) (retK Tryz.prog (R Qaa) 0 (outK (Qaf Tryz.prog Qaa))))) jT) (Qaj 0 (seqK (E0 lb n 0 997) (sub (B Qaa) [1, 1, 0]) (sub (B Qaa) [1, 1, 1]) (retK Tryz.prog (R Qaa) 0 (outK (Qaf Tryz.prog Qaa)))))))) ⟨fr 74 [(0, .val (.agg [.list ja aair2, .list jb adis4])), (1, .val (.list js b6)), (2, .ptr 0 2 0), (4, .lst true true 83 []), (5, .lst true wI 83 l178), (6, vI jK), (7, .val (.str (([102, 108, 105, 103, 104, 116, 32] : LB) ++ s140))), (8, vV jE), (9, vI wo), (18, vI jK), (19, vV jX), (20, .val (.str (([102, 108, 105, 103, 104, 116, 32] : LB) ++ s140))), (21, .val (.agg [.list ja aair2, .list jb adis4])), (22, .val (.list js b6)), (23, vI jK), (24, .cptr c141 0), (25, .val (.agg [wh, wc, wg, wd, we, wb])), (26, vV jE)], [bx 74 [(2, some [.val (.list ja aair2), .val (.list jb adis4)])]], KK⟩)
noncomputable def QdZ (lb n vz jT : Nat) (ja : Bool) (aair2 : LL) (jb : Bool) (adis4 : LL) (js : Bool) (b6 : LL) (wI : Bool) (l178 : LL) (jK : Int) (s140 : LB) (jE : CV) (wo : Int) (jX : CV) (c141 : List CV) (wh wc wg wd we wb vj : CV) (yJ : Int) : Option CV :=
 hold (Qas (E0 lb n 0 983) 0 (Qag (sub (B Qaa) [1, 1, 0, 1, 0, 0, 1, 0, 0, 1, 1, 1, 1, 0, 1, 0, 0]) ++ []) [] (sub (B Qaa) [1, 1, 0, 1, 0, 0, 1, 0, 0, 1, 1, 1, 1, 0, 1, 0, 0]) (Qaj 4 (seqK (E0 lb n 0 986) (sub (B Qaa) [1, 1, 0, 1, 0, 0, 1, 0, 0, 1, 1, 1, 1, 0]) (sub (B Qaa) [1, 1, 0, 1, 0, 0, 1, 0, 0, 1, 1, 1, 1, 1]) (Qaj 1 (seqK (E0 lb n 0 992) (sub (B Qaa) [1, 1, 0, 1, 0, 0, 1, 0]) (sub (B Qaa) [1, 1, 0, 1, 0, 0, 1, 1]) (QbO 0 (Qag (sub (B Qaa) [1, 1, 0, 1, 0, 0]) ++ [7, 8, 9, 9, 10, 11, 10, 11]) [] (Qas (E0 lb n 0 994) 0 (Qag (sub (B Qaa) [1, 1, 0, 1, 0, 0]) ++ [7, 8, 9, 9, 10, 11, 10, 11]) [] (sub (B Qaa) [1, 1, 0, 1, 0, 0]) (Qaj 0 (seqK (E0 lb n 0 997) (sub (B Qaa) [1, 1, 0]) (sub (B Qaa) [1, 1, 1]) (retK Tryz.prog (R Qaa) 0 (outK (Qaf Tryz.prog Qaa))))) jT) (Qaj 0 (seqK (E0 lb n 0 997) (sub (B Qaa) [1, 1, 0]) (sub (B Qaa) [1, 1, 1]) (retK Tryz.prog (R Qaa) 0 (outK (Qaf Tryz.prog Qaa)))))))))) vz ⟨fr 74 [(0, .val (.agg [.list ja aair2, .list jb adis4])), (1, .val (.list js b6)), (2, .ptr 0 2 0), (4, .lst true true 83 []), (5, .lst true wI 83 l178), (6, vI jK), (7, .val (.str (([102, 108, 105, 103, 104, 116, 32] : LB) ++ s140))), (8, vV jE), (9, vI wo), (10, vV vj), (11, vI yJ), (18, vI jK), (19, vV jX), (20, .val (.str (([102, 108, 105, 103, 104, 116, 32] : LB) ++ s140))), (21, .val (.agg [.list ja aair2, .list jb adis4])), (22, .val (.list js b6)), (23, vI jK), (24, .cptr c141 0), (25, .val (.agg [wh, wc, wg, wd, we, wb])), (26, vV jE)], [bx 74 [(2, some [.val (.list ja aair2), .val (.list jb adis4)])]], KK⟩)
noncomputable def Qht (lb n jT : Nat) (ja : Bool) (aair2 : LL) (jb : Bool) (adis4 : LL) (js : Bool) (b6 : LL) (wI : Bool) (l178 : LL) (jK : Int) (s140 : LB) (jE : CV) (wo : Int) (jX : CV) (c141 : List CV) (wh wc wg wd we wb va : CV) (vq : Int) : Option CV :=
 hold (E0 lb n 0 986 (sub (B Qaa) [1, 1, 0, 1, 0, 0, 1, 0, 0, 1, 1, 1, 1, 1]) (Qaj 1 (seqK (E0 lb n 0 992) (sub (B Qaa) [1, 1, 0, 1, 0, 0, 1, 0]) (sub (B Qaa) [1, 1, 0, 1, 0, 0, 1, 1]) (QbO 0 (Qag (sub (B Qaa) [1, 1, 0, 1, 0, 0]) ++ [7, 8, 9, 9, 10, 11, 10, 11]) [] (Qas (E0 lb n 0 994) 0 (Qag (sub (B Qaa) [1, 1, 0, 1, 0, 0]) ++ [7, 8, 9, 9, 10, 11, 10, 11]) [] (sub (B Qaa) [1, 1, 0, 1, 0, 0]) (Qaj 0 (seqK (E0 lb n 0 997) (sub (B Qaa) [1, 1, 0]) (sub (B Qaa) [1, 1, 1]) (retK Tryz.prog (R Qaa) 0 (outK (Qaf Tryz.prog Qaa))))) jT) (Qaj 0 (seqK (E0 lb n 0 997) (sub (B Qaa) [1, 1, 0]) (sub (B Qaa) [1, 1, 1]) (retK Tryz.prog (R Qaa) 0 (outK (Qaf Tryz.prog Qaa)))))))) ⟨fr 74 [(0, .val (.agg [.list ja aair2, .list jb adis4])), (1, .val (.list js b6)), (2, .ptr 0 2 0), (4, .lst true true 83 []), (5, .lst true wI 83 l178), (6, vI jK), (7, .val (.str (([102, 108, 105, 103, 104, 116, 32] : LB) ++ s140))), (8, vV jE), (9, vI wo), (10, vV va), (11, vI vq), (18, vI jK), (19, vV jX), (20, .val (.str (([102, 108, 105, 103, 104, 116, 32] : LB) ++ s140))), (21, .val (.agg [.list ja aair2, .list jb adis4])), (22, .val (.list js b6)), (23, vI jK), (24, .cptr c141 0), (25, .val (.agg [wh, wc, wg, wd, we, wb])), (26, vV jE)], [bx 74 [(2, some [.val (.list ja aair2), .val (.list jb adis4)])]], KK⟩)
noncomputable def Qhp (lb n jT : Nat) (ja : Bool) (aair2 : LL) (jb : Bool) (adis4 : LL) (js : Bool) (b6 : LL) (jK : Int) (kl : Bool) (ko : LL) (oj : LB) (oi : CV) (kW : Int) (oh : CV) (oa : Int) : Option CV :=
 hold (E0 lb n 0 992 (sub (B Qaa) [1, 1, 0, 1, 0, 0, 1, 1]) (QbO 0 (Qag (sub (B Qaa) [1, 1, 0, 1, 0, 0]) ++ [7, 8, 9, 9, 10, 11, 10, 11]) [] (Qas (E0 lb n 0 994) 0 (Qag (sub (B Qaa) [1, 1, 0, 1, 0, 0]) ++ [7, 8, 9, 9, 10, 11, 10, 11]) [] (sub (B Qaa) [1, 1, 0, 1, 0, 0]) (Qaj 0 (seqK (E0 lb n 0 997) (sub (B Qaa) [1, 1, 0]) (sub (B Qaa) [1, 1, 1]) (retK Tryz.prog (R Qaa) 0 (outK (Qaf Tryz.prog Qaa))))) jT) (Qaj 0 (seqK (E0 lb n 0 997) (sub (B Qaa) [1, 1, 0]) (sub (B Qaa) [1, 1, 1]) (retK Tryz.prog (R Qaa) 0 (outK (Qaf Tryz.prog Qaa)))))) ⟨fr 74 [(0, .val (.agg [.list ja aair2, .list jb adis4])), (1, .val (.list js b6)), (2, .ptr 0 2 0), (4, .lst true true 83 []), (5, .lst true kl 83 ko), (6, vI jK), (7, vS oj), (8, vV oi), (9, vI kW), (10, vV oh), (11, vI oa)], [bx 74 [(2, some [.val (.list ja aair2), .val (.list jb adis4)])]], KK⟩)
theorem QhM (lb n jT : Nat) (ja : Bool) (aair2 : LL) (jb : Bool) (adis4 : LL) (js : Bool) (b6 : LL) (jK : Int) (kl : Bool) (ko : LL) (oj : LB) (oi : CV) (kW : Int) (oh : CV) (oa : Int) :
 Qhp lb n jT ja aair2 jb adis4 js b6 jK kl ko oj oi kW oh oa =
 Qfe lb n jT ja aair2 jb adis4 js b6 kl ko (IntKind.wrap .i64 (jK + 1)) := (Qad _).trans (by kernel_rfl)
theorem Qnn (lb n jT : Nat) (ja : Bool) (aair2 : LL) (jb : Bool) (adis4 : LL) (js : Bool) (b6 : LL) (wI : Bool) (l178 : LL) (jK : Int) (s140 : LB) (jE : CV) (wo : Int) (jX : CV) (c141 : List CV) (wh wc wg wd we wb va : CV) (vq : Int) :
 Qht lb n jT ja aair2 jb adis4 js b6 wI l178 jK s140 jE wo jX c141 wh wc wg wd we wb va vq =
 optO (CV.asB va) fun gX =>
 bif gX then
 (chkO (room (l178.length + 1) 24) (
 Qhp lb n jT ja aair2 jb adis4 js b6 jK (wI && false) (l178 ++ [[CV.int .i64 6, CV.str (([102, 108, 105, 103, 104, 116, 32] : LB) ++ s140)]]) (([102, 108, 105, 103, 104, 116, 32] : LB) ++ s140) jE wo va vq))
 else
 (Qhp lb n jT ja aair2 jb adis4 js b6 jK wI l178 (([102, 108, 105, 103, 104, 116, 32] : LB) ++ s140) jE wo va vq) := (Qad _).trans (by kernel_rfl)
theorem QgE (lb n vz jT : Nat) (ja : Bool) (aair2 : LL) (jb : Bool) (adis4 : LL) (js : Bool) (b6 : LL) (wI : Bool) (l178 : LL) (jK : Int) (s140 : LB) (jE : CV) (wo : Int) (jX : CV) (c141 : List CV) (wh wc wg wd we wb vj : CV) (yJ : Int) :
 QdZ lb n (vz + 1) jT ja aair2 jb adis4 js b6 wI l178 jK s140 jE wo jX c141 wh wc wg wd we wb vj yJ =
 bif (decide (yJ < jK)) then
 (optO (CV.asB vj) fun nj =>
 bif nj then
 (QdZ lb n vz jT ja aair2 jb adis4 js b6 wI l178 jK s140 jE wo jX c141 wh wc wg wd we wb (.bool true) (IntKind.wrap .i64 (yJ + 1)))
 else
 (optO (atL b6 yJ) fun c215 =>
 chkO (c215.length == 6) (
 optO (c215[0]?) fun mL =>
 optO (c215[1]?) fun gZ =>
 optO (c215[2]?) fun na =>
 optO (c215[3]?) fun nv =>
 optO (c215[4]?) fun mq =>
 optO (c215[5]?) fun mh =>
 optO (atL b6 jK) fun c222 =>
 chkO (c222.length == 6) (
 optO (c222[0]?) fun my =>
 optO (c222[1]?) fun mb =>
 optO (c222[2]?) fun mr =>
 optO (c222[3]?) fun nD =>
 optO (c222[4]?) fun mD =>
 optO (c222[5]?) fun np =>
 optO (C lb n Qie [.agg [mL, gZ, na, nv, mq, mh], .agg [my, mb, mr, nD, mD, np]]) fun mI =>
 QdZ lb n vz jT ja aair2 jb adis4 js b6 wI l178 jK s140 jE wo jX c141 wh wc wg wd we wb mI (IntKind.wrap .i64 (yJ + 1))))))
 else
 (Qht lb n jT ja aair2 jb adis4 js b6 wI l178 jK s140 jE wo jX c141 wh wc wg wd we wb vj yJ) := (Qad _).trans (by kernel_rfl)
theorem QmN (lb n jT : Nat) (ja : Bool) (aair2 : LL) (jb : Bool) (adis4 : LL) (js : Bool) (b6 : LL) (jK : Int) (s140 : LB) (jE jX : CV) (c141 : List CV) (wh wc wg wd we wb : CV) (wI : Bool) (l178 : LL) (wo : Int) :
 QgZ lb n jT ja aair2 jb adis4 js b6 jK s140 jE jX c141 wh wc wg wd we wb wI l178 wo =
 QdZ lb n n jT ja aair2 jb adis4 js b6 wI l178 jK s140 jE wo jX c141 wh wc wg wd we wb (.bool false) 0 := (Qad _).trans (by kernel_rfl)
theorem QgC (lb n ka jT : Nat) (ja : Bool) (aair2 : LL) (jb : Bool) (adis4 : LL) (js : Bool) (b6 : LL) (jK : Int) (s140 : LB) (jE jX : CV) (c141 : List CV) (wh wc wg wd we wb : CV) (vf : Bool) (l158 : LL) (yF : Int) :
 Qfi lb n (ka + 1) jT ja aair2 jb adis4 js b6 jK s140 jE jX c141 wh wc wg wd we wb vf l158 yF =
 optO (CV.asL jE) fun ml =>
 bif (decide (yF < (ml.2.length : Int))) then
 (optO (CV.asL jE) fun mM =>
 optO (atL mM.2 yF) fun c171 =>
 chkO (c171.length == 2) (
 optO (c171[0]?) fun gC =>
 chkO (decide ((([102, 108, 105, 103, 104, 116, 32] : LB) ++ s140).length + [32].length ≤ 9223372036854775807)) (
 optO (CV.asL jE) fun mJ =>
 optO (atL mJ.2 yF) fun c174 =>
 chkO (c174.length == 2) (
 optO (c174[1]?) fun m5 =>
 optO (CV.asS m5) fun s176 =>
 chkO (decide (((([102, 108, 105, 103, 104, 116, 32] : LB) ++ s140) ++ [32]).length + s176.length ≤ 9223372036854775807)) (
 chkO (CV.isCell gC) (
 chkO (room (l158.length + 1) 24) (
 Qfi lb n ka jT ja aair2 jb adis4 js b6 jK s140 jE jX c141 wh wc wg wd we wb (vf && false) (l158 ++ [[gC, CV.str (((([102, 108, 105, 103, 104, 116, 32] : LB) ++ s140) ++ [32]) ++ s176)]]) (IntKind.wrap .i64 (yF + 1)))))))))
 else
 (QgZ lb n jT ja aair2 jb adis4 js b6 jK s140 jE jX c141 wh wc wg wd we wb vf l158 yF) := (Qad _).trans (by kernel_rfl)
noncomputable def Qj9 (lb n : Nat) (ja : Bool) (aair2 : LL) (jb : Bool) (adis4 : LL) (js : Bool) (b6 : LL) (vQ : Bool) (vY : LL) (ou : Int) : Option CV :=
 hold (E0 lb n 0 997 (sub (B Qaa) [1, 1, 1]) (retK Tryz.prog (R Qaa) 0 (outK (Qaf Tryz.prog Qaa))) ⟨fr 74 [(0, .val (.agg [.list ja aair2, .list jb adis4])), (1, .val (.list js b6)), (2, .ptr 0 2 0), (4, .lst true true 83 []), (5, .lst true vQ 83 vY), (6, vI ou)], [bx 74 [(2, some [.val (.list ja aair2), .val (.list jb adis4)])]], KK⟩)
theorem Qm1 (lb n : Nat) (ja : Bool) (aair2 : LL) (jb : Bool) (adis4 : LL) (js : Bool) (b6 : LL) (vQ : Bool) (vY : LL) (ou : Int) :
 Qj9 lb n ja aair2 jb adis4 js b6 vQ vY ou =
 some (.list vQ vY) := (Qad _).trans (by kernel_rfl)
theorem Qgw (lb n jT : Nat) (ja : Bool) (aair2 : LL) (jb : Bool) (adis4 : LL) (js : Bool) (b6 : LL) (kC : Bool) (kt : LL) (jK : Int) :
 Qfe lb n (jT + 1) ja aair2 jb adis4 js b6 kC kt jK =
 bif (decide (jK < (b6.length : Int))) then
 (optO (C lb n QcQ [.int .i64 jK]) fun jX =>
 optO (CV.asS jX) fun s140 =>
 chkO (decide (([102, 108, 105, 103, 104, 116, 32] : LB).length + s140.length ≤ 9223372036854775807)) (
 optO (atL b6 jK) fun c141 =>
 chkO (c141.length == 6) (
 optO (c141[0]?) fun wh =>
 optO (c141[1]?) fun wc =>
 optO (c141[2]?) fun wg =>
 optO (c141[3]?) fun wd =>
 optO (c141[4]?) fun we =>
 optO (c141[5]?) fun wb =>
 optO (C lb n Qah [.agg [.list ja aair2, .list jb adis4], .agg [wh, wc, wg, wd, we, wb]]) fun jE =>
 Qfi lb n n jT ja aair2 jb adis4 js b6 jK s140 jE jX c141 wh wc wg wd we wb kC kt 0)))
 else
 (Qj9 lb n ja aair2 jb adis4 js b6 kC kt jK) := (Qad _).trans (by kernel_rfl)
theorem Qp0 (lb n : Nat) (ja : Bool) (aair2 : LL) (jb : Bool) (adis4 : LL) (js : Bool) (b6 : LL) :
 top lb n Qaa [.agg [.list ja aair2, .list jb adis4], .list js b6] =
 Qfe lb n n ja aair2 jb adis4 js b6 true [] 0 := by kernel_rfl
end Go.Proofs
