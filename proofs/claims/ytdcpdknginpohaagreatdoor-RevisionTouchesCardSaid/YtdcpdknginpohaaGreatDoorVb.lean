/- Equations of functions, printed by program. Conditions: none. -/
import Derived.Test.YtdcpdknginpohaaGreatDoorEv
namespace Go.Proofs
open Go.Am
set_option maxRecDepth 100000
set_option linter.unusedVariables false
theorem Qpy (lb n) (jV : LB) (jP jD jG jC : Int) (jM) (aleg7 : LL) (oG : LB) (ku ve vG vd : Int) (blegn14) (gW : LL) :
 top lb n QhB [.agg [.str jV, .int .i64 jP, .int .i64 jD, .int .i64 jG, .int .i64 jC, .list jM aleg7], .agg [.str oG, .int .i64 ku, .int .i64 ve, .int .i64 vG, .int .i64 vd, .list blegn14 gW]] =
 optO (C lb n QbI [.agg [.int .i64 jD, .int .i64 jG, .int .i64 jC], .agg [.int .i64 ve, .int .i64 vG, .int .i64 vd]]) fun o8 =>
 optO (CV.asT o8) fun vD =>
 optO (vD[0]?) fun ji =>
 optO (CV.asT o8) fun t20 =>
 optO (t20[1]?) fun jy =>
 optO (CV.asA ji) fun c22 =>
 chkO (c22.length == 3) (
 optO (c22[0]?) fun j5 =>
 optO (c22[1]?) fun jF =>
 optO (c22[2]?) fun jx =>
 bif (jV == oG) then
 (bif (jP == ku) then
 (some (jy))
 else
 (some (.bool false)))
 else
 (some (.bool false))) := by kernel_rfl
noncomputable def r10_Big_L1 :=
 fun lb n (oJ : Nat) (ja : Bool) (aair2 : LL) (jb : Bool) (adis4 : LL) (jh : Bool) (b6 : LL) wn =>
 hold (Qat (E0 lb n 0 994) 0 (Qag (sub (B Qb2) [1, 1, 0, 1, 0, 0]) ++ []) [] (sub (B Qb2) [1, 1, 0, 1, 0, 0]) (Qai 0 (seqK (E0 lb n 0 997) (sub (B Qb2) [1, 1, 0]) (sub (B Qb2) [1, 1, 1]) (retK Tryz.prog (R Qb2) 0 (outK (Qaf Tryz.prog Qb2))))) oJ ⟨fr 33 [(0, .val (.agg [.list ja aair2, .list jb adis4])), (1, .val (.list jh b6)), (2, .ptr 0 2 0), (4, vB false), (5, vI wn)], [bx 33 [(2, some [.val (.list ja aair2), .val (.list jb adis4)])]], KK⟩)
noncomputable def QlN (lb n : Nat) (ja : Bool) (aair2 : LL) (jb : Bool) (adis4 : LL) (jh : Bool) (b6 : LL) (w4 : Int) : Option CV :=
 hold (E0 lb n 0 997 (sub (B Qb2) [1, 1, 1]) (retK Tryz.prog (R Qb2) 0 (outK (Qaf Tryz.prog Qb2))) ⟨fr 33 [(0, .val (.agg [.list ja aair2, .list jb adis4])), (1, .val (.list jh b6)), (2, .ptr 0 2 0), (4, vB false), (5, vI w4)], [bx 33 [(2, some [.val (.list ja aair2), .val (.list jb adis4)])]], KK⟩)
theorem Qoc (lb n : Nat) (ja : Bool) (aair2 : LL) (jb : Bool) (adis4 : LL) (jh : Bool) (b6 : LL) (w4 : Int) :
 QlN lb n ja aair2 jb adis4 jh b6 w4 =
 some (.bool false) := (Qae _).trans (by kernel_rfl)
theorem Qg2 (lb n oJ : Nat) (ja : Bool) (aair2 : LL) (jb : Bool) (adis4 : LL) (jh : Bool) (b6 : LL) (wn : Int) :
 r10_Big_L1 lb n (oJ + 1) ja aair2 jb adis4 jh b6 wn =
 bif (decide (wn < (b6.length : Int))) then
 (optO (atL b6 wn) fun c29 =>
 chkO (c29.length == 6) (
 optO (c29[0]?) fun jX =>
 optO (c29[1]?) fun jt =>
 optO (c29[2]?) fun jK =>
 optO (c29[3]?) fun jQ =>
 optO (c29[4]?) fun yK =>
 optO (c29[5]?) fun yO =>
 optO (C lb n QbO [.agg [.list ja aair2, .list jb adis4], .agg [jX, jt, jK, jQ, yK, yO]]) fun kT =>
 optO (CV.asB kT) fun n9 =>
 bif n9 then
 (some (.bool true))
 else
 (r10_Big_L1 lb n oJ ja aair2 jb adis4 jh b6 (IntKind.wrap .i64 (wn + 1)))))
 else
 (QlN lb n ja aair2 jb adis4 jh b6 wn) := (Qae _).trans (by kernel_rfl)
theorem Qgk (lb n : Nat) (ja : Bool) (aair2 : LL) (jb : Bool) (adis4 : LL) (jh : Bool) (b6 : LL) :
 top lb n Qb2 [.agg [.list ja aair2, .list jb adis4], .list jh b6] =
 bif (decide ((b6.length : Int) > 12)) then
 (some (.bool true))
 else
 (bif (decide ((aair2.length : Int) > 20)) then
 (some (.bool true))
 else
 (bif (decide ((adis4.length : Int) > 40)) then
 (some (.bool true))
 else
 (r10_Big_L1 lb n n ja aair2 jb adis4 jh b6 0))) := by kernel_rfl
theorem QgI (lb n : Nat) (ja : Bool) (aair2 : LL) (jb : Bool) (adis4 : LL) (jh : Bool) (b6 : LL) :
 top lb n Qhu [.agg [.list ja aair2, .list jb adis4], .list jh b6] =
 optO (C lb n Qb2 [.agg [.list ja aair2, .list jb adis4], .list jh b6]) fun r7 =>
 optO (CV.asB r7) fun b9 =>
 bif (!b9) then
 (optO (C lb n Qad [.agg [.list ja aair2, .list jb adis4]]) fun kX =>
 optO (CV.asL kX) fun qo =>
 bif ((qo.2.length : Int) == 0) then
 (optO (C lb n Qaa [.agg [.list ja aair2, .list jb adis4], .list jh b6]) fun vc =>
 optO (CV.asL vc) fun pG =>
 some (.bool ((pG.2.length : Int) == 0)))
 else
 (some (.bool false)))
 else
 (some (.bool false)) := by kernel_rfl
noncomputable def QeV (lb n jY : Nat) (ja : Bool) (aair2 : LL) (jb : Bool) (adis4 : LL) (jh : Bool) (b6 : LL) (kR : Bool) (kI : LL) (jT : Int) : Option CV :=
 hold (Qat (E0 lb n 0 994) 0 (Qag (sub (B Qaa) [1, 1, 0, 1, 0, 0]) ++ [7, 8, 9, 9, 10, 11, 10, 11]) [] (sub (B Qaa) [1, 1, 0, 1, 0, 0]) (Qai 0 (seqK (E0 lb n 0 997) (sub (B Qaa) [1, 1, 0]) (sub (B Qaa) [1, 1, 1]) (retK Tryz.prog (R Qaa) 0 (outK (Qaf Tryz.prog Qaa))))) jY ⟨fr 74 [(0, .val (.agg [.list ja aair2, .list jb adis4])), (1, .val (.list jh b6)), (2, .ptr 0 2 0), (4, .lst true true 83 []), (5, .lst true kR 83 kI), (6, vI jT)], [bx 74 [(2, some [.val (.list ja aair2), .val (.list jb adis4)])]], KK⟩)
noncomputable def QeQ (lb n v8 jY : Nat) (ja : Bool) (aair2 : LL) (jb : Bool) (adis4 : LL) (jh : Bool) (b6 : LL) (jT : Int) (s140 : LB) (jN j2 : CV) (c141 : List CV) (wk wl wg wd wc we : CV) (vw : Bool) (l158 : LL) (yE : Int) : Option CV :=
 hold (Qat (E0 lb n 0 985) 0 (Qag (sub (B Qaa) [1, 1, 0, 1, 0, 0, 1, 0, 0, 1, 1, 0, 1, 0, 0]) ++ []) [] (sub (B Qaa) [1, 1, 0, 1, 0, 0, 1, 0, 0, 1, 1, 0, 1, 0, 0]) (Qai 2 (seqK (E0 lb n 0 988) (sub (B Qaa) [1, 1, 0, 1, 0, 0, 1, 0, 0, 1, 1, 0]) (sub (B Qaa) [1, 1, 0, 1, 0, 0, 1, 0, 0, 1, 1, 1]) (Qai 1 (seqK (E0 lb n 0 992) (sub (B Qaa) [1, 1, 0, 1, 0, 0, 1, 0]) (sub (B Qaa) [1, 1, 0, 1, 0, 0, 1, 1]) (QbL 0 (Qag (sub (B Qaa) [1, 1, 0, 1, 0, 0]) ++ [7, 8, 9, 9, 10, 11, 10, 11]) [] (Qat (E0 lb n 0 994) 0 (Qag (sub (B Qaa) [1, 1, 0, 1, 0, 0]) ++ [7, 8, 9, 9, 10, 11, 10, 11]) [] (sub (B Qaa) [1, 1, 0, 1, 0, 0]) (Qai 0 (seqK (E0 lb n 0 997) (sub (B Qaa) [1, 1, 0]) (sub (B Qaa) [1, 1, 1]) (retK Tryz.prog (R Qaa) 0 (outK (Qaf Tryz.prog Qaa))))) jY) (Qai 0 (seqK (E0 lb n 0 997) (sub (B Qaa) [1, 1, 0]) (sub (B Qaa) [1, 1, 1]) (retK Tryz.prog (R Qaa) 0 (outK (Qaf Tryz.prog Qaa)))))))))) v8 ⟨fr 74 [(0, .val (.agg [.list ja aair2, .list jb adis4])), (1, .val (.list jh b6)), (2, .ptr 0 2 0), (4, .lst true true 83 []), (5, .lst true vw 83 l158), (6, vI jT), (7, .val (.str (([102, 108, 105, 103, 104, 116, 32] : LB) ++ s140))), (8, vV jN), (9, vI yE), (18, vI jT), (19, vV j2), (20, .val (.str (([102, 108, 105, 103, 104, 116, 32] : LB) ++ s140))), (21, .val (.agg [.list ja aair2, .list jb adis4])), (22, .val (.list jh b6)), (23, vI jT), (24, .cptr c141 0), (25, .val (.agg [wk, wl, wg, wd, wc, we])), (26, vV jN)], [bx 74 [(2, some [.val (.list ja aair2), .val (.list jb adis4)])]], KK⟩)
noncomputable def QgO (lb n jY : Nat) (ja : Bool) (aair2 : LL) (jb : Bool) (adis4 : LL) (jh : Bool) (b6 : LL) (jT : Int) (s140 : LB) (jN j2 : CV) (c141 : List CV) (wk wl wg wd wc we : CV) (wZ : Bool) (l178 : LL) (wv : Int) : Option CV :=
 hold (E0 lb n 0 988 (sub (B Qaa) [1, 1, 0, 1, 0, 0, 1, 0, 0, 1, 1, 1]) (Qai 1 (seqK (E0 lb n 0 992) (sub (B Qaa) [1, 1, 0, 1, 0, 0, 1, 0]) (sub (B Qaa) [1, 1, 0, 1, 0, 0, 1, 1]) (QbL 0 (Qag (sub (B Qaa) [1, 1, 0, 1, 0, 0]) ++ [7, 8, 9, 9, 10, 11, 10, 11]) [] (Qat (E0 lb n 0 994) 0 (Qag (sub (B Qaa) [1, 1, 0, 1, 0, 0]) ++ [7, 8, 9, 9, 10, 11, 10, 11]) [] (sub (B Qaa) [1, 1, 0, 1, 0, 0]) (Qai 0 (seqK (E0 lb n 0 997) (sub (B Qaa) [1, 1, 0]) (sub (B Qaa) [1, 1, 1]) (retK Tryz.prog (R Qaa) 0 (outK (Qaf Tryz.prog Qaa))))) jY) (Qai 0 (seqK (E0 lb n 0 997) (sub (B Qaa) [1, 1, 0]) (sub (B Qaa) [1, 1, 1]) (retK Tryz.prog (R Qaa) 0 (outK (Qaf Tryz.prog Qaa)))))))) ⟨fr 74 [(0, .val (.agg [.list ja aair2, .list jb adis4])), (1, .val (.list jh b6)), (2, .ptr 0 2 0), (4, .lst true true 83 []), (5, .lst true wZ 83 l178), (6, vI jT), (7, .val (.str (([102, 108, 105, 103, 104, 116, 32] : LB) ++ s140))), (8, vV jN), (9, vI wv), (18, vI jT), (19, vV j2), (20, .val (.str (([102, 108, 105, 103, 104, 116, 32] : LB) ++ s140))), (21, .val (.agg [.list ja aair2, .list jb adis4])), (22, .val (.list jh b6)), (23, vI jT), (24, .cptr c141 0), (25, .val (.agg [wk, wl, wg, wd, wc, we])), (26, vV jN)], [bx 74 [(2, some [.val (.list ja aair2), .val (.list jb adis4)])]], KK⟩)
noncomputable def QdJ (lb n vz jY : Nat) (ja : Bool) (aair2 : LL) (jb : Bool) (adis4 : LL) (jh : Bool) (b6 : LL) (wZ : Bool) (l178 : LL) (jT : Int) (s140 : LB) (jN : CV) (wv : Int) (j2 : CV) (c141 : List CV) (wk wl wg wd wc we vo : CV) (yI : Int) : Option CV :=
 hold (Qat (E0 lb n 0 983) 0 (Qag (sub (B Qaa) [1, 1, 0, 1, 0, 0, 1, 0, 0, 1, 1, 1, 1, 0, 1, 0, 0]) ++ []) [] (sub (B Qaa) [1, 1, 0, 1, 0, 0, 1, 0, 0, 1, 1, 1, 1, 0, 1, 0, 0]) (Qai 4 (seqK (E0 lb n 0 986) (sub (B Qaa) [1, 1, 0, 1, 0, 0, 1, 0, 0, 1, 1, 1, 1, 0]) (sub (B Qaa) [1, 1, 0, 1, 0, 0, 1, 0, 0, 1, 1, 1, 1, 1]) (Qai 1 (seqK (E0 lb n 0 992) (sub (B Qaa) [1, 1, 0, 1, 0, 0, 1, 0]) (sub (B Qaa) [1, 1, 0, 1, 0, 0, 1, 1]) (QbL 0 (Qag (sub (B Qaa) [1, 1, 0, 1, 0, 0]) ++ [7, 8, 9, 9, 10, 11, 10, 11]) [] (Qat (E0 lb n 0 994) 0 (Qag (sub (B Qaa) [1, 1, 0, 1, 0, 0]) ++ [7, 8, 9, 9, 10, 11, 10, 11]) [] (sub (B Qaa) [1, 1, 0, 1, 0, 0]) (Qai 0 (seqK (E0 lb n 0 997) (sub (B Qaa) [1, 1, 0]) (sub (B Qaa) [1, 1, 1]) (retK Tryz.prog (R Qaa) 0 (outK (Qaf Tryz.prog Qaa))))) jY) (Qai 0 (seqK (E0 lb n 0 997) (sub (B Qaa) [1, 1, 0]) (sub (B Qaa) [1, 1, 1]) (retK Tryz.prog (R Qaa) 0 (outK (Qaf Tryz.prog Qaa)))))))))) vz ⟨fr 74 [(0, .val (.agg [.list ja aair2, .list jb adis4])), (1, .val (.list jh b6)), (2, .ptr 0 2 0), (4, .lst true true 83 []), (5, .lst true wZ 83 l178), (6, vI jT), (7, .val (.str (([102, 108, 105, 103, 104, 116, 32] : LB) ++ s140))), (8, vV jN), (9, vI wv), (10, vV vo), (11, vI yI), (18, vI jT), (19, vV j2), (20, .val (.str (([102, 108, 105, 103, 104, 116, 32] : LB) ++ s140))), (21, .val (.agg [.list ja aair2, .list jb adis4])), (22, .val (.list jh b6)), (23, vI jT), (24, .cptr c141 0), (25, .val (.agg [wk, wl, wg, wd, wc, we])), (26, vV jN)], [bx 74 [(2, some [.val (.list ja aair2), .val (.list jb adis4)])]], KK⟩)
noncomputable def Qgx (lb n jY : Nat) (ja : Bool) (aair2 : LL) (jb : Bool) (adis4 : LL) (jh : Bool) (b6 : LL) (wZ : Bool) (l178 : LL) (jT : Int) (s140 : LB) (jN : CV) (wv : Int) (j2 : CV) (c141 : List CV) (wk wl wg wd wc we y4 : CV) (vn : Int) : Option CV :=
 hold (E0 lb n 0 986 (sub (B Qaa) [1, 1, 0, 1, 0, 0, 1, 0, 0, 1, 1, 1, 1, 1]) (Qai 1 (seqK (E0 lb n 0 992) (sub (B Qaa) [1, 1, 0, 1, 0, 0, 1, 0]) (sub (B Qaa) [1, 1, 0, 1, 0, 0, 1, 1]) (QbL 0 (Qag (sub (B Qaa) [1, 1, 0, 1, 0, 0]) ++ [7, 8, 9, 9, 10, 11, 10, 11]) [] (Qat (E0 lb n 0 994) 0 (Qag (sub (B Qaa) [1, 1, 0, 1, 0, 0]) ++ [7, 8, 9, 9, 10, 11, 10, 11]) [] (sub (B Qaa) [1, 1, 0, 1, 0, 0]) (Qai 0 (seqK (E0 lb n 0 997) (sub (B Qaa) [1, 1, 0]) (sub (B Qaa) [1, 1, 1]) (retK Tryz.prog (R Qaa) 0 (outK (Qaf Tryz.prog Qaa))))) jY) (Qai 0 (seqK (E0 lb n 0 997) (sub (B Qaa) [1, 1, 0]) (sub (B Qaa) [1, 1, 1]) (retK Tryz.prog (R Qaa) 0 (outK (Qaf Tryz.prog Qaa)))))))) ⟨fr 74 [(0, .val (.agg [.list ja aair2, .list jb adis4])), (1, .val (.list jh b6)), (2, .ptr 0 2 0), (4, .lst true true 83 []), (5, .lst true wZ 83 l178), (6, vI jT), (7, .val (.str (([102, 108, 105, 103, 104, 116, 32] : LB) ++ s140))), (8, vV jN), (9, vI wv), (10, vV y4), (11, vI vn), (18, vI jT), (19, vV j2), (20, .val (.str (([102, 108, 105, 103, 104, 116, 32] : LB) ++ s140))), (21, .val (.agg [.list ja aair2, .list jb adis4])), (22, .val (.list jh b6)), (23, vI jT), (24, .cptr c141 0), (25, .val (.agg [wk, wl, wg, wd, wc, we])), (26, vV jN)], [bx 74 [(2, some [.val (.list ja aair2), .val (.list jb adis4)])]], KK⟩)
noncomputable def QgU (lb n jY : Nat) (ja : Bool) (aair2 : LL) (jb : Bool) (adis4 : LL) (jh : Bool) (b6 : LL) (jT : Int) (kh : Bool) (kp : LL) (oa : LB) (k4 : CV) (ov : Int) (oc : CV) (od : Int) : Option CV :=
 hold (E0 lb n 0 992 (sub (B Qaa) [1, 1, 0, 1, 0, 0, 1, 1]) (QbL 0 (Qag (sub (B Qaa) [1, 1, 0, 1, 0, 0]) ++ [7, 8, 9, 9, 10, 11, 10, 11]) [] (Qat (E0 lb n 0 994) 0 (Qag (sub (B Qaa) [1, 1, 0, 1, 0, 0]) ++ [7, 8, 9, 9, 10, 11, 10, 11]) [] (sub (B Qaa) [1, 1, 0, 1, 0, 0]) (Qai 0 (seqK (E0 lb n 0 997) (sub (B Qaa) [1, 1, 0]) (sub (B Qaa) [1, 1, 1]) (retK Tryz.prog (R Qaa) 0 (outK (Qaf Tryz.prog Qaa))))) jY) (Qai 0 (seqK (E0 lb n 0 997) (sub (B Qaa) [1, 1, 0]) (sub (B Qaa) [1, 1, 1]) (retK Tryz.prog (R Qaa) 0 (outK (Qaf Tryz.prog Qaa)))))) ⟨fr 74 [(0, .val (.agg [.list ja aair2, .list jb adis4])), (1, .val (.list jh b6)), (2, .ptr 0 2 0), (4, .lst true true 83 []), (5, .lst true kh 83 kp), (6, vI jT), (7, vS oa), (8, vV k4), (9, vI ov), (10, vV oc), (11, vI od)], [bx 74 [(2, some [.val (.list ja aair2), .val (.list jb adis4)])]], KK⟩)
theorem Qg0 (lb n jY : Nat) (ja : Bool) (aair2 : LL) (jb : Bool) (adis4 : LL) (jh : Bool) (b6 : LL) (jT : Int) (kh : Bool) (kp : LL) (oa : LB) (k4 : CV) (ov : Int) (oc : CV) (od : Int) :
 QgU lb n jY ja aair2 jb adis4 jh b6 jT kh kp oa k4 ov oc od =
 QeV lb n jY ja aair2 jb adis4 jh b6 kh kp (IntKind.wrap .i64 (jT + 1)) := (Qae _).trans (by kernel_rfl)
theorem QmL (lb n jY : Nat) (ja : Bool) (aair2 : LL) (jb : Bool) (adis4 : LL) (jh : Bool) (b6 : LL) (wZ : Bool) (l178 : LL) (jT : Int) (s140 : LB) (jN : CV) (wv : Int) (j2 : CV) (c141 : List CV) (wk wl wg wd wc we y4 : CV) (vn : Int) :
 Qgx lb n jY ja aair2 jb adis4 jh b6 wZ l178 jT s140 jN wv j2 c141 wk wl wg wd wc we y4 vn =
 optO (CV.asB y4) fun mE =>
 bif mE then
 (chkO (room (l178.length + 1) 24) (
 QgU lb n jY ja aair2 jb adis4 jh b6 jT (wZ && false) (l178 ++ [[CV.int .i64 6, CV.str (([102, 108, 105, 103, 104, 116, 32] : LB) ++ s140)]]) (([102, 108, 105, 103, 104, 116, 32] : LB) ++ s140) jN wv y4 vn))
 else
 (QgU lb n jY ja aair2 jb adis4 jh b6 jT wZ l178 (([102, 108, 105, 103, 104, 116, 32] : LB) ++ s140) jN wv y4 vn) := (Qae _).trans (by kernel_rfl)
theorem Qf1 (lb n vz jY : Nat) (ja : Bool) (aair2 : LL) (jb : Bool) (adis4 : LL) (jh : Bool) (b6 : LL) (wZ : Bool) (l178 : LL) (jT : Int) (s140 : LB) (jN : CV) (wv : Int) (j2 : CV) (c141 : List CV) (wk wl wg wd wc we vo : CV) (yI : Int) :
 QdJ lb n (vz + 1) jY ja aair2 jb adis4 jh b6 wZ l178 jT s140 jN wv j2 c141 wk wl wg wd wc we vo yI =
 bif (decide (yI < jT)) then
 (optO (CV.asB vo) fun nd =>
 bif nd then
 (QdJ lb n vz jY ja aair2 jb adis4 jh b6 wZ l178 jT s140 jN wv j2 c141 wk wl wg wd wc we (.bool true) (IntKind.wrap .i64 (yI + 1)))
 else
 (optO (atL b6 yI) fun c215 =>
 chkO (c215.length == 6) (
 optO (c215[0]?) fun m8 =>
 optO (c215[1]?) fun mq =>
 optO (c215[2]?) fun mS =>
 optO (c215[3]?) fun mB =>
 optO (c215[4]?) fun nw =>
 optO (c215[5]?) fun mK =>
 optO (atL b6 jT) fun c222 =>
 chkO (c222.length == 6) (
 optO (c222[0]?) fun mW =>
 optO (c222[1]?) fun nk =>
 optO (c222[2]?) fun mO =>
 optO (c222[3]?) fun ng =>
 optO (c222[4]?) fun nA =>
 optO (c222[5]?) fun mJ =>
 optO (C lb n QhB [.agg [m8, mq, mS, mB, nw, mK], .agg [mW, nk, mO, ng, nA, mJ]]) fun m5 =>
 QdJ lb n vz jY ja aair2 jb adis4 jh b6 wZ l178 jT s140 jN wv j2 c141 wk wl wg wd wc we m5 (IntKind.wrap .i64 (yI + 1))))))
 else
 (Qgx lb n jY ja aair2 jb adis4 jh b6 wZ l178 jT s140 jN wv j2 c141 wk wl wg wd wc we vo yI) := (Qae _).trans (by kernel_rfl)
theorem Ql8 (lb n jY : Nat) (ja : Bool) (aair2 : LL) (jb : Bool) (adis4 : LL) (jh : Bool) (b6 : LL) (jT : Int) (s140 : LB) (jN j2 : CV) (c141 : List CV) (wk wl wg wd wc we : CV) (wZ : Bool) (l178 : LL) (wv : Int) :
 QgO lb n jY ja aair2 jb adis4 jh b6 jT s140 jN j2 c141 wk wl wg wd wc we wZ l178 wv =
 QdJ lb n n jY ja aair2 jb adis4 jh b6 wZ l178 jT s140 jN wv j2 c141 wk wl wg wd wc we (.bool false) 0 := (Qae _).trans (by kernel_rfl)
theorem QfZ (lb n v8 jY : Nat) (ja : Bool) (aair2 : LL) (jb : Bool) (adis4 : LL) (jh : Bool) (b6 : LL) (jT : Int) (s140 : LB) (jN j2 : CV) (c141 : List CV) (wk wl wg wd wc we : CV) (vw : Bool) (l158 : LL) (yE : Int) :
 QeQ lb n (v8 + 1) jY ja aair2 jb adis4 jh b6 jT s140 jN j2 c141 wk wl wg wd wc we vw l158 yE =
 optO (CV.asL jN) fun mQ =>
 bif (decide (yE < (mQ.2.length : Int))) then
 (optO (CV.asL jN) fun mR =>
 optO (atL mR.2 yE) fun c171 =>
 chkO (c171.length == 2) (
 optO (c171[0]?) fun gQ =>
 chkO (decide ((([102, 108, 105, 103, 104, 116, 32] : LB) ++ s140).length + [32].length ≤ 9223372036854775807)) (
 optO (CV.asL jN) fun mF =>
 optO (atL mF.2 yE) fun c174 =>
 chkO (c174.length == 2) (
 optO (c174[1]?) fun mz =>
 optO (CV.asS mz) fun s176 =>
 chkO (decide (((([102, 108, 105, 103, 104, 116, 32] : LB) ++ s140) ++ [32]).length + s176.length ≤ 9223372036854775807)) (
 chkO (CV.isCell gQ) (
 chkO (room (l158.length + 1) 24) (
 QeQ lb n v8 jY ja aair2 jb adis4 jh b6 jT s140 jN j2 c141 wk wl wg wd wc we (vw && false) (l158 ++ [[gQ, CV.str (((([102, 108, 105, 103, 104, 116, 32] : LB) ++ s140) ++ [32]) ++ s176)]]) (IntKind.wrap .i64 (yE + 1)))))))))
 else
 (QgO lb n jY ja aair2 jb adis4 jh b6 jT s140 jN j2 c141 wk wl wg wd wc we vw l158 yE) := (Qae _).trans (by kernel_rfl)
noncomputable def QjA (lb n : Nat) (ja : Bool) (aair2 : LL) (jb : Bool) (adis4 : LL) (jh : Bool) (b6 : LL) (kr : Bool) (vW : LL) (oD : Int) : Option CV :=
 hold (E0 lb n 0 997 (sub (B Qaa) [1, 1, 1]) (retK Tryz.prog (R Qaa) 0 (outK (Qaf Tryz.prog Qaa))) ⟨fr 74 [(0, .val (.agg [.list ja aair2, .list jb adis4])), (1, .val (.list jh b6)), (2, .ptr 0 2 0), (4, .lst true true 83 []), (5, .lst true kr 83 vW), (6, vI oD)], [bx 74 [(2, some [.val (.list ja aair2), .val (.list jb adis4)])]], KK⟩)
theorem QmJ (lb n : Nat) (ja : Bool) (aair2 : LL) (jb : Bool) (adis4 : LL) (jh : Bool) (b6 : LL) (kr : Bool) (vW : LL) (oD : Int) :
 QjA lb n ja aair2 jb adis4 jh b6 kr vW oD =
 some (.list kr vW) := (Qae _).trans (by kernel_rfl)
theorem Qf3 (lb n jY : Nat) (ja : Bool) (aair2 : LL) (jb : Bool) (adis4 : LL) (jh : Bool) (b6 : LL) (kR : Bool) (kI : LL) (jT : Int) :
 QeV lb n (jY + 1) ja aair2 jb adis4 jh b6 kR kI jT =
 bif (decide (jT < (b6.length : Int))) then
 (optO (C lb n QcE [.int .i64 jT]) fun j2 =>
 optO (CV.asS j2) fun s140 =>
 chkO (decide (([102, 108, 105, 103, 104, 116, 32] : LB).length + s140.length ≤ 9223372036854775807)) (
 optO (atL b6 jT) fun c141 =>
 chkO (c141.length == 6) (
 optO (c141[0]?) fun wk =>
 optO (c141[1]?) fun wl =>
 optO (c141[2]?) fun wg =>
 optO (c141[3]?) fun wd =>
 optO (c141[4]?) fun wc =>
 optO (c141[5]?) fun we =>
 optO (C lb n Qah [.agg [.list ja aair2, .list jb adis4], .agg [wk, wl, wg, wd, wc, we]]) fun jN =>
 QeQ lb n n jY ja aair2 jb adis4 jh b6 jT s140 jN j2 c141 wk wl wg wd wc we kR kI 0)))
 else
 (QjA lb n ja aair2 jb adis4 jh b6 kR kI jT) := (Qae _).trans (by kernel_rfl)
theorem QpD (lb n : Nat) (ja : Bool) (aair2 : LL) (jb : Bool) (adis4 : LL) (jh : Bool) (b6 : LL) :
 top lb n Qaa [.agg [.list ja aair2, .list jb adis4], .list jh b6] =
 QeV lb n n ja aair2 jb adis4 jh b6 true [] 0 := by kernel_rfl
end Go.Proofs
