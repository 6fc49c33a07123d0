/- Equations of functions, printed by program. Conditions: none. -/
import Derived.Test.YtdcpdknginpohaaGreatDoorEv
namespace Go.Proofs
open Go.Am
set_option maxRecDepth 100000
set_option linter.unusedVariables false
theorem Qvc (lb n) (jt : LB) (js jh jl ji : Int) (jq) (aleg7 : LL) (oA : LB) (kZ vt kl vO : Int) (kY) (ow : LL) :
 top lb n QlL [.agg [.str jt, .int .i64 js, .int .i64 jh, .int .i64 jl, .int .i64 ji, .list jq aleg7], .agg [.str oA, .int .i64 kZ, .int .i64 vt, .int .i64 kl, .int .i64 vO, .list kY ow]] =
 bif (jt == oA) then
 (bif (js == kZ) then
 (bif ((jh == vt) && ((jl == kl) && ((ji == vO) && true))) then
 (optO (C lb n Qbw [.list jq aleg7, .list kY ow]) fun mh =>
 some (mh))
 else
 (some (.bool false)))
 else
 (some (.bool false)))
 else
 (some (.bool false)) := by kernel_rfl
noncomputable def r07_SameLegs_L1 :=
 fun lb n (pt : Nat) (wb : Bool) (a2 : LL) (vz : Bool) (b4 : LL) od =>
 hold (Qas (E0 lb n 0 994) 0 (Qad (sub (B Qbw) [1, 1, 0, 1, 0, 0]) ++ []) [] (sub (B Qbw) [1, 1, 0, 1, 0, 0]) (Qak 0 (seqK (E0 lb n 0 997) (sub (B Qbw) [1, 1, 0]) (sub (B Qbw) [1, 1, 1]) (retK Tryz.prog (R Qbw) 0 (outK (Qaf Tryz.prog Qbw))))) pt ⟨fr 26 [(0, .val (.list wb a2)), (1, .val (.list vz b4)), (4, vB false), (5, vI od)], [bx 26 []], KK⟩)
noncomputable def Qka (lb n : Nat) (wb : Bool) (a2 : LL) (vz : Bool) (b4 : LL) (k6 : Int) : Option CV :=
 hold (E0 lb n 0 997 (sub (B Qbw) [1, 1, 1]) (retK Tryz.prog (R Qbw) 0 (outK (Qaf Tryz.prog Qbw))) ⟨fr 26 [(0, .val (.list wb a2)), (1, .val (.list vz b4)), (4, vB false), (5, vI k6)], [bx 26 []], KK⟩)
theorem QmY (lb n : Nat) (wb : Bool) (a2 : LL) (vz : Bool) (b4 : LL) (k6 : Int) :
 Qka lb n wb a2 vz b4 k6 =
 some (.bool true) := (Qac _).trans (by kernel_rfl)
theorem Qg9 (lb n pt : Nat) (wb : Bool) (a2 : LL) (vz : Bool) (b4 : LL) (od : Int) :
 r07_SameLegs_L1 lb n (pt + 1) wb a2 vz b4 od =
 bif (decide (od < (a2.length : Int))) then
 (optO (atL a2 od) fun c54 =>
 chkO (c54.length == 5) (
 optO (c54[0]?) fun vc =>
 optO (c54[1]?) fun vu =>
 optO (c54[2]?) fun ka =>
 optO (c54[3]?) fun kJ =>
 optO (c54[4]?) fun gD =>
 optO (atL b4 od) fun c60 =>
 chkO (c60.length == 5) (
 optO (c60[0]?) fun ll =>
 optO (c60[1]?) fun rm =>
 optO (c60[2]?) fun kS =>
 optO (c60[3]?) fun oe =>
 optO (c60[4]?) fun kG =>
 optO (CV.asS vc) fun tk =>
 optO (CV.asS ll) fun lI =>
 optO (CV.asS vu) fun nO =>
 optO (CV.asS rm) fun nC =>
 optO (CV.asI .i64 ka) fun ro =>
 optO (CV.asI .i64 kS) fun rb =>
 optO (CV.asI .i64 kJ) fun lr =>
 optO (CV.asI .i64 oe) fun rR =>
 optO (CV.asS gD) fun tt =>
 optO (CV.asS kG) fun lY =>
 bif (!((tk == lI) && ((nO == nC) && ((ro == rb) && ((lr == rR) && ((tt == lY) && true)))))) then
 (some (.bool false))
 else
 (r07_SameLegs_L1 lb n pt wb a2 vz b4 (IntKind.wrap .i64 (od + 1))))))
 else
 (Qka lb n wb a2 vz b4 od) := (Qac _).trans (by kernel_rfl)
theorem QjI (lb n : Nat) (wb : Bool) (a2 : LL) (vz : Bool) (b4 : LL) :
 top lb n Qbw [.list wb a2, .list vz b4] =
 bif ((a2.length : Int) != (b4.length : Int)) then
 (some (.bool false))
 else
 (r07_SameLegs_L1 lb n n wb a2 vz b4 0) := by kernel_rfl
end Go.Proofs
