/- Equations of functions, printed by program. Conditions: none. -/
import Derived.Test.YtbdclhadjcfadaaGreatDoorEv
namespace Go.Proofs
open Go.Am
set_option maxRecDepth 100000
set_option linter.unusedVariables false
noncomputable def cond_formOf_d1 :=
 fun lb n (K:AV → List (List (Option (List AV))) → Option CV) yb w8 (w5:Bool) (w7:LL) w4 w6 wY wW wX (wB:Bool) (wC:LL) =>
 I9 lb n Qax [vI yb] [bx 140 [(1,some [vI w8, .val (.list w5 w7),vI w4,vI w6,vI wY,vI wW,vI wX, .val (.list wB wC)])]] K
noncomputable def Qba (lb n:Nat) (jf:Int) (jg:Bool) (jh:LL) (ji jj ja jc jb:Int) (jd:Bool) (je:LL):AV → List (List (Option (List AV))) → Option CV :=
 (inlK (opAt (Qx4 (sub (B Qcs) [1,0])) 2) ⟨fr 140 [(0, .val (.agg [.int .i64 jf, .list jg jh, .int .i64 ji, .int .i64 jj, .int .i64 ja, .int .i64 jc, .int .i64 jb, .list jd je])),(1, .ptr 0 1 0),(2,vI 0),(5, .ptr 0 1 0),(6,vI jf)],[bx 140 [(1,some [vI jf, .val (.list jg jh),vI ji,vI jj,vI ja,vI jc,vI jb, .val (.list jd je)])]],KK⟩ (opsK Tryz.prog (C lb n) (I9 lb n) 0 (Qx4 (sub (B Qcs) [1,0])) ((Qx4 (sub (B Qcs) [1,0])).drop 3) ((seqK (E0 lb n 0 998) (sub (B Qcs) [1,0]) (sub (B Qcs) [1,1]) (retK Tryz.prog (R Qcs) 0 (outK (Qag Tryz.prog Qcs)))) .normal)))
theorem QoU (lb n:Nat) (jf:Int) (jg:Bool) (jh:LL) (ji jj ja jc jb:Int) (jd:Bool) (je:LL) :
 Qba lb n jf jg jh ji jj ja jc jb jd je (.val (.agg [.str [97,108,108], .int .i64 0, .int .i64 0, .int .i64 (-1), .int .i64 (-1), .bool false, .nilfn, .bool false, .bool true])) [bx 140 [(1,some [vI jf, .val (.list jg jh),vI ji,vI jj,vI ja,vI jc,vI jb, .val (.list jd je)])]] =
 bif (ji != 0) then
 (some (.int .i64 3))
 else
 (bif (jj != 0) then
 (some (.int .i64 3))
 else
 (bif (!((ja == 0) && ((jc == 0) && ((jb == 0) && true)))) then
 (some (.int .i64 3))
 else
 (bif (decide ((je.length:Int) > 0)) then
 (some (.int .i64 3))
 else
 (bif (decide ((jh.length:Int) > 0)) then
 (some (.int .i64 3))
 else
 (bif (decide ((jh.length:Int) < 0)) then
 (some (.int .i64 2))
 else
 (bif (decide ((jh.length:Int) > 0)) then
 (some (.int .i64 2))
 else
 (some (.int .i64 0)))))))) := by kernel_rfl
theorem QoZ (lb n:Nat) (jf:Int) (jg:Bool) (jh:LL) (ji jj ja jc jb:Int) (jd:Bool) (je:LL) :
 Qba lb n jf jg jh ji jj ja jc jb jd je (.val (.agg [.str [97,110,100], .int .i64 1, .int .i64 128, .int .i64 (-1), .int .i64 (-1), .bool false, .nilfn, .bool false, .bool true])) [bx 140 [(1,some [vI jf, .val (.list jg jh),vI ji,vI jj,vI ja,vI jc,vI jb, .val (.list jd je)])]] =
 bif (ji != 0) then
 (some (.int .i64 3))
 else
 (bif (jj != 0) then
 (some (.int .i64 3))
 else
 (bif (!((ja == 0) && ((jc == 0) && ((jb == 0) && true)))) then
 (some (.int .i64 3))
 else
 (bif (decide ((je.length:Int) > 0)) then
 (some (.int .i64 3))
 else
 (bif (decide ((jh.length:Int) < 1)) then
 (some (.int .i64 2))
 else
 (bif (decide ((jh.length:Int) > 128)) then
 (some (.int .i64 2))
 else
 (some (.int .i64 0))))))) := by kernel_rfl
theorem QoM (lb n:Nat) (jf:Int) (jg:Bool) (jh:LL) (ji jj ja jc jb:Int) (jd:Bool) (je:LL) :
 Qba lb n jf jg jh ji jj ja jc jb jd je (.val (.agg [.str [111,114], .int .i64 1, .int .i64 128, .int .i64 (-1), .int .i64 (-1), .bool false, .nilfn, .bool false, .bool true])) [bx 140 [(1,some [vI jf, .val (.list jg jh),vI ji,vI jj,vI ja,vI jc,vI jb, .val (.list jd je)])]] =
 bif (ji != 0) then
 (some (.int .i64 3))
 else
 (bif (jj != 0) then
 (some (.int .i64 3))
 else
 (bif (!((ja == 0) && ((jc == 0) && ((jb == 0) && true)))) then
 (some (.int .i64 3))
 else
 (bif (decide ((je.length:Int) > 0)) then
 (some (.int .i64 3))
 else
 (bif (decide ((jh.length:Int) < 1)) then
 (some (.int .i64 2))
 else
 (bif (decide ((jh.length:Int) > 128)) then
 (some (.int .i64 2))
 else
 (some (.int .i64 0))))))) := by kernel_rfl
theorem QoQ (lb n:Nat) (jf:Int) (jg:Bool) (jh:LL) (ji jj ja jc jb:Int) (jd:Bool) (je:LL) :
 Qba lb n jf jg jh ji jj ja jc jb jd je (.val (.agg [.str [110,111,116], .int .i64 1, .int .i64 1, .int .i64 (-1), .int .i64 (-1), .bool false, .nilfn, .bool false, .bool true])) [bx 140 [(1,some [vI jf, .val (.list jg jh),vI ji,vI jj,vI ja,vI jc,vI jb, .val (.list jd je)])]] =
 bif (ji != 0) then
 (some (.int .i64 3))
 else
 (bif (jj != 0) then
 (some (.int .i64 3))
 else
 (bif (!((ja == 0) && ((jc == 0) && ((jb == 0) && true)))) then
 (some (.int .i64 3))
 else
 (bif (decide ((je.length:Int) > 0)) then
 (some (.int .i64 3))
 else
 (bif (decide ((jh.length:Int) < 1)) then
 (some (.int .i64 2))
 else
 (bif (decide ((jh.length:Int) > 1)) then
 (some (.int .i64 2))
 else
 (some (.int .i64 0))))))) := by kernel_rfl
theorem QoY (lb n:Nat) (jf:Int) (jg:Bool) (jh:LL) (ji jj ja jc jb:Int) (jd:Bool) (je:LL) :
 Qba lb n jf jg jh ji jj ja jc jb jd je (.val (.agg [.str [116,114,97,118,101,108], .int .i64 0, .int .i64 0, .int .i64 (-1), .int .i64 (-1), .bool true, .nilfn, .bool false, .bool true])) [bx 140 [(1,some [vI jf, .val (.list jg jh),vI ji,vI jj,vI ja,vI jc,vI jb, .val (.list jd je)])]] =
 bif (ji != 0) then
 (some (.int .i64 3))
 else
 (bif (jj != 0) then
 (some (.int .i64 3))
 else
 (bif (decide ((je.length:Int) > 0)) then
 (some (.int .i64 3))
 else
 (bif (decide ((jh.length:Int) > 0)) then
 (some (.int .i64 3))
 else
 (bif (decide ((jh.length:Int) < 0)) then
 (some (.int .i64 2))
 else
 (bif (decide ((jh.length:Int) > 0)) then
 (some (.int .i64 2))
 else
 (optO (C lb n Qcl [.agg [.int .i64 ja, .int .i64 jc, .int .i64 jb]]) fun ou =>
 some (ou))))))) := by kernel_rfl
theorem QoP (lb n:Nat) (jf:Int) (jg:Bool) (jh:LL) (ji jj ja jc jb:Int) (jd:Bool) (je:LL) :
 Qba lb n jf jg jh ji jj ja jc jb jd je (.val (.agg [.str [115,97,108,101], .int .i64 0, .int .i64 0, .int .i64 (-1), .int .i64 (-1), .bool true, .nilfn, .bool false, .bool true])) [bx 140 [(1,some [vI jf, .val (.list jg jh),vI ji,vI jj,vI ja,vI jc,vI jb, .val (.list jd je)])]] =
 bif (ji != 0) then
 (some (.int .i64 3))
 else
 (bif (jj != 0) then
 (some (.int .i64 3))
 else
 (bif (decide ((je.length:Int) > 0)) then
 (some (.int .i64 3))
 else
 (bif (decide ((jh.length:Int) > 0)) then
 (some (.int .i64 3))
 else
 (bif (decide ((jh.length:Int) < 0)) then
 (some (.int .i64 2))
 else
 (bif (decide ((jh.length:Int) > 0)) then
 (some (.int .i64 2))
 else
 (optO (C lb n Qcl [.agg [.int .i64 ja, .int .i64 jc, .int .i64 jb]]) fun jr =>
 some (jr))))))) := by kernel_rfl
theorem Qo2 (lb n:Nat) (jf:Int) (jg:Bool) (jh:LL) (ji jj ja jc jb:Int) (jd:Bool) (je:LL) :
 Qba lb n jf jg jh ji jj ja jc jb jd je (.val (.agg [.str [97,100,118,97,110,99,101], .int .i64 0, .int .i64 0, .int .i64 36524, .int .i64 (-1), .bool false, .nilfn, .bool false, .bool true])) [bx 140 [(1,some [vI jf, .val (.list jg jh),vI ji,vI jj,vI ja,vI jc,vI jb, .val (.list jd je)])]] =
 bif (jj != 0) then
 (some (.int .i64 3))
 else
 (bif (!((ja == 0) && ((jc == 0) && ((jb == 0) && true)))) then
 (some (.int .i64 3))
 else
 (bif (decide ((je.length:Int) > 0)) then
 (some (.int .i64 3))
 else
 (bif (decide ((jh.length:Int) > 0)) then
 (some (.int .i64 3))
 else
 (bif (decide ((jh.length:Int) < 0)) then
 (some (.int .i64 2))
 else
 (bif (decide ((jh.length:Int) > 0)) then
 (some (.int .i64 2))
 else
 (bif (decide (ji < 0)) then
 (some (.int .i64 2))
 else
 (bif (decide (ji > 36524)) then
 (some (.int .i64 2))
 else
 (some (.int .i64 0))))))))) := by kernel_rfl
theorem QoK (lb n:Nat) (jf:Int) (jg:Bool) (jh:LL) (ji jj ja jc jb:Int) (jd:Bool) (je:LL) :
 Qba lb n jf jg jh ji jj ja jc jb jd je (.val (.agg [.str [104,111,117,114], .int .i64 0, .int .i64 0, .int .i64 1439, .int .i64 1439, .bool false, .nilfn, .bool false, .bool true])) [bx 140 [(1,some [vI jf, .val (.list jg jh),vI ji,vI jj,vI ja,vI jc,vI jb, .val (.list jd je)])]] =
 bif (!((ja == 0) && ((jc == 0) && ((jb == 0) && true)))) then
 (some (.int .i64 3))
 else
 (bif (decide ((je.length:Int) > 0)) then
 (some (.int .i64 3))
 else
 (bif (decide ((jh.length:Int) > 0)) then
 (some (.int .i64 3))
 else
 (bif (decide ((jh.length:Int) < 0)) then
 (some (.int .i64 2))
 else
 (bif (decide ((jh.length:Int) > 0)) then
 (some (.int .i64 2))
 else
 (bif (decide (ji < 0)) then
 (some (.int .i64 2))
 else
 (bif (decide (ji > 1439)) then
 (some (.int .i64 2))
 else
 (bif (decide (jj < 0)) then
 (some (.int .i64 2))
 else
 (bif (decide (jj > 1439)) then
 (some (.int .i64 2))
 else
 (some (.int .i64 0)))))))))) := by kernel_rfl
theorem QoL (lb n:Nat) (jf:Int) (jg:Bool) (jh:LL) (ji jj ja jc jb:Int) (jd:Bool) (je:LL) :
 Qba lb n jf jg jh ji jj ja jc jb jd je (.val (.agg [.str [115,116,111,112,115], .int .i64 0, .int .i64 0, .int .i64 6, .int .i64 (-1), .bool false, .nilfn, .bool false, .bool true])) [bx 140 [(1,some [vI jf, .val (.list jg jh),vI ji,vI jj,vI ja,vI jc,vI jb, .val (.list jd je)])]] =
 bif (jj != 0) then
 (some (.int .i64 3))
 else
 (bif (!((ja == 0) && ((jc == 0) && ((jb == 0) && true)))) then
 (some (.int .i64 3))
 else
 (bif (decide ((je.length:Int) > 0)) then
 (some (.int .i64 3))
 else
 (bif (decide ((jh.length:Int) > 0)) then
 (some (.int .i64 3))
 else
 (bif (decide ((jh.length:Int) < 0)) then
 (some (.int .i64 2))
 else
 (bif (decide ((jh.length:Int) > 0)) then
 (some (.int .i64 2))
 else
 (bif (decide (ji < 0)) then
 (some (.int .i64 2))
 else
 (bif (decide (ji > 6)) then
 (some (.int .i64 2))
 else
 (some (.int .i64 0))))))))) := by kernel_rfl
theorem QoW (lb n:Nat) (jf:Int) (jg:Bool) (jh:LL) (ji jj ja jc jb:Int) (jd:Bool) (je:LL) :
 Qba lb n jf jg jh ji jj ja jc jb jd je (.val (.agg [.str [116,114,97,110,115,102,101,114,115], .int .i64 0, .int .i64 0, .int .i64 6, .int .i64 (-1), .bool false, .nilfn, .bool false, .bool true])) [bx 140 [(1,some [vI jf, .val (.list jg jh),vI ji,vI jj,vI ja,vI jc,vI jb, .val (.list jd je)])]] =
 bif (jj != 0) then
 (some (.int .i64 3))
 else
 (bif (!((ja == 0) && ((jc == 0) && ((jb == 0) && true)))) then
 (some (.int .i64 3))
 else
 (bif (decide ((je.length:Int) > 0)) then
 (some (.int .i64 3))
 else
 (bif (decide ((jh.length:Int) > 0)) then
 (some (.int .i64 3))
 else
 (bif (decide ((jh.length:Int) < 0)) then
 (some (.int .i64 2))
 else
 (bif (decide ((jh.length:Int) > 0)) then
 (some (.int .i64 2))
 else
 (bif (decide (ji < 0)) then
 (some (.int .i64 2))
 else
 (bif (decide (ji > 6)) then
 (some (.int .i64 2))
 else
 (some (.int .i64 0))))))))) := by kernel_rfl
theorem QnL (lb n:Nat) (jf:Int) (jg:Bool) (jh:LL) (ji jj ja jc jb:Int) (jd:Bool) (je:LL) :
 Qba lb n jf jg jh ji jj ja jc jb jd je (.val (.agg [.str [99,97,114,114,105,101,114], .int .i64 0, .int .i64 0, .int .i64 (-1), .int .i64 (-1), .bool false, .fn QaZ, .bool false, .bool true])) [bx 140 [(1,some [vI jf, .val (.list jg jh),vI ji,vI jj,vI ja,vI jc,vI jb, .val (.list jd je)])]] =
 bif (ji != 0) then
 (some (.int .i64 3))
 else
 (bif (jj != 0) then
 (some (.int .i64 3))
 else
 (bif (!((ja == 0) && ((jc == 0) && ((jb == 0) && true)))) then
 (some (.int .i64 3))
 else
 (bif (decide ((jh.length:Int) > 0)) then
 (some (.int .i64 3))
 else
 (bif (decide ((jh.length:Int) < 0)) then
 (some (.int .i64 2))
 else
 (bif (decide ((jh.length:Int) > 0)) then
 (some (.int .i64 2))
 else
 (optO (C lb n Qar [.list jd je, .fn QaZ]) fun yk =>
 some (yk))))))) := by kernel_rfl
theorem Qn7 (lb n:Nat) (jf:Int) (jg:Bool) (jh:LL) (ji jj ja jc jb:Int) (jd:Bool) (je:LL) :
 Qba lb n jf jg jh ji jj ja jc jb jd je (.val (.agg [.str [110,117,109,98,101,114], .int .i64 0, .int .i64 0, .int .i64 9999, .int .i64 9999, .bool false, .nilfn, .bool true, .bool true])) [bx 140 [(1,some [vI jf, .val (.list jg jh),vI ji,vI jj,vI ja,vI jc,vI jb, .val (.list jd je)])]] =
 bif (!((ja == 0) && ((jc == 0) && ((jb == 0) && true)))) then
 (some (.int .i64 3))
 else
 (bif (decide ((je.length:Int) > 0)) then
 (some (.int .i64 3))
 else
 (bif (decide ((jh.length:Int) > 0)) then
 (some (.int .i64 3))
 else
 (bif (decide ((jh.length:Int) < 0)) then
 (some (.int .i64 2))
 else
 (bif (decide ((jh.length:Int) > 0)) then
 (some (.int .i64 2))
 else
 (bif (decide (ji < 0)) then
 (some (.int .i64 2))
 else
 (bif (decide (ji > 9999)) then
 (some (.int .i64 2))
 else
 (bif (decide (jj < 0)) then
 (some (.int .i64 2))
 else
 (bif (decide (jj > 9999)) then
 (some (.int .i64 2))
 else
 (bif (decide (ji < 1)) then
 (some (.int .i64 2))
 else
 (bif (decide (ji > jj)) then
 (some (.int .i64 2))
 else
 (some (.int .i64 0)))))))))))) := by kernel_rfl
theorem Qob (lb n:Nat) (jf:Int) (jg:Bool) (jh:LL) (ji jj ja jc jb:Int) (jd:Bool) (je:LL) :
 Qba lb n jf jg jh ji jj ja jc jb jd je (.val (.agg [.str [118,105,97], .int .i64 0, .int .i64 0, .int .i64 (-1), .int .i64 (-1), .bool false, .fn QaY, .bool false, .bool true])) [bx 140 [(1,some [vI jf, .val (.list jg jh),vI ji,vI jj,vI ja,vI jc,vI jb, .val (.list jd je)])]] =
 bif (ji != 0) then
 (some (.int .i64 3))
 else
 (bif (jj != 0) then
 (some (.int .i64 3))
 else
 (bif (!((ja == 0) && ((jc == 0) && ((jb == 0) && true)))) then
 (some (.int .i64 3))
 else
 (bif (decide ((jh.length:Int) > 0)) then
 (some (.int .i64 3))
 else
 (bif (decide ((jh.length:Int) < 0)) then
 (some (.int .i64 2))
 else
 (bif (decide ((jh.length:Int) > 0)) then
 (some (.int .i64 2))
 else
 (optO (C lb n Qar [.list jd je, .fn QaY]) fun wi =>
 some (wi))))))) := by kernel_rfl
theorem QnI (lb n:Nat) (jf:Int) (jg:Bool) (jh:LL) (ji jj ja jc jb:Int) (jd:Bool) (je:LL) :
 Qba lb n jf jg jh ji jj ja jc jb jd je (.val (.agg [.str [116,121,112,101], .int .i64 0, .int .i64 0, .int .i64 (-1), .int .i64 (-1), .bool false, .fn QaP, .bool false, .bool true])) [bx 140 [(1,some [vI jf, .val (.list jg jh),vI ji,vI jj,vI ja,vI jc,vI jb, .val (.list jd je)])]] =
 bif (ji != 0) then
 (some (.int .i64 3))
 else
 (bif (jj != 0) then
 (some (.int .i64 3))
 else
 (bif (!((ja == 0) && ((jc == 0) && ((jb == 0) && true)))) then
 (some (.int .i64 3))
 else
 (bif (decide ((jh.length:Int) > 0)) then
 (some (.int .i64 3))
 else
 (bif (decide ((jh.length:Int) < 0)) then
 (some (.int .i64 2))
 else
 (bif (decide ((jh.length:Int) > 0)) then
 (some (.int .i64 2))
 else
 (optO (C lb n Qar [.list jd je, .fn QaP]) fun jA =>
 some (jA))))))) := by kernel_rfl
theorem Qn3 (lb n:Nat) (jf:Int) (jg:Bool) (jh:LL) (ji jj ja jc jb:Int) (jd:Bool) (je:LL) :
 Qba lb n jf jg jh ji jj ja jc jb jd je (.val (.agg [.str [], .int .i64 0, .int .i64 0, .int .i64 (-1), .int .i64 (-1), .bool false, .nilfn, .bool false, .bool false])) [bx 140 [(1,some [vI jf, .val (.list jg jh),vI ji,vI jj,vI ja,vI jc,vI jb, .val (.list jd je)])]] =
 some (.int .i64 8) := by kernel_rfl
theorem QvZ (lb n:Nat) (jf:Int) (jg:Bool) (jh:LL) (ji jj ja jc jb:Int) (jd:Bool) (je:LL) :
 top lb n Qcs [.agg [.int .i64 jf, .list jg jh, .int .i64 ji, .int .i64 jj, .int .i64 ja, .int .i64 jc, .int .i64 jb, .list jd je]] =
 cond_formOf_d1 lb n (Qba lb n jf jg jh ji jj ja jc jb jd je) jf jf jg jh ji jj ja jc jb jd je := by kernel_rfl
theorem QoS (lb n:Nat) (K:AV → List (List (Option (List AV))) → Option CV) (yb w8:Int) (w5:Bool) (w7:LL) (w4 w6 wY wW wX:Int) (wB:Bool) (wC:LL) :
 cond_formOf_d1 lb n K yb w8 w5 w7 w4 w6 wY wW wX wB wC =
 bif (yb == 1) then
 (K (.val (.agg [.str [97,108,108], .int .i64 0, .int .i64 0, .int .i64 (-1), .int .i64 (-1), .bool false, .nilfn, .bool false, .bool true])) [bx 140 [(1,some [vI w8, .val (.list w5 w7),vI w4,vI w6,vI wY,vI wW,vI wX, .val (.list wB wC)])]])
 else
 (bif (yb == 2) then
 (K (.val (.agg [.str [97,110,100], .int .i64 1, .int .i64 128, .int .i64 (-1), .int .i64 (-1), .bool false, .nilfn, .bool false, .bool true])) [bx 140 [(1,some [vI w8, .val (.list w5 w7),vI w4,vI w6,vI wY,vI wW,vI wX, .val (.list wB wC)])]])
 else
 (bif (yb == 3) then
 (K (.val (.agg [.str [111,114], .int .i64 1, .int .i64 128, .int .i64 (-1), .int .i64 (-1), .bool false, .nilfn, .bool false, .bool true])) [bx 140 [(1,some [vI w8, .val (.list w5 w7),vI w4,vI w6,vI wY,vI wW,vI wX, .val (.list wB wC)])]])
 else
 (bif (yb == 4) then
 (K (.val (.agg [.str [110,111,116], .int .i64 1, .int .i64 1, .int .i64 (-1), .int .i64 (-1), .bool false, .nilfn, .bool false, .bool true])) [bx 140 [(1,some [vI w8, .val (.list w5 w7),vI w4,vI w6,vI wY,vI wW,vI wX, .val (.list wB wC)])]])
 else
 (bif (yb == 5) then
 (K (.val (.agg [.str [116,114,97,118,101,108], .int .i64 0, .int .i64 0, .int .i64 (-1), .int .i64 (-1), .bool true, .nilfn, .bool false, .bool true])) [bx 140 [(1,some [vI w8, .val (.list w5 w7),vI w4,vI w6,vI wY,vI wW,vI wX, .val (.list wB wC)])]])
 else
 (bif (yb == 6) then
 (K (.val (.agg [.str [115,97,108,101], .int .i64 0, .int .i64 0, .int .i64 (-1), .int .i64 (-1), .bool true, .nilfn, .bool false, .bool true])) [bx 140 [(1,some [vI w8, .val (.list w5 w7),vI w4,vI w6,vI wY,vI wW,vI wX, .val (.list wB wC)])]])
 else
 (bif (yb == 7) then
 (K (.val (.agg [.str [97,100,118,97,110,99,101], .int .i64 0, .int .i64 0, .int .i64 36524, .int .i64 (-1), .bool false, .nilfn, .bool false, .bool true])) [bx 140 [(1,some [vI w8, .val (.list w5 w7),vI w4,vI w6,vI wY,vI wW,vI wX, .val (.list wB wC)])]])
 else
 (bif (yb == 8) then
 (K (.val (.agg [.str [104,111,117,114], .int .i64 0, .int .i64 0, .int .i64 1439, .int .i64 1439, .bool false, .nilfn, .bool false, .bool true])) [bx 140 [(1,some [vI w8, .val (.list w5 w7),vI w4,vI w6,vI wY,vI wW,vI wX, .val (.list wB wC)])]])
 else
 (bif (yb == 9) then
 (K (.val (.agg [.str [115,116,111,112,115], .int .i64 0, .int .i64 0, .int .i64 6, .int .i64 (-1), .bool false, .nilfn, .bool false, .bool true])) [bx 140 [(1,some [vI w8, .val (.list w5 w7),vI w4,vI w6,vI wY,vI wW,vI wX, .val (.list wB wC)])]])
 else
 (bif (yb == 10) then
 (K (.val (.agg [.str [116,114,97,110,115,102,101,114,115], .int .i64 0, .int .i64 0, .int .i64 6, .int .i64 (-1), .bool false, .nilfn, .bool false, .bool true])) [bx 140 [(1,some [vI w8, .val (.list w5 w7),vI w4,vI w6,vI wY,vI wW,vI wX, .val (.list wB wC)])]])
 else
 (bif (yb == 11) then
 (K (.val (.agg [.str [99,97,114,114,105,101,114], .int .i64 0, .int .i64 0, .int .i64 (-1), .int .i64 (-1), .bool false, .fn QaZ, .bool false, .bool true])) [bx 140 [(1,some [vI w8, .val (.list w5 w7),vI w4,vI w6,vI wY,vI wW,vI wX, .val (.list wB wC)])]])
 else
 (bif (yb == 12) then
 (K (.val (.agg [.str [110,117,109,98,101,114], .int .i64 0, .int .i64 0, .int .i64 9999, .int .i64 9999, .bool false, .nilfn, .bool true, .bool true])) [bx 140 [(1,some [vI w8, .val (.list w5 w7),vI w4,vI w6,vI wY,vI wW,vI wX, .val (.list wB wC)])]])
 else
 (bif (yb == 13) then
 (K (.val (.agg [.str [118,105,97], .int .i64 0, .int .i64 0, .int .i64 (-1), .int .i64 (-1), .bool false, .fn QaY, .bool false, .bool true])) [bx 140 [(1,some [vI w8, .val (.list w5 w7),vI w4,vI w6,vI wY,vI wW,vI wX, .val (.list wB wC)])]])
 else
 (bif (yb == 14) then
 (K (.val (.agg [.str [116,121,112,101], .int .i64 0, .int .i64 0, .int .i64 (-1), .int .i64 (-1), .bool false, .fn QaP, .bool false, .bool true])) [bx 140 [(1,some [vI w8, .val (.list w5 w7),vI w4,vI w6,vI wY,vI wW,vI wX, .val (.list wB wC)])]])
 else
 (K (.val (.agg [.str [], .int .i64 0, .int .i64 0, .int .i64 (-1), .int .i64 (-1), .bool false, .nilfn, .bool false, .bool false])) [bx 140 [(1,some [vI w8, .val (.list w5 w7),vI w4,vI w6,vI wY,vI wW,vI wX, .val (.list wB wC)])]])))))))))))))) := by kernel_rfl
end Go.Proofs
