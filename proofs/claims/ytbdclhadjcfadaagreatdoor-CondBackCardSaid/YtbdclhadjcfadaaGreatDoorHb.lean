/- Equations of functions, printed by program. Conditions: none. -/
import Derived.Test.YtbdclhadjcfadaaGreatDoorEv
namespace Go.Proofs
open Go.Am
set_option maxRecDepth 100000
set_option linter.unusedVariables false
noncomputable def cond_formOf_d1 :=
 fun lb n (K : AV → List (List (Option (List AV))) → Option CV) j3 jZ (j0 : Bool) (jU : LL) jS j1 jW jX jV (jL : Bool) (jM : LL) =>
 I9 lb n Qar [vI j3] [bx 140 [(1,some [vI jZ, .val (.list j0 jU),vI jS,vI j1,vI jW,vI jX,vI jV, .val (.list jL jM)])]] K
noncomputable def Qa3 (lb n : Nat) (jf : Int) (jg : Bool) (jh : LL) (ji jj jb jc ja : Int) (jd : Bool) (je : LL) : AV → List (List (Option (List AV))) → Option CV :=
 (inlK (opAt (QsK (sub (B Qb1) [1,0])) 2) ⟨fr 140 [(0, .val (.agg [.int .i64 jf, .list jg jh, .int .i64 ji, .int .i64 jj, .int .i64 jb, .int .i64 jc, .int .i64 ja, .list jd je])),(1, .ptr 0 1 0),(2,vI 0),(5, .ptr 0 1 0),(6,vI jf)],[bx 140 [(1,some [vI jf, .val (.list jg jh),vI ji,vI jj,vI jb,vI jc,vI ja, .val (.list jd je)])]],KK⟩ (opsK Tryz.prog (C lb n) (I9 lb n) 0 (QsK (sub (B Qb1) [1,0])) ((QsK (sub (B Qb1) [1,0])).drop 3) ((seqK (E0 lb n 0 998) (sub (B Qb1) [1,0]) (sub (B Qb1) [1,1]) (retK Tryz.prog (R Qb1) 0 (outK (Qak Tryz.prog Qb1)))) .normal)))
theorem Ql1 (lb n : Nat) (jf : Int) (jg : Bool) (jh : LL) (ji jj jb jc ja : Int) (jd : Bool) (je : LL) :
 Qa3 lb n jf jg jh ji jj jb jc ja jd je (.val (.agg [.str [97,108,108], .int .i64 0, .int .i64 0, .int .i64 (-1), .int .i64 (-1), .bool false, .nilfn, .bool false, .bool true])) [bx 140 [(1,some [vI jf, .val (.list jg jh),vI ji,vI jj,vI jb,vI jc,vI ja, .val (.list jd je)])]] =
 bif (ji != 0) then
 (some (.int .i64 3))
 else
 (bif (jj != 0) then
 (some (.int .i64 3))
 else
 (bif (!((jb == 0) && ((jc == 0) && ((ja == 0) && true)))) then
 (some (.int .i64 3))
 else
 (bif (decide ((je.length : Int) > 0)) then
 (some (.int .i64 3))
 else
 (bif (decide ((jh.length : Int) > 0)) then
 (some (.int .i64 3))
 else
 (bif (decide ((jh.length : Int) < 0)) then
 (some (.int .i64 2))
 else
 (bif (decide ((jh.length : Int) > 0)) then
 (some (.int .i64 2))
 else
 (some (.int .i64 0)))))))) := by kernel_rfl
theorem QlP (lb n : Nat) (jf : Int) (jg : Bool) (jh : LL) (ji jj jb jc ja : Int) (jd : Bool) (je : LL) :
 Qa3 lb n jf jg jh ji jj jb jc ja jd je (.val (.agg [.str [97,110,100], .int .i64 1, .int .i64 128, .int .i64 (-1), .int .i64 (-1), .bool false, .nilfn, .bool false, .bool true])) [bx 140 [(1,some [vI jf, .val (.list jg jh),vI ji,vI jj,vI jb,vI jc,vI ja, .val (.list jd je)])]] =
 bif (ji != 0) then
 (some (.int .i64 3))
 else
 (bif (jj != 0) then
 (some (.int .i64 3))
 else
 (bif (!((jb == 0) && ((jc == 0) && ((ja == 0) && true)))) then
 (some (.int .i64 3))
 else
 (bif (decide ((je.length : Int) > 0)) then
 (some (.int .i64 3))
 else
 (bif (decide ((jh.length : Int) < 1)) then
 (some (.int .i64 2))
 else
 (bif (decide ((jh.length : Int) > 128)) then
 (some (.int .i64 2))
 else
 (some (.int .i64 0))))))) := by kernel_rfl
theorem QlQ (lb n : Nat) (jf : Int) (jg : Bool) (jh : LL) (ji jj jb jc ja : Int) (jd : Bool) (je : LL) :
 Qa3 lb n jf jg jh ji jj jb jc ja jd je (.val (.agg [.str [111,114], .int .i64 1, .int .i64 128, .int .i64 (-1), .int .i64 (-1), .bool false, .nilfn, .bool false, .bool true])) [bx 140 [(1,some [vI jf, .val (.list jg jh),vI ji,vI jj,vI jb,vI jc,vI ja, .val (.list jd je)])]] =
 bif (ji != 0) then
 (some (.int .i64 3))
 else
 (bif (jj != 0) then
 (some (.int .i64 3))
 else
 (bif (!((jb == 0) && ((jc == 0) && ((ja == 0) && true)))) then
 (some (.int .i64 3))
 else
 (bif (decide ((je.length : Int) > 0)) then
 (some (.int .i64 3))
 else
 (bif (decide ((jh.length : Int) < 1)) then
 (some (.int .i64 2))
 else
 (bif (decide ((jh.length : Int) > 128)) then
 (some (.int .i64 2))
 else
 (some (.int .i64 0))))))) := by kernel_rfl
theorem QlU (lb n : Nat) (jf : Int) (jg : Bool) (jh : LL) (ji jj jb jc ja : Int) (jd : Bool) (je : LL) :
 Qa3 lb n jf jg jh ji jj jb jc ja jd je (.val (.agg [.str [110,111,116], .int .i64 1, .int .i64 1, .int .i64 (-1), .int .i64 (-1), .bool false, .nilfn, .bool false, .bool true])) [bx 140 [(1,some [vI jf, .val (.list jg jh),vI ji,vI jj,vI jb,vI jc,vI ja, .val (.list jd je)])]] =
 bif (ji != 0) then
 (some (.int .i64 3))
 else
 (bif (jj != 0) then
 (some (.int .i64 3))
 else
 (bif (!((jb == 0) && ((jc == 0) && ((ja == 0) && true)))) then
 (some (.int .i64 3))
 else
 (bif (decide ((je.length : Int) > 0)) then
 (some (.int .i64 3))
 else
 (bif (decide ((jh.length : Int) < 1)) then
 (some (.int .i64 2))
 else
 (bif (decide ((jh.length : Int) > 1)) then
 (some (.int .i64 2))
 else
 (some (.int .i64 0))))))) := by kernel_rfl
theorem Ql0 (lb n : Nat) (jf : Int) (jg : Bool) (jh : LL) (ji jj jb jc ja : Int) (jd : Bool) (je : LL) :
 Qa3 lb n jf jg jh ji jj jb jc ja jd je (.val (.agg [.str [116,114,97,118,101,108], .int .i64 0, .int .i64 0, .int .i64 (-1), .int .i64 (-1), .bool true, .nilfn, .bool false, .bool true])) [bx 140 [(1,some [vI jf, .val (.list jg jh),vI ji,vI jj,vI jb,vI jc,vI ja, .val (.list jd je)])]] =
 bif (ji != 0) then
 (some (.int .i64 3))
 else
 (bif (jj != 0) then
 (some (.int .i64 3))
 else
 (bif (decide ((je.length : Int) > 0)) then
 (some (.int .i64 3))
 else
 (bif (decide ((jh.length : Int) > 0)) then
 (some (.int .i64 3))
 else
 (bif (decide ((jh.length : Int) < 0)) then
 (some (.int .i64 2))
 else
 (bif (decide ((jh.length : Int) > 0)) then
 (some (.int .i64 2))
 else
 (optO (C lb n QbT [.agg [.int .i64 jb, .int .i64 jc, .int .i64 ja]]) fun kx =>
 some (kx))))))) := by kernel_rfl
theorem QlK (lb n : Nat) (jf : Int) (jg : Bool) (jh : LL) (ji jj jb jc ja : Int) (jd : Bool) (je : LL) :
 Qa3 lb n jf jg jh ji jj jb jc ja jd je (.val (.agg [.str [115,97,108,101], .int .i64 0, .int .i64 0, .int .i64 (-1), .int .i64 (-1), .bool true, .nilfn, .bool false, .bool true])) [bx 140 [(1,some [vI jf, .val (.list jg jh),vI ji,vI jj,vI jb,vI jc,vI ja, .val (.list jd je)])]] =
 bif (ji != 0) then
 (some (.int .i64 3))
 else
 (bif (jj != 0) then
 (some (.int .i64 3))
 else
 (bif (decide ((je.length : Int) > 0)) then
 (some (.int .i64 3))
 else
 (bif (decide ((jh.length : Int) > 0)) then
 (some (.int .i64 3))
 else
 (bif (decide ((jh.length : Int) < 0)) then
 (some (.int .i64 2))
 else
 (bif (decide ((jh.length : Int) > 0)) then
 (some (.int .i64 2))
 else
 (optO (C lb n QbT [.agg [.int .i64 jb, .int .i64 jc, .int .i64 ja]]) fun wA =>
 some (wA))))))) := by kernel_rfl
theorem QlZ (lb n : Nat) (jf : Int) (jg : Bool) (jh : LL) (ji jj jb jc ja : Int) (jd : Bool) (je : LL) :
 Qa3 lb n jf jg jh ji jj jb jc ja jd je (.val (.agg [.str [97,100,118,97,110,99,101], .int .i64 0, .int .i64 0, .int .i64 36524, .int .i64 (-1), .bool false, .nilfn, .bool false, .bool true])) [bx 140 [(1,some [vI jf, .val (.list jg jh),vI ji,vI jj,vI jb,vI jc,vI ja, .val (.list jd je)])]] =
 bif (jj != 0) then
 (some (.int .i64 3))
 else
 (bif (!((jb == 0) && ((jc == 0) && ((ja == 0) && true)))) then
 (some (.int .i64 3))
 else
 (bif (decide ((je.length : Int) > 0)) then
 (some (.int .i64 3))
 else
 (bif (decide ((jh.length : Int) > 0)) then
 (some (.int .i64 3))
 else
 (bif (decide ((jh.length : Int) < 0)) then
 (some (.int .i64 2))
 else
 (bif (decide ((jh.length : Int) > 0)) then
 (some (.int .i64 2))
 else
 (bif (decide (ji < 0)) then
 (some (.int .i64 2))
 else
 (bif (decide (ji > 36524)) then
 (some (.int .i64 2))
 else
 (some (.int .i64 0))))))))) := by kernel_rfl
theorem QlM (lb n : Nat) (jf : Int) (jg : Bool) (jh : LL) (ji jj jb jc ja : Int) (jd : Bool) (je : LL) :
 Qa3 lb n jf jg jh ji jj jb jc ja jd je (.val (.agg [.str [104,111,117,114], .int .i64 0, .int .i64 0, .int .i64 1439, .int .i64 1439, .bool false, .nilfn, .bool false, .bool true])) [bx 140 [(1,some [vI jf, .val (.list jg jh),vI ji,vI jj,vI jb,vI jc,vI ja, .val (.list jd je)])]] =
 bif (!((jb == 0) && ((jc == 0) && ((ja == 0) && true)))) then
 (some (.int .i64 3))
 else
 (bif (decide ((je.length : Int) > 0)) then
 (some (.int .i64 3))
 else
 (bif (decide ((jh.length : Int) > 0)) then
 (some (.int .i64 3))
 else
 (bif (decide ((jh.length : Int) < 0)) then
 (some (.int .i64 2))
 else
 (bif (decide ((jh.length : Int) > 0)) then
 (some (.int .i64 2))
 else
 (bif (decide (ji < 0)) then
 (some (.int .i64 2))
 else
 (bif (decide (ji > 1439)) then
 (some (.int .i64 2))
 else
 (bif (decide (jj < 0)) then
 (some (.int .i64 2))
 else
 (bif (decide (jj > 1439)) then
 (some (.int .i64 2))
 else
 (some (.int .i64 0)))))))))) := by kernel_rfl
theorem QlS (lb n : Nat) (jf : Int) (jg : Bool) (jh : LL) (ji jj jb jc ja : Int) (jd : Bool) (je : LL) :
 Qa3 lb n jf jg jh ji jj jb jc ja jd je (.val (.agg [.str [115,116,111,112,115], .int .i64 0, .int .i64 0, .int .i64 6, .int .i64 (-1), .bool false, .nilfn, .bool false, .bool true])) [bx 140 [(1,some [vI jf, .val (.list jg jh),vI ji,vI jj,vI jb,vI jc,vI ja, .val (.list jd je)])]] =
 bif (jj != 0) then
 (some (.int .i64 3))
 else
 (bif (!((jb == 0) && ((jc == 0) && ((ja == 0) && true)))) then
 (some (.int .i64 3))
 else
 (bif (decide ((je.length : Int) > 0)) then
 (some (.int .i64 3))
 else
 (bif (decide ((jh.length : Int) > 0)) then
 (some (.int .i64 3))
 else
 (bif (decide ((jh.length : Int) < 0)) then
 (some (.int .i64 2))
 else
 (bif (decide ((jh.length : Int) > 0)) then
 (some (.int .i64 2))
 else
 (bif (decide (ji < 0)) then
 (some (.int .i64 2))
 else
 (bif (decide (ji > 6)) then
 (some (.int .i64 2))
 else
 (some (.int .i64 0))))))))) := by kernel_rfl
theorem QlJ (lb n : Nat) (jf : Int) (jg : Bool) (jh : LL) (ji jj jb jc ja : Int) (jd : Bool) (je : LL) :
 Qa3 lb n jf jg jh ji jj jb jc ja jd je (.val (.agg [.str [116,114,97,110,115,102,101,114,115], .int .i64 0, .int .i64 0, .int .i64 6, .int .i64 (-1), .bool false, .nilfn, .bool false, .bool true])) [bx 140 [(1,some [vI jf, .val (.list jg jh),vI ji,vI jj,vI jb,vI jc,vI ja, .val (.list jd je)])]] =
 bif (jj != 0) then
 (some (.int .i64 3))
 else
 (bif (!((jb == 0) && ((jc == 0) && ((ja == 0) && true)))) then
 (some (.int .i64 3))
 else
 (bif (decide ((je.length : Int) > 0)) then
 (some (.int .i64 3))
 else
 (bif (decide ((jh.length : Int) > 0)) then
 (some (.int .i64 3))
 else
 (bif (decide ((jh.length : Int) < 0)) then
 (some (.int .i64 2))
 else
 (bif (decide ((jh.length : Int) > 0)) then
 (some (.int .i64 2))
 else
 (bif (decide (ji < 0)) then
 (some (.int .i64 2))
 else
 (bif (decide (ji > 6)) then
 (some (.int .i64 2))
 else
 (some (.int .i64 0))))))))) := by kernel_rfl
theorem QkV (lb n : Nat) (jf : Int) (jg : Bool) (jh : LL) (ji jj jb jc ja : Int) (jd : Bool) (je : LL) :
 Qa3 lb n jf jg jh ji jj jb jc ja jd je (.val (.agg [.str [99,97,114,114,105,101,114], .int .i64 0, .int .i64 0, .int .i64 (-1), .int .i64 (-1), .bool false, .fn QaT, .bool false, .bool true])) [bx 140 [(1,some [vI jf, .val (.list jg jh),vI ji,vI jj,vI jb,vI jc,vI ja, .val (.list jd je)])]] =
 bif (ji != 0) then
 (some (.int .i64 3))
 else
 (bif (jj != 0) then
 (some (.int .i64 3))
 else
 (bif (!((jb == 0) && ((jc == 0) && ((ja == 0) && true)))) then
 (some (.int .i64 3))
 else
 (bif (decide ((jh.length : Int) > 0)) then
 (some (.int .i64 3))
 else
 (bif (decide ((jh.length : Int) < 0)) then
 (some (.int .i64 2))
 else
 (bif (decide ((jh.length : Int) > 0)) then
 (some (.int .i64 2))
 else
 (optO (C lb n Qam [.list jd je, .fn QaT]) fun we =>
 some (we))))))) := by kernel_rfl
theorem Qlc (lb n : Nat) (jf : Int) (jg : Bool) (jh : LL) (ji jj jb jc ja : Int) (jd : Bool) (je : LL) :
 Qa3 lb n jf jg jh ji jj jb jc ja jd je (.val (.agg [.str [110,117,109,98,101,114], .int .i64 0, .int .i64 0, .int .i64 9999, .int .i64 9999, .bool false, .nilfn, .bool true, .bool true])) [bx 140 [(1,some [vI jf, .val (.list jg jh),vI ji,vI jj,vI jb,vI jc,vI ja, .val (.list jd je)])]] =
 bif (!((jb == 0) && ((jc == 0) && ((ja == 0) && true)))) then
 (some (.int .i64 3))
 else
 (bif (decide ((je.length : Int) > 0)) then
 (some (.int .i64 3))
 else
 (bif (decide ((jh.length : Int) > 0)) then
 (some (.int .i64 3))
 else
 (bif (decide ((jh.length : Int) < 0)) then
 (some (.int .i64 2))
 else
 (bif (decide ((jh.length : Int) > 0)) then
 (some (.int .i64 2))
 else
 (bif (decide (ji < 0)) then
 (some (.int .i64 2))
 else
 (bif (decide (ji > 9999)) then
 (some (.int .i64 2))
 else
 (bif (decide (jj < 0)) then
 (some (.int .i64 2))
 else
 (bif (decide (jj > 9999)) then
 (some (.int .i64 2))
 else
 (bif (decide (ji < 1)) then
 (some (.int .i64 2))
 else
 (bif (decide (ji > jj)) then
 (some (.int .i64 2))
 else
 (some (.int .i64 0)))))))))))) := by kernel_rfl
theorem Qla (lb n : Nat) (jf : Int) (jg : Bool) (jh : LL) (ji jj jb jc ja : Int) (jd : Bool) (je : LL) :
 Qa3 lb n jf jg jh ji jj jb jc ja jd je (.val (.agg [.str [118,105,97], .int .i64 0, .int .i64 0, .int .i64 (-1), .int .i64 (-1), .bool false, .fn QaS, .bool false, .bool true])) [bx 140 [(1,some [vI jf, .val (.list jg jh),vI ji,vI jj,vI jb,vI jc,vI ja, .val (.list jd je)])]] =
 bif (ji != 0) then
 (some (.int .i64 3))
 else
 (bif (jj != 0) then
 (some (.int .i64 3))
 else
 (bif (!((jb == 0) && ((jc == 0) && ((ja == 0) && true)))) then
 (some (.int .i64 3))
 else
 (bif (decide ((jh.length : Int) > 0)) then
 (some (.int .i64 3))
 else
 (bif (decide ((jh.length : Int) < 0)) then
 (some (.int .i64 2))
 else
 (bif (decide ((jh.length : Int) > 0)) then
 (some (.int .i64 2))
 else
 (optO (C lb n Qam [.list jd je, .fn QaS]) fun yb =>
 some (yb))))))) := by kernel_rfl
theorem Qll (lb n : Nat) (jf : Int) (jg : Bool) (jh : LL) (ji jj jb jc ja : Int) (jd : Bool) (je : LL) :
 Qa3 lb n jf jg jh ji jj jb jc ja jd je (.val (.agg [.str [116,121,112,101], .int .i64 0, .int .i64 0, .int .i64 (-1), .int .i64 (-1), .bool false, .fn QaJ, .bool false, .bool true])) [bx 140 [(1,some [vI jf, .val (.list jg jh),vI ji,vI jj,vI jb,vI jc,vI ja, .val (.list jd je)])]] =
 bif (ji != 0) then
 (some (.int .i64 3))
 else
 (bif (jj != 0) then
 (some (.int .i64 3))
 else
 (bif (!((jb == 0) && ((jc == 0) && ((ja == 0) && true)))) then
 (some (.int .i64 3))
 else
 (bif (decide ((jh.length : Int) > 0)) then
 (some (.int .i64 3))
 else
 (bif (decide ((jh.length : Int) < 0)) then
 (some (.int .i64 2))
 else
 (bif (decide ((jh.length : Int) > 0)) then
 (some (.int .i64 2))
 else
 (optO (C lb n Qam [.list jd je, .fn QaJ]) fun jF =>
 some (jF))))))) := by kernel_rfl
theorem QkT (lb n : Nat) (jf : Int) (jg : Bool) (jh : LL) (ji jj jb jc ja : Int) (jd : Bool) (je : LL) :
 Qa3 lb n jf jg jh ji jj jb jc ja jd je (.val (.agg [.str [], .int .i64 0, .int .i64 0, .int .i64 (-1), .int .i64 (-1), .bool false, .nilfn, .bool false, .bool false])) [bx 140 [(1,some [vI jf, .val (.list jg jh),vI ji,vI jj,vI jb,vI jc,vI ja, .val (.list jd je)])]] =
 some (.int .i64 8) := by kernel_rfl
theorem Qp7 (lb n : Nat) (jf : Int) (jg : Bool) (jh : LL) (ji jj jb jc ja : Int) (jd : Bool) (je : LL) :
 top lb n Qb1 [.agg [.int .i64 jf, .list jg jh, .int .i64 ji, .int .i64 jj, .int .i64 jb, .int .i64 jc, .int .i64 ja, .list jd je]] =
 cond_formOf_d1 lb n (Qa3 lb n jf jg jh ji jj jb jc ja jd je) jf jf jg jh ji jj jb jc ja jd je := by kernel_rfl
theorem QlO (lb n : Nat) (K : AV → List (List (Option (List AV))) → Option CV) (j3 jZ : Int) (j0 : Bool) (jU : LL) (jS j1 jW jX jV : Int) (jL : Bool) (jM : LL) :
 cond_formOf_d1 lb n K j3 jZ j0 jU jS j1 jW jX jV jL jM =
 bif (j3 == 1) then
 (K (.val (.agg [.str [97,108,108], .int .i64 0, .int .i64 0, .int .i64 (-1), .int .i64 (-1), .bool false, .nilfn, .bool false, .bool true])) [bx 140 [(1,some [vI jZ, .val (.list j0 jU),vI jS,vI j1,vI jW,vI jX,vI jV, .val (.list jL jM)])]])
 else
 (bif (j3 == 2) then
 (K (.val (.agg [.str [97,110,100], .int .i64 1, .int .i64 128, .int .i64 (-1), .int .i64 (-1), .bool false, .nilfn, .bool false, .bool true])) [bx 140 [(1,some [vI jZ, .val (.list j0 jU),vI jS,vI j1,vI jW,vI jX,vI jV, .val (.list jL jM)])]])
 else
 (bif (j3 == 3) then
 (K (.val (.agg [.str [111,114], .int .i64 1, .int .i64 128, .int .i64 (-1), .int .i64 (-1), .bool false, .nilfn, .bool false, .bool true])) [bx 140 [(1,some [vI jZ, .val (.list j0 jU),vI jS,vI j1,vI jW,vI jX,vI jV, .val (.list jL jM)])]])
 else
 (bif (j3 == 4) then
 (K (.val (.agg [.str [110,111,116], .int .i64 1, .int .i64 1, .int .i64 (-1), .int .i64 (-1), .bool false, .nilfn, .bool false, .bool true])) [bx 140 [(1,some [vI jZ, .val (.list j0 jU),vI jS,vI j1,vI jW,vI jX,vI jV, .val (.list jL jM)])]])
 else
 (bif (j3 == 5) then
 (K (.val (.agg [.str [116,114,97,118,101,108], .int .i64 0, .int .i64 0, .int .i64 (-1), .int .i64 (-1), .bool true, .nilfn, .bool false, .bool true])) [bx 140 [(1,some [vI jZ, .val (.list j0 jU),vI jS,vI j1,vI jW,vI jX,vI jV, .val (.list jL jM)])]])
 else
 (bif (j3 == 6) then
 (K (.val (.agg [.str [115,97,108,101], .int .i64 0, .int .i64 0, .int .i64 (-1), .int .i64 (-1), .bool true, .nilfn, .bool false, .bool true])) [bx 140 [(1,some [vI jZ, .val (.list j0 jU),vI jS,vI j1,vI jW,vI jX,vI jV, .val (.list jL jM)])]])
 else
 (bif (j3 == 7) then
 (K (.val (.agg [.str [97,100,118,97,110,99,101], .int .i64 0, .int .i64 0, .int .i64 36524, .int .i64 (-1), .bool false, .nilfn, .bool false, .bool true])) [bx 140 [(1,some [vI jZ, .val (.list j0 jU),vI jS,vI j1,vI jW,vI jX,vI jV, .val (.list jL jM)])]])
 else
 (bif (j3 == 8) then
 (K (.val (.agg [.str [104,111,117,114], .int .i64 0, .int .i64 0, .int .i64 1439, .int .i64 1439, .bool false, .nilfn, .bool false, .bool true])) [bx 140 [(1,some [vI jZ, .val (.list j0 jU),vI jS,vI j1,vI jW,vI jX,vI jV, .val (.list jL jM)])]])
 else
 (bif (j3 == 9) then
 (K (.val (.agg [.str [115,116,111,112,115], .int .i64 0, .int .i64 0, .int .i64 6, .int .i64 (-1), .bool false, .nilfn, .bool false, .bool true])) [bx 140 [(1,some [vI jZ, .val (.list j0 jU),vI jS,vI j1,vI jW,vI jX,vI jV, .val (.list jL jM)])]])
 else
 (bif (j3 == 10) then
 (K (.val (.agg [.str [116,114,97,110,115,102,101,114,115], .int .i64 0, .int .i64 0, .int .i64 6, .int .i64 (-1), .bool false, .nilfn, .bool false, .bool true])) [bx 140 [(1,some [vI jZ, .val (.list j0 jU),vI jS,vI j1,vI jW,vI jX,vI jV, .val (.list jL jM)])]])
 else
 (bif (j3 == 11) then
 (K (.val (.agg [.str [99,97,114,114,105,101,114], .int .i64 0, .int .i64 0, .int .i64 (-1), .int .i64 (-1), .bool false, .fn QaT, .bool false, .bool true])) [bx 140 [(1,some [vI jZ, .val (.list j0 jU),vI jS,vI j1,vI jW,vI jX,vI jV, .val (.list jL jM)])]])
 else
 (bif (j3 == 12) then
 (K (.val (.agg [.str [110,117,109,98,101,114], .int .i64 0, .int .i64 0, .int .i64 9999, .int .i64 9999, .bool false, .nilfn, .bool true, .bool true])) [bx 140 [(1,some [vI jZ, .val (.list j0 jU),vI jS,vI j1,vI jW,vI jX,vI jV, .val (.list jL jM)])]])
 else
 (bif (j3 == 13) then
 (K (.val (.agg [.str [118,105,97], .int .i64 0, .int .i64 0, .int .i64 (-1), .int .i64 (-1), .bool false, .fn QaS, .bool false, .bool true])) [bx 140 [(1,some [vI jZ, .val (.list j0 jU),vI jS,vI j1,vI jW,vI jX,vI jV, .val (.list jL jM)])]])
 else
 (bif (j3 == 14) then
 (K (.val (.agg [.str [116,121,112,101], .int .i64 0, .int .i64 0, .int .i64 (-1), .int .i64 (-1), .bool false, .fn QaJ, .bool false, .bool true])) [bx 140 [(1,some [vI jZ, .val (.list j0 jU),vI jS,vI j1,vI jW,vI jX,vI jV, .val (.list jL jM)])]])
 else
 (K (.val (.agg [.str [], .int .i64 0, .int .i64 0, .int .i64 (-1), .int .i64 (-1), .bool false, .nilfn, .bool false, .bool false])) [bx 140 [(1,some [vI jZ, .val (.list j0 jU),vI jS,vI j1,vI jW,vI jX,vI jV, .val (.list jL jM)])]])))))))))))))) := by kernel_rfl
end Go.Proofs
