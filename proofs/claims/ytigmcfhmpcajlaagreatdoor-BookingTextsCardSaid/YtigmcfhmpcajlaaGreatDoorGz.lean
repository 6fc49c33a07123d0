/- Equations of functions, printed by program. Conditions: none. -/
import Derived.Test.YtigmcfhmpcajlaaGreatDoorEv
namespace Go.Proofs
open Go.Am
set_option maxRecDepth 100000
set_option linter.unusedVariables false
noncomputable def slices_Index_string_L1 :=
 fun lb n (kV : Nat) (jk : Bool) (a2 : LL) b3 i7 =>
 hold (Qaw (E0 lb n 0 995) 0 (Qah (sub (B Qax) [1,0,1,0,0]) ++ [5]) [] (sub (B Qax) [1,0,1,0,0]) (Qap 0 (seqK (E0 lb n 0 998) (sub (B Qax) [1,0]) (sub (B Qax) [1,1]) (retK Tryz.prog (R Qax) 0 (outK (Qad Tryz.prog Qax))))) kV ⟨fr 19 [(0, .val (.list jk a2)),(1,vS b3),(4,vI 0),(6, .val (.list jk a2)),(7, .val (.int .i64 (a2.length : Int))),(8,vI i7)],[bx 19 []],KK⟩)
noncomputable def Qf2 (lb n : Nat) (jk : Bool) (a2 : LL) (b3 : LB) : Option CV :=
 hold (E0 lb n 0 998 (sub (B Qax) [1,1]) (retK Tryz.prog (R Qax) 0 (outK (Qad Tryz.prog Qax))) ⟨fr 19 [(0, .val (.list jk a2)),(1,vS b3),(4,vI 0)],[bx 19 []],KK⟩)
theorem Qjc (lb n : Nat) (jk : Bool) (a2 : LL) (b3 : LB) :
 Qf2 lb n jk a2 b3 =
 some (.int .i64 (-1)) := (Qab _).trans (by kernel_rfl)
theorem Qes (lb n kV : Nat) (jk : Bool) (a2 : LL) (b3 : LB) (i7 : Int) :
 slices_Index_string_L1 lb n (kV + 1) jk a2 b3 i7 =
 bif (decide (i7 < (a2.length : Int))) then
 (optO (atL a2 i7) fun kv =>
 chkO (kv.length == 1) (
 optO (kv[0]?) fun vG =>
 optO (CV.asS vG) fun tV =>
 bif (b3 == tV) then
 (some (.int .i64 i7))
 else
 (slices_Index_string_L1 lb n kV jk a2 b3 (IntKind.wrap .i64 (i7 + 1)))))
 else
 (Qf2 lb n jk a2 b3 ) := (Qab _).trans (by kernel_rfl)
theorem Qky (lb n : Nat) (jk : Bool) (a2 : LL) (b3 : LB) :
 top lb n Qax [.list jk a2, .str b3] =
 slices_Index_string_L1 lb n n jk a2 b3 0 := by kernel_rfl
end Go.Proofs
