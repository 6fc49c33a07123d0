/- What the equations of functions speak of. Conditions: none; definitions, and one law. -/
import Derived.Test.YtmefepdgnkhagaaGreatDoorProg
import Derived.Test.YtmefepdgnkhagaaGreatDoorAm
import Derived.Test.YtmefepdgnkhagaaGreatDoorLib
import Derived.KernelRfl
namespace Go.Proofs
open Go.Am
set_option maxRecDepth 100000
/-- functions that hand back slices of their own -/
def owns : FuncId → Option TypeId := fun _ => none
/-- functions that are always evaluated in place -/
def inls : FuncId → Bool := fun f => f == F_cond_formOf
/-- what package-level variables hold -/
def wordTab : List (List UInt8) := [[114, 117, 108, 101], [119, 104, 101, 110], [99, 111, 109, 98, 105, 110, 101], [115, 116, 97, 121], [102, 101, 101, 115], [112, 101, 114, 99, 101, 110, 116]]
def gls : Nat → Option (List CV) := fun g => if g = 0 then some (wordTab.map CV.str) else none
/-- functions of builders, in place -/
def hooks : FuncId → Option (List AV → List (List (Option (List AV))) → Option (List (List CV) × (List UInt8 → AV × List (List (Option (List AV)))))) := fun f =>
  bif f == F_strings_Builder_copyCheck then some (hkCheck 111) else
  bif f == F_strings_Builder_String then some (hkString 5) else
  none
noncomputable def KK : Cfg := ⟨gls, hooks, owns, inls⟩
/-- what a function answers in the end, over a library -/
noncomputable def evR (lib : FuncId → Option (List CV → Option CV)) (f : FuncId) (args : List CV) : Option CV :=
  open Classical in if h : ∃ r, ∃ N, ∀ n, N ≤ n → callF Tryz.prog KK lib n f args = some r then some h.choose else none
theorem evR_of {lib : FuncId → Option (List CV → Option CV)} {f : FuncId} {args : List CV} {r : CV} (h : ∃ N, ∀ n, N ≤ n → callF Tryz.prog KK lib n f args = some r) : evR lib f args = some r := by
  have hx : ∃ r, ∃ N, ∀ n, N ≤ n → callF Tryz.prog KK lib n f args = some r := ⟨r, h⟩
  unfold evR
  rw [dif_pos hx]
  obtain ⟨N, hN⟩ := h
  obtain ⟨M, hM⟩ := hx.choose_spec
  exact congrArg some (Option.some.inj ((hM (N + M) (by omega)).symm.trans (hN (N + M) (by omega))))
/-- texts of conditions that laws read as examples: kind, A, B -/
def readTab (s : List UInt8) : Option (Int × Int × Int) :=
  if s = [104, 111, 117, 114, 32, 50, 50, 58, 48, 48, 32, 48, 53, 58, 53, 57] then some (8, 1320, 359) else
  if s = [97, 108, 108] then some (1, 0, 0) else none
def readC (x : Int × Int × Int) : CV := .agg [.int .i64 x.1, .list true [], .int .i64 x.2.1, .int .i64 x.2.2, .int .i64 0, .int .i64 0, .int .i64 0, .list true []]
def lib_CondRead : List CV → Option CV
  | [.str s] => (readTab s).map fun x => .tup [readC x, .bool true]
  | _ => none
/-- the library, and what walks say of functions of the program (2 ≤ lb) -/
noncomputable def L (lb : Nat) : FuncId → Option (List CV → Option CV) := fun f =>
  if f = F_cond_read then (match lb with | 0 => none | 1 => none | _ + 2 => some lib_CondRead) else
  L1 lb f
noncomputable def C (lb : Nat) : Nat → FuncId → List CV → Option CV := callF Tryz.prog KK (L lb)
abbrev Inl := FuncId → List AV → List (List (Option (List AV))) → (AV → List (List (Option (List AV))) → Option CV) → Option CV
abbrev Ev := Code → (Ex → St → Option CV) → St → Option CV
noncomputable def B (f : FuncId) : Code := bodyOf Tryz.prog f
noncomputable def R (f : FuncId) : List ResultVar := resultsOf Tryz.prog f
noncomputable def I0 (lb : Nat) (n : Nat) : Inl := evF Tryz.prog KK (C lb n) n 0
noncomputable def I1 (lb : Nat) (n : Nat) : Inl := hooked KK (evFStep Tryz.prog KK (C lb n) n (I0 lb n))
noncomputable def I2 (lb : Nat) (n : Nat) : Inl := hooked KK (evFStep Tryz.prog KK (C lb n) n (I1 lb n))
noncomputable def I3 (lb : Nat) (n : Nat) : Inl := hooked KK (evFStep Tryz.prog KK (C lb n) n (I2 lb n))
noncomputable def I4 (lb : Nat) (n : Nat) : Inl := hooked KK (evFStep Tryz.prog KK (C lb n) n (I3 lb n))
noncomputable def I5 (lb : Nat) (n : Nat) : Inl := hooked KK (evFStep Tryz.prog KK (C lb n) n (I4 lb n))
noncomputable def I6 (lb : Nat) (n : Nat) : Inl := hooked KK (evFStep Tryz.prog KK (C lb n) n (I5 lb n))
noncomputable def I7 (lb : Nat) (n : Nat) : Inl := hooked KK (evFStep Tryz.prog KK (C lb n) n (I6 lb n))
noncomputable def I8 (lb : Nat) (n : Nat) : Inl := hooked KK (evFStep Tryz.prog KK (C lb n) n (I7 lb n))
noncomputable def I9 (lb : Nat) (n : Nat) : Inl := hooked KK (evFStep Tryz.prog KK (C lb n) n (I8 lb n))
noncomputable def E0 (lb : Nat) (n d j : Nat) : Ev := evN Tryz.prog (C lb n) (I9 lb n) n d j
noncomputable def E1 (lb : Nat) (n d j : Nat) : Ev := evN Tryz.prog (C lb n) (I8 lb n) n d j
noncomputable def E2 (lb : Nat) (n d j : Nat) : Ev := evN Tryz.prog (C lb n) (I7 lb n) n d j
noncomputable def E3 (lb : Nat) (n d j : Nat) : Ev := evN Tryz.prog (C lb n) (I6 lb n) n d j
noncomputable def E4 (lb : Nat) (n d j : Nat) : Ev := evN Tryz.prog (C lb n) (I5 lb n) n d j
noncomputable def E5 (lb : Nat) (n d j : Nat) : Ev := evN Tryz.prog (C lb n) (I4 lb n) n d j
noncomputable def E6 (lb : Nat) (n d j : Nat) : Ev := evN Tryz.prog (C lb n) (I3 lb n) n d j
noncomputable def E7 (lb : Nat) (n d j : Nat) : Ev := evN Tryz.prog (C lb n) (I2 lb n) n d j
noncomputable def E8 (lb : Nat) (n d j : Nat) : Ev := evN Tryz.prog (C lb n) (I1 lb n) n d j
noncomputable def E9 (lb : Nat) (n d j : Nat) : Ev := evN Tryz.prog (C lb n) (I0 lb n) n d j
noncomputable def top (lb : Nat) (n : Nat) (f : FuncId) (args : List CV) : Option CV := evTop Tryz.prog KK (C lb n) n (I9 lb n) f (args.map .val)
theorem C_top (lb : Nat) (n : Nat) (f : FuncId) (args : List CV) (h : L lb f = none) : C lb (n + 1) f args = top lb n f args := by
  show callF Tryz.prog KK (L lb) (n + 1) f args = _
  unfold callF
  rw [h]
  rfl
theorem C_lib (lb : Nat) (n : Nat) (f : FuncId) (args : List CV) {s : List CV → Option CV} (h : L lb f = some s) : C lb (n + 1) f args = s args := by
  show callF Tryz.prog KK (L lb) (n + 1) f args = _
  unfold callF
  rw [h]
end Go.Proofs
