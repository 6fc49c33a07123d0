/- What the equations of functions speak of. Conditions: none; definitions, and one law. -/
import Derived.Test.YtgkcpfhahphaiaaDoorProg
import Derived.Test.YtgkcpfhahphaiaaDoorAm
import Derived.Test.YtgkcpfhahphaiaaDoorLib
import Derived.KernelRfl
namespace Go.Proofs
open Go.Am
set_option maxRecDepth 100000
/-- functions that hand back slices of their own -/
def owns : FuncId → Option TypeId := fun _ => none
noncomputable def KK : Cfg := ⟨fun _ => none, fun _ => none, owns⟩
noncomputable def C (lb : Bool) : Nat → FuncId → List CV → Option CV := callF Tryd.prog KK (L lb)
abbrev Inl := FuncId → List AV → List (List (Option (List AV))) → (AV → List (List (Option (List AV))) → Option CV) → Option CV
abbrev Ev := Code → (Ex → St → Option CV) → St → Option CV
noncomputable def B (f : FuncId) : Code := bodyOf Tryd.prog f
noncomputable def R (f : FuncId) : List ResultVar := resultsOf Tryd.prog f
noncomputable def I0 (lb : Bool) (n : Nat) : Inl := evF Tryd.prog KK (C lb n) n 0
noncomputable def I1 (lb : Bool) (n : Nat) : Inl := hooked KK (evFStep Tryd.prog KK (C lb n) n (I0 lb n))
noncomputable def I2 (lb : Bool) (n : Nat) : Inl := hooked KK (evFStep Tryd.prog KK (C lb n) n (I1 lb n))
noncomputable def I3 (lb : Bool) (n : Nat) : Inl := hooked KK (evFStep Tryd.prog KK (C lb n) n (I2 lb n))
noncomputable def I4 (lb : Bool) (n : Nat) : Inl := hooked KK (evFStep Tryd.prog KK (C lb n) n (I3 lb n))
noncomputable def I5 (lb : Bool) (n : Nat) : Inl := hooked KK (evFStep Tryd.prog KK (C lb n) n (I4 lb n))
noncomputable def I6 (lb : Bool) (n : Nat) : Inl := hooked KK (evFStep Tryd.prog KK (C lb n) n (I5 lb n))
noncomputable def I7 (lb : Bool) (n : Nat) : Inl := hooked KK (evFStep Tryd.prog KK (C lb n) n (I6 lb n))
noncomputable def I8 (lb : Bool) (n : Nat) : Inl := hooked KK (evFStep Tryd.prog KK (C lb n) n (I7 lb n))
noncomputable def I9 (lb : Bool) (n : Nat) : Inl := hooked KK (evFStep Tryd.prog KK (C lb n) n (I8 lb n))
noncomputable def E0 (lb : Bool) (n d j : Nat) : Ev := evN Tryd.prog (C lb n) (I9 lb n) n d j
noncomputable def E1 (lb : Bool) (n d j : Nat) : Ev := evN Tryd.prog (C lb n) (I8 lb n) n d j
noncomputable def E2 (lb : Bool) (n d j : Nat) : Ev := evN Tryd.prog (C lb n) (I7 lb n) n d j
noncomputable def E3 (lb : Bool) (n d j : Nat) : Ev := evN Tryd.prog (C lb n) (I6 lb n) n d j
noncomputable def E4 (lb : Bool) (n d j : Nat) : Ev := evN Tryd.prog (C lb n) (I5 lb n) n d j
noncomputable def E5 (lb : Bool) (n d j : Nat) : Ev := evN Tryd.prog (C lb n) (I4 lb n) n d j
noncomputable def E6 (lb : Bool) (n d j : Nat) : Ev := evN Tryd.prog (C lb n) (I3 lb n) n d j
noncomputable def E7 (lb : Bool) (n d j : Nat) : Ev := evN Tryd.prog (C lb n) (I2 lb n) n d j
noncomputable def E8 (lb : Bool) (n d j : Nat) : Ev := evN Tryd.prog (C lb n) (I1 lb n) n d j
noncomputable def E9 (lb : Bool) (n d j : Nat) : Ev := evN Tryd.prog (C lb n) (I0 lb n) n d j
noncomputable def top (lb : Bool) (n : Nat) (f : FuncId) (args : List CV) : Option CV := evTop Tryd.prog KK (C lb n) n (I9 lb n) f (args.map .val)
theorem C_top (lb : Bool) (n : Nat) (f : FuncId) (args : List CV) (h : L lb f = none) : C lb (n + 1) f args = top lb n f args := by
  show callF Tryd.prog KK (L lb) (n + 1) f args = _
  unfold callF
  rw [h]
  rfl
theorem C_lib (lb : Bool) (n : Nat) (f : FuncId) (args : List CV) {s : List CV → Option CV} (h : L lb f = some s) : C lb (n + 1) f args = s args := by
  show callF Tryd.prog KK (L lb) (n + 1) f args = _
  unfold callF
  rw [h]
end Go.Proofs
