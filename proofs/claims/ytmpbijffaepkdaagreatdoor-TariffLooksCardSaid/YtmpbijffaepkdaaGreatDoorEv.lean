/- What the equations of functions speak of. Conditions: none; definitions, and one law. -/
import Derived.Test.YtmpbijffaepkdaaGreatDoorProg
import Derived.Test.YtmpbijffaepkdaaGreatDoorAm
import Derived.Test.YtmpbijffaepkdaaGreatDoorLib
import Derived.KernelRfl
namespace Go.Proofs
open Go.Am
abbrev LL := List (List CV)
abbrev LB := List UInt8
abbrev vV (x : CV) : AV := .val x
abbrev vI (x : Int) : AV := .val (.int .i64 x)
abbrev vS (x : List UInt8) : AV := .val (.str x)
abbrev vB (x : Bool) : AV := .val (.bool x)
set_option maxRecDepth 100000
set_option linter.unusedVariables false
def owns : FuncId → Option TypeId := fun _ => none
def QmY : FuncId → Bool := fun f => false
def inls : FuncId → Bool := fun f => QmY f
def wordTab : List (List UInt8) := [[114, 117, 108, 101], [119, 104, 101, 110], [99, 111, 109, 98, 105, 110, 101], [115, 116, 97, 121], [102, 101, 101, 115], [112, 101, 114, 99, 101, 110, 116]]
def gls : Nat → Option (List CV) := fun g => if g = 0 then some (wordTab.map CV.str) else none
def Qlm : FuncId → Option (List AV → List (List (Option (List AV))) → Option (List (List CV) × (List UInt8 → AV × List (List (Option (List AV)))))) := fun f =>
 none
def Qlh : FuncId → Option (List (List CV) → Option (List (List CV))) := fun f =>
 none
def rowTab : List (TypeId × Nat × Nat) := [(3, 39, 5)]
def rowF : TypeId → Nat → Nat → Bool := fun e s n => rowTab.any fun q => q.1 == e && q.2.1 == s && q.2.2 == n
noncomputable def KK : Cfg := ⟨gls, Qlm, owns, inls, Qlh, QmY, rowF, none⟩
abbrev Inl := FuncId → List AV → List (List (Option (List AV))) → (AV → List (List (Option (List AV))) → Option CV) → Option CV
abbrev Ev := Code → (Ex → St → Option CV) → St → Option CV
noncomputable def B (f : FuncId) : Code := QnM Tryz.prog f
noncomputable def R (f : FuncId) : List ResultVar := QlU Tryz.prog f
noncomputable def L (lb : Nat) : FuncId → Option (List CV → Option CV) := fun f =>
 L1 lb f
noncomputable def C (lb : Nat) : Nat → FuncId → List CV → Option CV := QbA Tryz.prog KK (L lb)
noncomputable def I0 (lb n : Nat) : Inl := evF Tryz.prog KK (C lb n) n 0
noncomputable def I1 (lb n : Nat) : Inl := Qa8 KK (QaL Tryz.prog KK (C lb n) n (I0 lb n))
noncomputable def I2 (lb n : Nat) : Inl := Qa8 KK (QaL Tryz.prog KK (C lb n) n (I1 lb n))
noncomputable def I3 (lb n : Nat) : Inl := Qa8 KK (QaL Tryz.prog KK (C lb n) n (I2 lb n))
noncomputable def I4 (lb n : Nat) : Inl := Qa8 KK (QaL Tryz.prog KK (C lb n) n (I3 lb n))
noncomputable def I5 (lb n : Nat) : Inl := Qa8 KK (QaL Tryz.prog KK (C lb n) n (I4 lb n))
noncomputable def I6 (lb n : Nat) : Inl := Qa8 KK (QaL Tryz.prog KK (C lb n) n (I5 lb n))
noncomputable def I7 (lb n : Nat) : Inl := Qa8 KK (QaL Tryz.prog KK (C lb n) n (I6 lb n))
noncomputable def I8 (lb n : Nat) : Inl := Qa8 KK (QaL Tryz.prog KK (C lb n) n (I7 lb n))
noncomputable def I9 (lb n : Nat) : Inl := Qa8 KK (QaL Tryz.prog KK (C lb n) n (I8 lb n))
noncomputable def E0 (lb n d j : Nat) : Ev := evN Tryz.prog (C lb n) (I9 lb n) n d j
noncomputable def E1 (lb n d j : Nat) : Ev := evN Tryz.prog (C lb n) (I8 lb n) n d j
noncomputable def top (lb n : Nat) (f : FuncId) (args : List CV) : Option CV := QfB Tryz.prog KK (C lb n) n (I9 lb n) f (args.map .val)
theorem QnZ (lb n : Nat) (f : FuncId) (args : List CV) (h : L lb f = none) : C lb (n + 1) f args = top lb n f args := by
 show QbA Tryz.prog KK (L lb) (n + 1) f args = _
 unfold QbA
 rw [h]
 rfl
theorem Qoc (lb n : Nat) (f : FuncId) (args : List CV) {s : List CV → Option CV} (h : L lb f = some s) : C lb (n + 1) f args = s args := by
 show QbA Tryz.prog KK (L lb) (n + 1) f args = _
 unfold QbA
 rw [h]
end Go.Proofs
