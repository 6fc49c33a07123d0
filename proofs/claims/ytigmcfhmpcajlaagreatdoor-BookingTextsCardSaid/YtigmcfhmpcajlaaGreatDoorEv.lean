/- What the equations of functions speak of. Conditions: none; definitions, and one law. -/
import Derived.Test.YtigmcfhmpcajlaaGreatDoorProg
import Derived.Test.YtigmcfhmpcajlaaGreatDoorAm
import Derived.Test.YtigmcfhmpcajlaaGreatDoorLib
import Derived.KernelRfl
namespace Go.Proofs
open Go.Am
abbrev LL := List (List CV)
abbrev LB := List UInt8
abbrev vV (x : CV) : AV := .val x
abbrev vI (x : Int) : AV := .val (.int .i64 x)
abbrev vS (x : List UInt8) : AV := .val (.str x)
abbrev vB (x : Bool) : AV := .val (.bool x)
set_option maxRecDepth 100000
def owns : FuncId → Option TypeId := fun _ => none
def QyZ : FuncId → Bool := fun f => f == 48 || f == 47 || false
def inls : FuncId → Bool := fun f => QyZ f
def gls : Nat → Option (List CV) := fun _ => none
def Qwd : CV → List (List CV)
 | .list _ l => l
 | _ => []
def QtA : CV → Bool
 | .list _ l => (Qeb l).isSome && decide (l.length ≤ 10000000)
 | _ => false
def Qnm (f0 : FuncId) (vs : List AV) (mem : List (List (Option (List AV)))) : Option (List (List CV) × (List UInt8 → AV × List (List (Option (List AV))))) :=
 match vs with
 | [.clo f [.ptr d s 0]] => match f == f0, box? mem d s with
  | true, some c => match QbK c with
   | some [x] => some (bif QtA x then [] else [[]], fun _ => (.val (.list (Qwd x).isEmpty (Qwd x)), mem))
   | _ => none
  | _, _ => none
 | _ => none
def Qwh : FuncId → Option (List AV → List (List (Option (List AV))) → Option (List (List CV) × (List UInt8 → AV × List (List (Option (List AV)))))) := fun f =>
 bif f == F_slices_Collect_int then some (Qnm 107) else
 bif f == F_strings_Builder_copyCheck then some (Qri 104) else
 bif f == F_strings_Builder_String then some (Qpf 5) else
 none
def Qpt : List CV → Bool
 | [.int .i64 _] => true
 | _ => false
def itValues : List (List CV) → Option (List (List CV))
 | [[.list _ l]] => bif decide (l.length ≤ 10000000) && l.all Qpt then some l else none
 | _ => none
def QvL : FuncId → Option (List (List CV) → Option (List (List CV))) := fun f =>
 bif f == 107 then some itValues else
 none
def rowTab : List (TypeId × Nat × Nat) := [(39, 67, 5), (4, 61, 5), (39, 7, 4), (4, 19, 4), (89, 51, 4), (4, 15, 4)]
def rowF : TypeId → Nat → Nat → Bool := fun e s n => rowTab.any fun q => q.1 == e && q.2.1 == s && q.2.2 == n
noncomputable def KK : Cfg := ⟨gls, Qwh, owns, inls, QvL, QyZ, rowF⟩
noncomputable def L (lb : Nat) : FuncId → Option (List CV → Option CV) := fun f =>
 L1 lb f
noncomputable def C (lb : Nat) : Nat → FuncId → List CV → Option CV := Qdj Tryz.prog KK (L lb)
abbrev Inl := FuncId → List AV → List (List (Option (List AV))) → (AV → List (List (Option (List AV))) → Option CV) → Option CV
abbrev Ev := Code → (Ex → St → Option CV) → St → Option CV
noncomputable def B (f : FuncId) : Code := QAo Tryz.prog f
noncomputable def R (f : FuncId) : List ResultVar := Qxu Tryz.prog f
noncomputable def I0 (lb n : Nat) : Inl := evF Tryz.prog KK (C lb n) n 0
noncomputable def I1 (lb n : Nat) : Inl := QcM KK (QbI Tryz.prog KK (C lb n) n (I0 lb n))
noncomputable def I2 (lb n : Nat) : Inl := QcM KK (QbI Tryz.prog KK (C lb n) n (I1 lb n))
noncomputable def I3 (lb n : Nat) : Inl := QcM KK (QbI Tryz.prog KK (C lb n) n (I2 lb n))
noncomputable def I4 (lb n : Nat) : Inl := QcM KK (QbI Tryz.prog KK (C lb n) n (I3 lb n))
noncomputable def I5 (lb n : Nat) : Inl := QcM KK (QbI Tryz.prog KK (C lb n) n (I4 lb n))
noncomputable def I6 (lb n : Nat) : Inl := QcM KK (QbI Tryz.prog KK (C lb n) n (I5 lb n))
noncomputable def I7 (lb n : Nat) : Inl := QcM KK (QbI Tryz.prog KK (C lb n) n (I6 lb n))
noncomputable def I8 (lb n : Nat) : Inl := QcM KK (QbI Tryz.prog KK (C lb n) n (I7 lb n))
noncomputable def I9 (lb n : Nat) : Inl := QcM KK (QbI Tryz.prog KK (C lb n) n (I8 lb n))
noncomputable def E0 (lb n d j : Nat) : Ev := evN Tryz.prog (C lb n) (I9 lb n) n d j
noncomputable def E1 (lb n d j : Nat) : Ev := evN Tryz.prog (C lb n) (I8 lb n) n d j
noncomputable def top (lb n : Nat) (f : FuncId) (args : List CV) : Option CV := QlD Tryz.prog KK (C lb n) n (I9 lb n) f (args.map .val)
theorem QAS (lb n : Nat) (f : FuncId) (args : List CV) (h : L lb f = none) : C lb (n + 1) f args = top lb n f args := by
 show Qdj Tryz.prog KK (L lb) (n + 1) f args = _
 unfold Qdj
 rw [h]
 rfl
theorem QBg (lb n : Nat) (f : FuncId) (args : List CV) {s : List CV → Option CV} (h : L lb f = some s) : C lb (n + 1) f args = s args := by
 show Qdj Tryz.prog KK (L lb) (n + 1) f args = _
 unfold Qdj
 rw [h]
end Go.Proofs
