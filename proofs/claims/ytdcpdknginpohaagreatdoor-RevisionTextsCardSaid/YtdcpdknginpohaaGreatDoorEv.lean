/- What the equations of functions speak of. Conditions: none; definitions, and one law. -/
import Derived.Test.YtdcpdknginpohaaGreatDoorProg
import Derived.Test.YtdcpdknginpohaaGreatDoorAm
import Derived.Test.YtdcpdknginpohaaGreatDoorLib
import Derived.KernelRfl
namespace Go.Proofs
open Go.Am
abbrev LL := List (List CV)
abbrev LB := List UInt8
abbrev vV (x : CV) : AV := .val x
abbrev vI (x : Int) : AV := .val (.int .i64 x)
abbrev vS (x : List UInt8) : AV := .val (.str x)
abbrev vB (x : Bool) : AV := .val (.bool x)
set_option maxRecDepth 100000
def owns : FuncId → Option TypeId := fun f =>
 bif f == Qch then some 83 else
 none
def QxB : FuncId → Bool := fun f => f == 109 || f == 90 || f == 138 || f == 185 || false
def inls : FuncId → Bool := fun f => QxB f
def gls : Nat → Option (List CV) := fun _ => none
def Qzk : FuncId → Option (List AV → List (List (Option (List AV))) → Option (List (List CV) × (List UInt8 → AV × List (List (Option (List AV)))))) := fun _ => none
def Qg4 : Nat → List (List CV) → List (List (List CV))
 | 0, _ => []
 | n + 1, l => bif l.isEmpty then [] else l.take 5 :: Qg4 n (l.drop 5)
def itChunk : List (List CV) → Option (List (List CV))
 | [[.list _ l], [.int .i64 n]] => bif decide (n = 5) && decide (l.length ≤ 10000000) && l.all (·.length == 1) then some ((Qg4 l.length l).map fun c => [CV.list false c]) else none
 | _ => none
def itEach : List (List CV) → Option (List (List CV))
 | [[.int .i64 fr, .int .i64 to, .int .i64 days]] => some ((Qbv fr to days).map fun d => [CV.int .i64 d])
 | _ => none
def QuT : FuncId → Option (List (List CV) → Option (List (List CV))) := fun f =>
 bif f == 165 then some itChunk else
 bif f == 179 then some itEach else
 none
def rowTab : List (TypeId × Nat × Nat) := [(42, 30, 5), (42, 51, 5), (42, 7, 4), (94, 7, 4)]
def rowF : TypeId → Nat → Nat → Bool := fun e s n => rowTab.any fun q => q.1 == e && q.2.1 == s && q.2.2 == n
noncomputable def KK : Cfg := ⟨gls, Qzk, owns, inls, QuT, QxB, rowF⟩
noncomputable def L (lb : Nat) : FuncId → Option (List CV → Option CV) := fun f =>
 L1 lb f
noncomputable def C (lb : Nat) : Nat → FuncId → List CV → Option CV := Qda Tryz.prog KK (L lb)
abbrev Inl := FuncId → List AV → List (List (Option (List AV))) → (AV → List (List (Option (List AV))) → Option CV) → Option CV
abbrev Ev := Code → (Ex → St → Option CV) → St → Option CV
noncomputable def B (f : FuncId) : Code := QyL Tryz.prog f
noncomputable def R (f : FuncId) : List ResultVar := QvK Tryz.prog f
noncomputable def I0 (lb n : Nat) : Inl := evF Tryz.prog KK (C lb n) n 0
noncomputable def I1 (lb n : Nat) : Inl := Qcx KK (QbG Tryz.prog KK (C lb n) n (I0 lb n))
noncomputable def I2 (lb n : Nat) : Inl := Qcx KK (QbG Tryz.prog KK (C lb n) n (I1 lb n))
noncomputable def I3 (lb n : Nat) : Inl := Qcx KK (QbG Tryz.prog KK (C lb n) n (I2 lb n))
noncomputable def I4 (lb n : Nat) : Inl := Qcx KK (QbG Tryz.prog KK (C lb n) n (I3 lb n))
noncomputable def I5 (lb n : Nat) : Inl := Qcx KK (QbG Tryz.prog KK (C lb n) n (I4 lb n))
noncomputable def I6 (lb n : Nat) : Inl := Qcx KK (QbG Tryz.prog KK (C lb n) n (I5 lb n))
noncomputable def I7 (lb n : Nat) : Inl := Qcx KK (QbG Tryz.prog KK (C lb n) n (I6 lb n))
noncomputable def I8 (lb n : Nat) : Inl := Qcx KK (QbG Tryz.prog KK (C lb n) n (I7 lb n))
noncomputable def I9 (lb n : Nat) : Inl := Qcx KK (QbG Tryz.prog KK (C lb n) n (I8 lb n))
noncomputable def E0 (lb n d j : Nat) : Ev := evN Tryz.prog (C lb n) (I9 lb n) n d j
noncomputable def E1 (lb n d j : Nat) : Ev := evN Tryz.prog (C lb n) (I8 lb n) n d j
noncomputable def X0 (lb n d j : Nat) : Ev := evG Tryz.prog (C lb n) (I9 lb n) n j d false
noncomputable def top (lb n : Nat) (f : FuncId) (args : List CV) : Option CV := Qk5 Tryz.prog KK (C lb n) n (I9 lb n) f (args.map .val)
theorem Qy9 (lb n : Nat) (f : FuncId) (args : List CV) (h : L lb f = none) : C lb (n + 1) f args = top lb n f args := by
 show Qda Tryz.prog KK (L lb) (n + 1) f args = _
 unfold Qda
 rw [h]
 rfl
theorem Qzf (lb n : Nat) (f : FuncId) (args : List CV) {s : List CV → Option CV} (h : L lb f = some s) : C lb (n + 1) f args = s args := by
 show Qda Tryz.prog KK (L lb) (n + 1) f args = _
 unfold Qda
 rw [h]
end Go.Proofs
