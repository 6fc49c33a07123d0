/- What the equations of functions speak of. Conditions: none; definitions, and one law. -/
import Derived.Test.YtdcpdknginpohaaGreatDoorProg
import Derived.Test.YtdcpdknginpohaaGreatDoorAm
import Derived.Test.YtdcpdknginpohaaGreatDoorLib
import Derived.KernelRfl
namespace Go.Proofs
open Go.Am
set_option maxRecDepth 100000
/-- functions that hand back slices of their own -/
def owns : FuncId → Option TypeId := fun f =>
  bif f == F_r07_head then some 83 else
  none
/-- functions that hand back function values which hold their variables -/
def lifts : FuncId → Bool := fun f => f == 109 || f == 90 || false
/-- functions that are always evaluated in place -/
def inls : FuncId → Bool := fun f => lifts f
/-- what package-level variables hold -/
def gls : Nat → Option (List CV) := fun _ => none
/-- functions of builders, in place -/
def hooks : FuncId → Option (List AV → List (List (Option (List AV))) → Option (List (List CV) × (List UInt8 → AV × List (List (Option (List AV)))))) := fun _ => none
/-- what iterators yield -/
def chunksF : Nat → List (List CV) → List (List (List CV))
  | 0, _ => []
  | n + 1, l => bif l.isEmpty then [] else l.take 5 :: chunksF n (l.drop 5)
def itChunk : List (List CV) → Option (List (List CV))
  | [[.list _ l], [.int .i64 n]] => bif decide (n = 5) && decide (l.length ≤ 10000000) && l.all (·.length == 1) then some ((chunksF l.length l).map fun c => [CV.list false c]) else none
  | _ => none
def iters : FuncId → Option (List (List CV) → Option (List (List CV))) := fun f => bif f == 165 then some itChunk else none
noncomputable def KK : Cfg := ⟨gls, hooks, owns, inls, iters, lifts⟩
/-- what a function answers in the end, over a library -/
noncomputable def evR (lib : FuncId → Option (List CV → Option CV)) (f : FuncId) (args : List CV) : Option CV :=
  open Classical in if h : ∃ r, ∃ N, ∀ n, N ≤ n → callF Tryz.prog KK lib n f args = some r then some h.choose else none
theorem evR_of {lib : FuncId → Option (List CV → Option CV)} {f : FuncId} {args : List CV} {r : CV} (h : ∃ N, ∀ n, N ≤ n → callF Tryz.prog KK lib n f args = some r) : evR lib f args = some r := by
  have hx : ∃ r, ∃ N, ∀ n, N ≤ n → callF Tryz.prog KK lib n f args = some r := ⟨r, h⟩
  unfold evR
  rw [dif_pos hx]
  obtain ⟨N, hN⟩ := h
  obtain ⟨M, hM⟩ := hx.choose_spec
  exact congrArg some (Option.some.inj ((hM (N + M) (by omega)).symm.trans (hN (N + M) (by omega))))
/-- the library, and what walks say of functions of the program (2 ≤ lb) -/
noncomputable def L (lb : Nat) : FuncId → Option (List CV → Option CV) := fun f =>
  L1 lb f
noncomputable def C (lb : Nat) : Nat → FuncId → List CV → Option CV := callF Tryz.prog KK (L lb)
abbrev Inl := FuncId → List AV → List (List (Option (List AV))) → (AV → List (List (Option (List AV))) → Option CV) → Option CV
abbrev Ev := Code → (Ex → St → Option CV) → St → Option CV
noncomputable def B (f : FuncId) : Code := bodyOf Tryz.prog f
noncomputable def R (f : FuncId) : List ResultVar := resultsOf Tryz.prog f
noncomputable def I0 (lb : Nat) (n : Nat) : Inl := evF Tryz.prog KK (C lb n) n 0
noncomputable def I1 (lb : Nat) (n : Nat) : Inl := hooked KK (evFStep Tryz.prog KK (C lb n) n (I0 lb n))
noncomputable def I2 (lb : Nat) (n : Nat) : Inl := hooked KK (evFStep Tryz.prog KK (C lb n) n (I1 lb n))
noncomputable def I3 (lb : Nat) (n : Nat) : Inl := hooked KK (evFStep Tryz.prog KK (C lb n) n (I2 lb n))
noncomputable def I4 (lb : Nat) (n : Nat) : Inl := hooked KK (evFStep Tryz.prog KK (C lb n) n (I3 lb n))
noncomputable def I5 (lb : Nat) (n : Nat) : Inl := hooked KK (evFStep Tryz.prog KK (C lb n) n (I4 lb n))
noncomputable def I6 (lb : Nat) (n : Nat) : Inl := hooked KK (evFStep Tryz.prog KK (C lb n) n (I5 lb n))
noncomputable def I7 (lb : Nat) (n : Nat) : Inl := hooked KK (evFStep Tryz.prog KK (C lb n) n (I6 lb n))
noncomputable def I8 (lb : Nat) (n : Nat) : Inl := hooked KK (evFStep Tryz.prog KK (C lb n) n (I7 lb n))
noncomputable def I9 (lb : Nat) (n : Nat) : Inl := hooked KK (evFStep Tryz.prog KK (C lb n) n (I8 lb n))
noncomputable def E0 (lb : Nat) (n d j : Nat) : Ev := evN Tryz.prog (C lb n) (I9 lb n) n d j
noncomputable def E1 (lb : Nat) (n d j : Nat) : Ev := evN Tryz.prog (C lb n) (I8 lb n) n d j
noncomputable def E2 (lb : Nat) (n d j : Nat) : Ev := evN Tryz.prog (C lb n) (I7 lb n) n d j
noncomputable def E3 (lb : Nat) (n d j : Nat) : Ev := evN Tryz.prog (C lb n) (I6 lb n) n d j
noncomputable def E4 (lb : Nat) (n d j : Nat) : Ev := evN Tryz.prog (C lb n) (I5 lb n) n d j
noncomputable def E5 (lb : Nat) (n d j : Nat) : Ev := evN Tryz.prog (C lb n) (I4 lb n) n d j
noncomputable def E6 (lb : Nat) (n d j : Nat) : Ev := evN Tryz.prog (C lb n) (I3 lb n) n d j
noncomputable def E7 (lb : Nat) (n d j : Nat) : Ev := evN Tryz.prog (C lb n) (I2 lb n) n d j
noncomputable def E8 (lb : Nat) (n d j : Nat) : Ev := evN Tryz.prog (C lb n) (I1 lb n) n d j
noncomputable def E9 (lb : Nat) (n d j : Nat) : Ev := evN Tryz.prog (C lb n) (I0 lb n) n d j
noncomputable def X0 (lb : Nat) (n d j : Nat) : Ev := evG Tryz.prog (C lb n) (I9 lb n) n j d false
noncomputable def X1 (lb : Nat) (n d j : Nat) : Ev := evG Tryz.prog (C lb n) (I8 lb n) n j d false
noncomputable def X2 (lb : Nat) (n d j : Nat) : Ev := evG Tryz.prog (C lb n) (I7 lb n) n j d false
noncomputable def X3 (lb : Nat) (n d j : Nat) : Ev := evG Tryz.prog (C lb n) (I6 lb n) n j d false
noncomputable def X4 (lb : Nat) (n d j : Nat) : Ev := evG Tryz.prog (C lb n) (I5 lb n) n j d false
noncomputable def X5 (lb : Nat) (n d j : Nat) : Ev := evG Tryz.prog (C lb n) (I4 lb n) n j d false
noncomputable def X6 (lb : Nat) (n d j : Nat) : Ev := evG Tryz.prog (C lb n) (I3 lb n) n j d false
noncomputable def X7 (lb : Nat) (n d j : Nat) : Ev := evG Tryz.prog (C lb n) (I2 lb n) n j d false
noncomputable def X8 (lb : Nat) (n d j : Nat) : Ev := evG Tryz.prog (C lb n) (I1 lb n) n j d false
noncomputable def X9 (lb : Nat) (n d j : Nat) : Ev := evG Tryz.prog (C lb n) (I0 lb n) n j d false
noncomputable def top (lb : Nat) (n : Nat) (f : FuncId) (args : List CV) : Option CV := evTop Tryz.prog KK (C lb n) n (I9 lb n) f (args.map .val)
theorem C_top (lb : Nat) (n : Nat) (f : FuncId) (args : List CV) (h : L lb f = none) : C lb (n + 1) f args = top lb n f args := by
  show callF Tryz.prog KK (L lb) (n + 1) f args = _
  unfold callF
  rw [h]
  rfl
theorem C_lib (lb : Nat) (n : Nat) (f : FuncId) (args : List CV) {s : List CV → Option CV} (h : L lb f = some s) : C lb (n + 1) f args = s args := by
  show callF Tryz.prog KK (L lb) (n + 1) f args = _
  unfold callF
  rw [h]
end Go.Proofs
