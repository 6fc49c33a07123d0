/- What the abstract machine finds of a function holds of the program. Conditions: none. -/
import Derived.Test.YtlfopiicpgggfaaAmFun
import Derived.Test.YtlfopiicpgggfaaChecked
import Derived.KernelRfl
namespace Go.Proofs
open Go.Am

theorem Try.names : NamesOk Try.prog := by
  have h : Try.prog.funcs.toList.all (fun fn => !(fn.name == "runtime.NumGoroutine")) = true := by kernel_rfl
  intro f fn hf
  rw [List.all_eq_true] at h
  have := h fn (by
    have : Try.prog.funcs.toList[f]? = some fn := by simpa using hf
    exact List.mem_of_getElem? this)
  simpa using this
theorem Try.noLib : LibOK Try.prog (fun _ => none) := fun _ _ h => by cases h
/-- a function that the machine finds to answer c, called from a world that it leaves as it was -/
theorem Try.walk {k : Nat} {f : FuncId} {args : List CV} {c : CV} (h : callF Try.prog (fun _ => none) k f args = some c) (W : World) (hw : Hw) (hz : ∀ b, W.heap.size ≤ b → hw b = 0) (vs : List Value)
    (hv : CRepT W hw args vs) : Calls Try.prog f vs.toArray W fun e W' => ∃ v h', e = .returned v ∧ Go.RowKit.Below W.heap.size W W' ∧ CRep W' h' c v :=
  ((callF_sound (structEqOk _) Try.names (Checked.mixed Try.checked) Try.noLib k W.heap.size W).calls h W hw vs (Go.RowKit.Below.refl _ _) (Nat.le_refl _) hz hv).mono
    fun _ _ ⟨v, h', h1, h2, _, _, h3⟩ => ⟨v, h', h1, h2, h3⟩
end Go.Proofs
