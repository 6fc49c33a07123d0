/- Chapter 10 on plain data: the stable sort of a few flights by their first days (printed by mkns.py). Conditions: as each says. -/
import Derived.Test.YtdcpdknginpohaaGreatDoorVs
import Derived.Test.YtdcpdknginpohaaGreatDoorKB
import Derived.Test.YtdcpdknginpohaaGreatDoorNA
import Derived.Test.YtdcpdknginpohaaGreatDoorNh
import Derived.Test.YtdcpdknginpohaaGreatDoorKC
import Derived.Test.YtdcpdknginpohaaGreatDoorVd
import Derived.Test.YtdcpdknginpohaaGreatDoorW10
set_option linter.unusedSimpArgs false
set_option linter.unusedVariables false
set_option maxRecDepth 100000
namespace Go.Proofs
open Go.Am
variable (lb : Nat)
def flE (f : Fl) : List CV := [.str f.car, .int .i64 f.num, .int .i64 f.fr, .int .i64 f.to, .int .i64 f.days, .list f.ln (f.legs.map lgcv)]
end Go.Proofs
set_option linter.unusedSimpArgs false
set_option linter.unusedVariables false
namespace Go.Proofs
open Go.Am
variable (lb : Nat)
end Go.Proofs
set_option linter.unusedSimpArgs false
set_option linter.unusedVariables false
set_option maxRecDepth 100000
namespace Go.Proofs
open Go.Am
variable (lb : Nat)
end Go.Proofs
set_option linter.unusedSimpArgs false
set_option linter.unusedVariables false
namespace Go.Proofs
open Go.Am
variable (lb : Nat)
def QcP (r : Rv) : Fl := ⟨r.car, r.num, r.fr, r.to, r.days, r.ln, r.legs⟩
end Go.Proofs
set_option linter.unusedSimpArgs false
set_option linter.unusedVariables false
namespace Go.Proofs
open Go.Am
variable (lb : Nat)
end Go.Proofs
set_option linter.unusedSimpArgs false
set_option linter.unusedVariables false
namespace Go.Proofs
open Go.Am
end Go.Proofs
set_option linter.unusedSimpArgs false
set_option linter.unusedVariables false
namespace Go.Proofs
open Go.Am
variable (lb : Nat)
def Qyd : Bs := [102, 108, 105, 103, 104, 116, 32]
def atS (i : Nat) : Bs := Qyd ++ Lib.itoa (i : Int)
end Go.Proofs
set_option linter.unusedSimpArgs false
set_option linter.unusedVariables false
namespace Go.Proofs
open Go.Am
variable (lb : Nat)
def ArgL (l : List Fl) : Prop := l.length ≤ 281474976710656 ∧ ∀ f ∈ l, ArgF f ∧ (f.ln = true → f.legs = [])
def ArgR (r : Rv) : Prop := r.car.length ≤ 281474976710656 ∧ r.legs.length ≤ 281474976710656 ∧ (∀ x ∈ r.legs, QcZ x ≤ 1000000000000000) ∧ (r.ln = true → r.legs = [])
def QpW (r : Rv) : Bool := decide (r.eq.length ≤ 100) && !bigB pc0 ⟨r.car, 0, 0, 0, 0, r.ln, r.legs⟩
theorem QrI (r : Rv) (hr : ArgR r) : Ret lb Qj9 [rvcv r] (.bool (QpW r)) := by
 have hb := QtG lb pc0 ⟨r.car, 0, 0, 0, 0, r.ln, r.legs⟩ hr.1 hr.2.2.1 hr.2.1 (by simp [pc0]) (by simp [pc0])
 refine .top rfl (hb.mono fun n h => ?_)
 rw [Qto]
 unfold QpW
 by_cases h1 : r.eq.length ≤ 100
 ·rw [decT h1]
  exact stT (decT (by omega)) (stO _ h (stO _ rfl rfl))
 ·rw [decF h1]
  exact stF (decF (by omega)) rfl
end Go.Proofs
set_option linter.unusedSimpArgs false
set_option linter.unusedVariables false
namespace Go.Proofs
open Go.Am
variable (lb : Nat)
def rvE (r : Rv) : List CV := [.int .i64 r.kind, .str r.car, .int .i64 r.num, .int .i64 r.fr, .int .i64 r.to, .int .i64 r.days, .int .i64 r.min, .str r.eq, .list r.ln (r.legs.map lgcv)]
end Go.Proofs
