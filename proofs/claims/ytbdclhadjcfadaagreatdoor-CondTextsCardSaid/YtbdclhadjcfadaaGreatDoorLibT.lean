/- The library, and what walks say of functions of the program. Conditions: none. -/
import Derived.Test.YtbdclhadjcfadaaGreatDoorCs
import Derived.Test.YtbdclhadjcfadaaGreatDoorWA
namespace Go.Proofs
open Go.Am Go.RowKit
abbrev topLb:Nat := 2
theorem QCL (lb:Nat) (hlb:lb ≤ topLb):QmH Tryz.prog KK.gl (Tw lb) (L lb) := by
 intro f s hs args r hr
 unfold L L1 at hs
 split at hs
 ·rename_i hf; subst hf
  rcases lb with _ | _ | lb
  ·cases hs
  ·cases hs
  ·cases hs; exact ⟨QcB (by kernel_rfl),QtZ hr⟩
 split at hs
 ·rename_i hf; subst hf; cases hs; exact ⟨QcB (by kernel_rfl),QlX hr⟩
 split at hs
 ·rename_i hf; subst hf; cases hs; exact ⟨QcB (by kernel_rfl),Qkw hr⟩
 split at hs
 ·rename_i hf; subst hf; cases hs; exact ⟨QcB (by kernel_rfl),Qtd hr⟩
 split at hs
 ·rename_i hf; subst hf
  rcases lb with _ | lb
  ·cases hs
  ·cases hs; exact ⟨QcB (by kernel_rfl),QsX hr⟩
 split at hs
 ·rename_i hf; subst hf; cases hs; exact ⟨QcB (by kernel_rfl),QsO hr⟩
 split at hs
 ·rename_i hf; subst hf; cases hs; exact ⟨QcB (by kernel_rfl),Qry hr⟩
 split at hs
 ·rename_i hf; subst hf; cases hs; exact ⟨QcB (by kernel_rfl),Qm9 hr⟩
 split at hs
 ·rename_i hf; subst hf; cases hs; exact ⟨QcB (by kernel_rfl),Qo6 hr⟩
 split at hs
 ·rename_i hf; subst hf; cases hs; exact ⟨QcB (by kernel_rfl),Qpm hr⟩
 ·cases hs
end Go.Proofs
