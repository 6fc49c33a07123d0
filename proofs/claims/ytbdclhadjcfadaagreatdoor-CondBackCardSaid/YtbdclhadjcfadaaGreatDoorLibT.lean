/- The library, and what walks say of functions of the program. Conditions: none. -/
import Derived.Test.YtbdclhadjcfadaaGreatDoorCs
import Derived.Test.YtbdclhadjcfadaaGreatDoorWA
namespace Go.Proofs
open Go.Am Go.RowKit
abbrev topLb : Nat := 2
theorem Qxm (lb : Nat) (hlb : lb ≤ topLb) : Qju Tryz.prog KK.gl (Tw lb) (L lb) := by
 intro f s hs args r hr
 unfold L L1 at hs
 split at hs
 ·rename_i hf; subst hf
  rcases lb with _ | _ | lb
  ·cases hs
  ·cases hs
  ·cases hs; exact ⟨Qb6 (by kernel_rfl), QpH hr⟩
 split at hs
 ·rename_i hf; subst hf; cases hs; exact ⟨Qb6 (by kernel_rfl), Qjj hr⟩
 split at hs
 ·rename_i hf; subst hf; cases hs; exact ⟨Qb6 (by kernel_rfl), Qii hr⟩
 split at hs
 ·rename_i hf; subst hf; cases hs; exact ⟨Qb6 (by kernel_rfl), Qpl hr⟩
 split at hs
 ·rename_i hf; subst hf
  rcases lb with _ | lb
  ·cases hs
  ·cases hs; exact ⟨Qb6 (by kernel_rfl), Qo5 hr⟩
 split at hs
 ·rename_i hf; subst hf; cases hs; exact ⟨Qb6 (by kernel_rfl), QoE hr⟩
 split at hs
 ·rename_i hf; subst hf; cases hs; exact ⟨Qb6 (by kernel_rfl), QnH hr⟩
 split at hs
 ·rename_i hf; subst hf; cases hs; exact ⟨Qb6 (by kernel_rfl), Qkh hr⟩
 split at hs
 ·rename_i hf; subst hf; cases hs; exact ⟨Qb6 (by kernel_rfl), Qmh hr⟩
 split at hs
 ·rename_i hf; subst hf; cases hs; exact ⟨Qb6 (by kernel_rfl), Qmr hr⟩
 ·cases hs
end Go.Proofs
