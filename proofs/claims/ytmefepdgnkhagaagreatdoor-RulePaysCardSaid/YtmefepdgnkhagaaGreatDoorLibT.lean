/- The library, and what walks say of functions of the program. Conditions: none. -/
import Derived.Test.YtmefepdgnkhagaaGreatDoorCs
import Derived.Test.YtmefepdgnkhagaaGreatDoorWr
namespace Go.Proofs
open Go.Am Go.RowKit
abbrev topLb : Nat := 2
theorem libOK (lb : Nat) (hlb : lb ≤ topLb) : LibOK Tryz.prog KK.gl (Tw lb) (L lb) := by
  intro f s hs args r hr
  unfold L L1 at hs
  split at hs
  · rename_i hf; subst hf
    rcases lb with _ | _ | lb
    · cases hs
    · cases hs
    · cases hs; exact ⟨enters (by kernel_rfl), ends_CondRead hr⟩
  split at hs
  · rename_i hf; subst hf; cases hs; exact ⟨enters (by kernel_rfl), ends_IndexByte hr⟩
  split at hs
  · rename_i hf; subst hf; cases hs; exact ⟨enters (by kernel_rfl), ends_TrimPrefix hr⟩
  split at hs
  · rename_i hf; subst hf; cases hs; exact ⟨enters (by kernel_rfl), ends_Itoa hr⟩
  split at hs
  · rename_i hf; subst hf
    rcases lb with _ | lb
    · cases hs
    · cases hs; exact ⟨enters (by kernel_rfl), ends_Atoi hr⟩
  split at hs
  · rename_i hf; subst hf; cases hs; exact ⟨enters (by kernel_rfl), ends_Cut hr⟩
  split at hs
  · rename_i hf; subst hf; cases hs; exact ⟨enters (by kernel_rfl), ends_Join hr⟩
  split at hs
  · rename_i hf; subst hf; cases hs; exact ⟨enters (by kernel_rfl), ends_Split hr⟩
  split at hs
  · rename_i hf; subst hf; cases hs; exact ⟨enters (by kernel_rfl), ends_IndexAny hr⟩
  split at hs
  · rename_i hf; subst hf; cases hs; exact ⟨enters (by kernel_rfl), ends_length hr⟩
  · cases hs
end Go.Proofs
