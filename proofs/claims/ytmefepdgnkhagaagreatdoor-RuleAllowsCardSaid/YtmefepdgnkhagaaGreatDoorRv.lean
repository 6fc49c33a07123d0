/- What the reference of package text answers: quoted texts are read. Conditions: as each says. -/
import Derived.Test.YtmefepdgnkhagaaGreatDoorRu
set_option linter.unusedSimpArgs false
namespace Go.Proofs
open Go.Am
variable (lb : Nat)
theorem atS_mid {s X Y : Bs} {c : UInt8} {i : Int} (hs : s = X ++ c :: Y) (h : i = (X.length : Int)) : atS s i = some c := by
  subst hs; subst h
  exact atS_ok (by simp)
theorem hex2 (c : UInt8) : IntKind.wrap .u8 (IntKind.wrap .i64 (IntKind.wrap .i64 (16 * ((c.toNat / 16 : Nat) : Int)) + ((c.toNat % 16 : Nat) : Int))) = (c.toNat : Int) := by
  revert c
  refine u8_all ?_
  decide +kernel
end Go.Proofs
