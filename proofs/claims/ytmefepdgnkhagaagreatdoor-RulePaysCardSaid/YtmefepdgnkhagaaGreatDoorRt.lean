/- What the functions of package text and of its reference answer: quoted texts. Conditions: as each says. -/
import Derived.Test.YtmefepdgnkhagaaGreatDoorG1
import Derived.Test.YtmefepdgnkhagaaGreatDoorRk
set_option linter.unusedSimpArgs false
namespace Go.Proofs
open Go.Am
variable (lb : Nat)
theorem hex_at : ∀ n : Nat, n < 16 → atS [48, 49, 50, 51, 52, 53, 54, 55, 56, 57, 97, 98, 99, 100, 101, 102] (n : Int) = some (hexB n) := by decide +kernel
theorem fdiv16 (c : UInt8) : Int.fdiv (c.toNat : Int) (2 ^ 4) = ((c.toNat / 16 : Nat) : Int) := by
  revert c; refine u8_all ?_; decide +kernel
theorem and15 (c : UInt8) : IntKind.wrap .u8 ((BitVec.ofInt 8 (c.toNat : Int) &&& BitVec.ofInt 8 15).toNat) = ((c.toNat % 16 : Nat) : Int) := by
  revert c; refine u8_all ?_; decide +kernel
theorem tdiv16 (c : UInt8) : IntKind.wrap .u8 (Int.tdiv (c.toNat : Int) 16) = ((c.toNat / 16 : Nat) : Int) := by
  revert c; refine u8_all ?_; decide +kernel
theorem tmod16 (c : UInt8) : Int.tmod (c.toNat : Int) 16 = ((c.toNat % 16 : Nat) : Int) := by
  revert c; refine u8_all ?_; decide +kernel

end Go.Proofs
