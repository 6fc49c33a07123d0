/- Quoted texts, words and lines on plain data. Conditions: none; definitions and laws. -/
import Derived.Test.YtmpbijffaepkdaaGreatDoorLib
set_option linter.unusedSimpArgs false
namespace Go.Proofs
abbrev Bs := List UInt8
def hexB (n : Nat) : UInt8 := if n < 10 then UInt8.ofNat (48 + n) else UInt8.ofNat (87 + n)
def esc (c : UInt8) : Bs := if c.toNat = 34 ∨ c.toNat = 92 then [92, c] else if c.toNat < 32 ∨ 126 < c.toNat then [92, 120, hexB (c.toNat / 16), hexB (c.toNat % 16)] else [c]
def quo (s : Bs) : Bs := 34 :: (s.flatMap esc ++ [34])
end Go.Proofs
