/- What the functions of package text and of its reference answer: quoted texts are read. Conditions: as each says. -/
import Derived.Test.YtmefepdgnkhagaaGreatDoorRt
set_option linter.unusedSimpArgs false
namespace Go.Proofs
open Go.Am
variable (lb : Nat)
def hxV (c : UInt8) : Int := match hexV c with
  | some n => n
  | none => -1
theorem index_hex (c : UInt8) : Lib.indexByte [48, 49, 50, 51, 52, 53, 54, 55, 56, 57, 97, 98, 99, 100, 101, 102] c = hxV c := by
  revert c; refine u8_all ?_; decide +kernel
theorem hexS_ret (c : UInt8) : Ret lb F_strings_IndexByte [.str [48, 49, 50, 51, 52, 53, 54, 55, 56, 57, 97, 98, 99, 100, 101, 102], .int .u8 (c.toNat : Int)] (.int .i64 (hxV c)) := by
  refine .lib rfl ?_
  simp only [lib_IndexByte, Int.toNat_natCast]
  rw [show c.toNat.toUInt8 = c from by simp, index_hex]
theorem hxV_cases (c : UInt8) : (hexV c = none ∧ hxV c = -1) ∨ ∃ n, hexV c = some n ∧ n < 16 ∧ hxV c = n := by
  cases h : hexV c with
  | none => exact .inl ⟨rfl, by simp [hxV, h]⟩
  | some n => exact .inr ⟨n, rfl, (hexV_some h).2, by simp [hxV, h]⟩
theorem orHex : ∀ a, a < 16 → ∀ b, b < 16 → IntKind.wrap .u8 (IntKind.wrap .i64 ((BitVec.ofInt 64 (IntKind.wrap .i64 ((a : Nat) * 2 ^ 4)) ||| BitVec.ofInt 64 (b : Nat)).toNat)) = ((16 * a + b : Nat) : Int) := by decide +kernel

/-- what follows a backslash -/
def escR (t : Bs) : Nat × Nat := match t with
  | [] => (0, 0)
  | d :: r => if d.toNat = 34 ∨ d.toNat = 92 then (d.toNat, 1) else if d.toNat = 120 then
      match r with
      | h :: l :: _ => match hexV h, hexV l with
        | some a, some b => if 32 ≤ 16 * a + b ∧ 16 * a + b ≤ 126 then (0, 0) else (16 * a + b, 3)
        | _, _ => (0, 0)
      | _ => (0, 0)
    else (0, 0)
theorem escR_len (t : Bs) : (escR t).2 ≤ t.length ∧ (escR t).2 ≤ 3 ∧ (escR t).1 < 256 := by
  unfold escR
  split
  · simp
  rename_i d r
  have := d.toNat_lt
  split
  · exact ⟨by simp, by simp, by simpa using this⟩
  split
  · split
    · split
      · rename_i a b ha hb
        have := (hexV_some ha).2
        have := (hexV_some hb).2
        split
        · simp
        · exact ⟨by simp only [List.length_cons]; omega, by simp, by simp only; omega⟩
      · simp
    · simp
  · simp
theorem unqI_bs (r : Bs) : unqI (92 :: r) = if (escR r).2 = 0 then none else (unqI (r.drop (escR r).2)).map (UInt8.ofNat (escR r).1 :: ·) := by
  rw [unqI_cons, if_neg (by decide), if_pos (by decide)]
  match r with
  | [] => simp [escR]
  | d :: r' =>
    simp only [escR]
    by_cases h1 : d.toNat = 34 ∨ d.toNat = 92
    · simp [h1]
    · simp only [h1, if_false]
      by_cases h2 : d.toNat = 120
      · simp only [h2, if_true]
        match r' with
        | [] => simp
        | [x] => simp
        | x :: y :: r'' =>
          simp only
          cases hx : hexV x with
          | none => simp
          | some a =>
            cases hy : hexV y with
            | none => simp
            | some b =>
              simp only
              by_cases h3 : 32 ≤ 16 * a + b ∧ 16 * a + b ≤ 126
              · simp [h3]
              · simp [h3]
      · simp [h2]
/-- a text, or the error of its form -/
def unqR (o : Option Bs) : CV := match o with
  | some b => .tup [.str b, .int .i64 0]
  | none => .tup [.str [], .int .i64 3]
end Go.Proofs
