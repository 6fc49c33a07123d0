/- What the functions of package text and of its reference answer: names; splitting at a byte. Conditions: as each says. -/
import Derived.Test.YtdcpdknginpohaaGreatDoorRA
import Derived.Lib.SplitLaws
set_option linter.unusedSimpArgs false
namespace Go.Proofs
open Go.Am
variable (lb : Nat)
def QaN (c : UInt8) : Bs → List Bs
 | [] => [[]]
 | x :: r => if x = c then [] :: QaN c r else match QaN c r with
  | w :: ws => (x :: w) :: ws
  | [] => [[x]]
theorem Qrr (c : UInt8) : ∀ s, QaN c s ≠ []
 | [] => by simp [QaN]
 | x :: r => by
  unfold QaN
  split
  ·simp
  ·split <;> simp
theorem QlN (c : UInt8) (l : Bs) : Lib.index (c :: l) [c] = 0 := by
 rw [Lib.index]
 simp
theorem QrQ {b c : UInt8} (l : Bs) (h : b ≠ c) : Lib.index (b :: l) [c] = if Lib.index l [c] = -1 then -1 else Lib.index l [c] + 1 := by
 rw [Lib.index]
 have : ¬ c = b := fun q => h q.symm
 simp [this]
theorem QtD {c : UInt8} {l : Bs} (h : Lib.count l [c] ≠ 0) : Lib.index l [c] ≠ -1 := by
 intro q
 apply h
 unfold Lib.count
 rw [Lib.countFrom]
 simp [q]
theorem Qlw {c : UInt8} {k : Nat} {l : Bs} (h : Lib.index l [c] ≠ -1) : Lib.splitK [c] 0 (k + 1) l = l.take (Lib.index l [c]).toNat :: Lib.splitK [c] 0 k (l.drop ((Lib.index l [c]).toNat + 1)) := by
 rw [Lib.splitK]
 have : (Lib.index l [c] == -1) = false := by simpa using h
 simp [this]
theorem Qq5 (c : UInt8) : ∀ s : Bs, Lib.split s [c] = QaN c s
 | [] => by simp [Lib.split, Lib.count, Lib.countFrom, Lib.index, QaN, Lib.splitK]
 | x :: l => by
  have ih := Qq5 c l
  unfold Lib.split at ih ⊢
  by_cases h : x = c
  ·subst h
   rw [Lib.count_cons_eq, Nat.add_comm 1, Qlw (by rw [QlN]; decide), QlN]
   simp only [QaN, if_true]
   simpa using ih
  ·rw [Lib.count_cons_ne x c l h]
   cases hk : Lib.count l [c] with
   | zero =>
    rw [hk] at ih
    simp only [Lib.splitK] at ih ⊢
    simp [QaN, h, ← ih]
   | succ k =>
    have hi := QtD (c := c) (l := l) (by omega)
    have hge := Lib.index_ge l [c]
    rw [hk, Qlw hi] at ih
    have hx : Lib.index (x :: l) [c] = Lib.index l [c] + 1 := by rw [QrQ l h, if_neg hi]
    rw [Qlw (by rw [hx]; omega), hx]
    obtain ⟨i, hi'⟩ : ∃ i : Nat, Lib.index l [c] = i := ⟨(Lib.index l [c]).toNat, by omega⟩
    rw [hi'] at ih ⊢
    rw [show ((i : Int) + 1).toNat = i + 1 by omega, List.take_succ_cons, List.drop_succ_cons]
    rw [Int.toNat_natCast] at ih
    simp [QaN, h, ← ih]
theorem Qk2 (c : UInt8) : ∀ s, (QaN c s).length ≤ s.length + 1 ∧ ∀ w ∈ QaN c s, w.length ≤ s.length
 | [] => by simp [QaN]
 | x :: r => by
  obtain ⟨h1, h2⟩ := Qk2 c r
  unfold QaN
  split
  ·refine ⟨by simp; omega, fun w hw => ?_⟩
   rcases List.mem_cons.1 hw with rfl | hw
   ·simp
   ·have := h2 w hw; simp; omega
  ·split
   ·rename_i w ws hs
    rw [hs] at h1 h2
    refine ⟨by simp at h1 ⊢; omega, fun v hv => ?_⟩
    rcases List.mem_cons.1 hv with rfl | hv
    ·have := h2 w (List.mem_cons_self ..); simp; omega
    ·have := h2 v (List.mem_cons_of_mem _ hv); simp; omega
   ·refine ⟨by simp, fun v hv => ?_⟩
    simp only [List.mem_cons, List.not_mem_nil, or_false] at hv
    subst hv; simp
theorem Qwr (s : Bs) (c : UInt8) (hs : s.length ≤ 1000000000) : Ret lb QeK [.str s, .str [c]] (.list false (scv (QaN c s))) := by
 refine .lib rfl ?_
 unfold QjH
 simp only
 rw [if_pos ⟨by omega, by simp⟩, Qq5]
 rfl
end Go.Proofs
