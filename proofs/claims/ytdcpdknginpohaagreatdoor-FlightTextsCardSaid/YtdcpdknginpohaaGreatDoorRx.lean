/- What the functions of package text and of its reference answer: names; splitting at a byte. Conditions: as each says. -/
import Derived.Test.YtdcpdknginpohaaGreatDoorRc
import Derived.Lib.SplitLaws
set_option linter.unusedSimpArgs false
namespace Go.Proofs
open Go.Am
variable (lb : Nat)
/-- a text, split at a byte -/
def splitC (c : UInt8) : Bs → List Bs
  | [] => [[]]
  | x :: r => if x = c then [] :: splitC c r else match splitC c r with
    | w :: ws => (x :: w) :: ws
    | [] => [[x]]
theorem splitC_ne (c : UInt8) : ∀ s, splitC c s ≠ []
  | [] => by simp [splitC]
  | x :: r => by
    unfold splitC
    split
    · simp
    · split <;> simp
theorem index_cons_eq (c : UInt8) (l : Bs) : Lib.index (c :: l) [c] = 0 := by
  rw [Lib.index]
  simp
theorem index_cons_ne {b c : UInt8} (l : Bs) (h : b ≠ c) : Lib.index (b :: l) [c] = if Lib.index l [c] = -1 then -1 else Lib.index l [c] + 1 := by
  rw [Lib.index]
  have : ¬ c = b := fun q => h q.symm
  simp [this]
theorem count_index {c : UInt8} {l : Bs} (h : Lib.count l [c] ≠ 0) : Lib.index l [c] ≠ -1 := by
  intro q
  apply h
  unfold Lib.count
  rw [Lib.countFrom]
  simp [q]
theorem splitK_hit {c : UInt8} {k : Nat} {l : Bs} (h : Lib.index l [c] ≠ -1) : Lib.splitK [c] 0 (k + 1) l = l.take (Lib.index l [c]).toNat :: Lib.splitK [c] 0 k (l.drop ((Lib.index l [c]).toNat + 1)) := by
  rw [Lib.splitK]
  have : (Lib.index l [c] == -1) = false := by simpa using h
  simp [this]
theorem split_one (c : UInt8) : ∀ s : Bs, Lib.split s [c] = splitC c s
  | [] => by simp [Lib.split, Lib.count, Lib.countFrom, Lib.index, splitC, Lib.splitK]
  | x :: l => by
    have ih := split_one c l
    unfold Lib.split at ih ⊢
    by_cases h : x = c
    · subst h
      rw [Lib.count_cons_eq, Nat.add_comm 1, splitK_hit (by rw [index_cons_eq]; decide), index_cons_eq]
      simp only [splitC, if_true]
      simpa using ih
    · rw [Lib.count_cons_ne x c l h]
      cases hk : Lib.count l [c] with
      | zero =>
        rw [hk] at ih
        simp only [Lib.splitK] at ih ⊢
        simp [splitC, h, ← ih]
      | succ k =>
        have hi := count_index (c := c) (l := l) (by omega)
        have hge := Lib.index_ge l [c]
        rw [hk, splitK_hit hi] at ih
        have hx : Lib.index (x :: l) [c] = Lib.index l [c] + 1 := by rw [index_cons_ne l h, if_neg hi]
        rw [splitK_hit (by rw [hx]; omega), hx]
        obtain ⟨i, hi'⟩ : ∃ i : Nat, Lib.index l [c] = i := ⟨(Lib.index l [c]).toNat, by omega⟩
        rw [hi'] at ih ⊢
        rw [show ((i : Int) + 1).toNat = i + 1 by omega, List.take_succ_cons, List.drop_succ_cons]
        rw [Int.toNat_natCast] at ih
        simp [splitC, h, ← ih]
theorem splitC_len (c : UInt8) : ∀ s, (splitC c s).length ≤ s.length + 1 ∧ ∀ w ∈ splitC c s, w.length ≤ s.length
  | [] => by simp [splitC]
  | x :: r => by
    obtain ⟨h1, h2⟩ := splitC_len c r
    unfold splitC
    split
    · refine ⟨by simp; omega, fun w hw => ?_⟩
      rcases List.mem_cons.1 hw with rfl | hw
      · simp
      · have := h2 w hw; simp; omega
    · split
      · rename_i w ws hs
        rw [hs] at h1 h2
        refine ⟨by simp at h1 ⊢; omega, fun v hv => ?_⟩
        rcases List.mem_cons.1 hv with rfl | hv
        · have := h2 w (List.mem_cons_self ..); simp; omega
        · have := h2 v (List.mem_cons_of_mem _ hv); simp; omega
      · refine ⟨by simp, fun v hv => ?_⟩
        simp only [List.mem_cons, List.not_mem_nil, or_false] at hv
        subst hv; simp
theorem split_ret (s : Bs) (c : UInt8) (hs : s.length ≤ 1000000000) : Ret lb F_strings_Split [.str s, .str [c]] (.list false (scv (splitC c s))) := by
  refine .lib rfl ?_
  unfold lib_Split
  simp only
  rw [if_pos ⟨by omega, by simp⟩, split_one]
  rfl
end Go.Proofs
