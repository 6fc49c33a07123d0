/- What the functions of package text and of its reference answer: lines. Conditions: as each says. -/
import Derived.Test.YtmefepdgnkhagaaGreatDoorRc
import Derived.Test.YtmefepdgnkhagaaGreatDoorRv
import Derived.Laws.RangeAny
import Derived.Laws.RangeString
set_option linter.unusedSimpArgs false
namespace Go.Proofs
open Go.Am
variable (lb : Nat)
def sumLen (l : List Bs) : Nat := (l.map List.length).sum
theorem sumLen_cons (w : Bs) (l : List Bs) : sumLen (w :: l) = w.length + sumLen l := by simp [sumLen]
theorem sumLen_app (a b : List Bs) : sumLen (a ++ b) = sumLen a + sumLen b := by simp [sumLen]
theorem mem_sumLen {w : Bs} : ∀ {l : List Bs}, w ∈ l → w.length ≤ sumLen l
  | [], h => by cases h
  | x :: l, h => by
    rw [sumLen_cons]
    rcases List.mem_cons.1 h with rfl | h
    · omega
    · have := mem_sumLen h; omega
theorem joinB_len : ∀ l : List Bs, (joinB l).length ≤ 4 * sumLen l + 3 * l.length
  | [] => by simp [joinB]
  | [w] => by
    have := wordB_len w
    simp only [joinB, sumLen_cons, List.length_cons, List.length_nil]; omega
  | w :: x :: r => by
    have := wordB_len w
    have := joinB_len (x :: r)
    rw [joinB_cons w (by simp), sumLen_cons]
    simp only [List.length_append, List.length_cons] at this ⊢; omega

/-! splitting a line -/
def cutR (ps : List Bs) (o : Option (List Bs)) : CV := match o with
  | some l => .tup [.list false (scv (ps ++ l)), .bool true]
  | none => .tup [.list true [], .bool false]
theorem dec_byte (s : Bs) {i : Nat} {c : UInt8} (h : s[i]? = some c) : (c.toNat < 128 → Utf8.decode ⟨s.toArray⟩ i = (c.toNat, 1)) ∧ (128 ≤ c.toNat → 126 < (Utf8.decode ⟨s.toArray⟩ i).1) := by
  obtain ⟨hl, hc⟩ := List.getElem?_eq_some_iff.1 h
  have hsz : i < (⟨s.toArray⟩ : ByteArray).size := by simpa [ByteArray.size] using hl
  have hg : ((⟨s.toArray⟩ : ByteArray)[i]'hsz) = c := hc
  refine ⟨fun q => ?_, fun q => ?_⟩
  · rw [decode_ascii _ _ hsz (by rw [hg]; exact q), hg]
  · have := (decode_high ⟨s.toArray⟩ i hsz (by rw [hg]; exact q)).1
    omega
/-- the words of a line, or the error -/
def wordsV (bn : Bool) (o : Option (List Bs)) : CV := match o with
  | some l => .tup [.list bn (scv l), .int .i64 0]
  | none => .tup [.list true [], .int .i64 3]
theorem join_sum : ∀ ps : List Bs, sumLen ps ≤ (Lib.join ps [32]).length ∧ ps.length ≤ (Lib.join ps [32]).length + 1
  | [] => by simp [sumLen, Lib.join]
  | [w] => by simp [sumLen, Lib.join]
  | w :: x :: r => by
    have := join_sum (x :: r)
    have e : Lib.join (w :: x :: r) [32] = w ++ 32 :: Lib.join (x :: r) [32] := by simp [Lib.join, List.intercalate]
    rw [e, sumLen_cons]
    simp only [List.length_append, List.length_cons] at this ⊢
    omega
/-! writing a line -/
theorem scv_isEmpty (l : List Bs) : (scv l).isEmpty = l.isEmpty := by cases l <;> rfl
end Go.Proofs
