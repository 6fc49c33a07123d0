/- What the functions of package text and of its reference answer: lines. Conditions: as each says. -/
import Derived.Test.YtgkcpfhahphaiaaDoorRc
import Derived.Test.YtgkcpfhahphaiaaDoorRv
import Derived.Laws.RangeAny
import Derived.Laws.RangeString
set_option linter.unusedSimpArgs false
namespace Go.Proofs
open Go.Am
variable (lb : Bool)
def sumLen (l : List Bs) : Nat := (l.map List.length).sum
theorem sumLen_cons (w : Bs) (l : List Bs) : sumLen (w :: l) = w.length + sumLen l := by simp [sumLen]
theorem sumLen_app (a b : List Bs) : sumLen (a ++ b) = sumLen a + sumLen b := by simp [sumLen]
theorem mem_sumLen {w : Bs} : ∀ {l : List Bs}, w ∈ l → w.length ≤ sumLen l
  | [], h => by cases h
  | x :: l, h => by
    rw [sumLen_cons]
    rcases List.mem_cons.1 h with rfl | h
    · omega
    · have := mem_sumLen h; omega
theorem joinB_len : ∀ l : List Bs, (joinB l).length ≤ 4 * sumLen l + 3 * l.length
  | [] => by simp [joinB]
  | [w] => by
    have := wordB_len w
    simp only [joinB, sumLen_cons, List.length_cons, List.length_nil]; omega
  | w :: x :: r => by
    have := wordB_len w
    have := joinB_len (x :: r)
    rw [joinB_cons w (by simp), sumLen_cons]
    simp only [List.length_append, List.length_cons] at this ⊢; omega

/-! splitting a line -/
def cutR (ps : List Bs) (o : Option (List Bs)) : CV := match o with
  | some l => .tup [.list false (scv (ps ++ l)), .bool true]
  | none => .tup [.list true [], .bool false]
theorem dec_byte (s : Bs) {i : Nat} {c : UInt8} (h : s[i]? = some c) : (c.toNat < 128 → Utf8.decode ⟨s.toArray⟩ i = (c.toNat, 1)) ∧ (128 ≤ c.toNat → 126 < (Utf8.decode ⟨s.toArray⟩ i).1) := by
  obtain ⟨hl, hc⟩ := List.getElem?_eq_some_iff.1 h
  have hsz : i < (⟨s.toArray⟩ : ByteArray).size := by simpa [ByteArray.size] using hl
  have hg : ((⟨s.toArray⟩ : ByteArray)[i]'hsz) = c := hc
  refine ⟨fun q => ?_, fun q => ?_⟩
  · rw [decode_ascii _ _ hsz (by rw [hg]; exact q), hg]
  · have := (decode_high ⟨s.toArray⟩ i hsz (by rw [hg]; exact q)).1
    omega
/-- the words of a line, or the error -/
def wordsV (bn : Bool) (o : Option (List Bs)) : CV := match o with
  | some l => .tup [.list bn (scv l), .int .i64 0]
  | none => .tup [.list true [], .int .i64 3]
theorem join_sum : ∀ ps : List Bs, sumLen ps ≤ (Lib.join ps [32]).length ∧ ps.length ≤ (Lib.join ps [32]).length + 1
  | [] => by simp [sumLen, Lib.join]
  | [w] => by simp [sumLen, Lib.join]
  | w :: x :: r => by
    have := join_sum (x :: r)
    have e : Lib.join (w :: x :: r) [32] = w ++ 32 :: Lib.join (x :: r) [32] := by simp [Lib.join, List.intercalate]
    rw [e, sumLen_cons]
    simp only [List.length_append, List.length_cons] at this ⊢
    omega
/-! writing a line -/
theorem tjoin_loop (an : Bool) (l : List Bs) (hl : l.length ≤ 1000000000) (hm : ∀ w ∈ l, w.length ≤ 1000000000) :
    ∀ t p, p ++ t = l → Evt fun n => ∀ k, t.length < k → text_Join_L1 lb n k an (scv l) (scv (p.map wordB)) (p.length : Int) = text_Join_J2 lb n an (scv l) false (scv (l.map wordB))
  | [], p, h => .all fun n k hk => by
    obtain ⟨k, rfl⟩ : ∃ m, k = m + 1 := ⟨k - 1, by simp at hk; omega⟩
    have : p = l := by simpa using h
    rw [text_Join_L1_succ, decF (by rw [this, scv_len]; omega), cond_false, this]
  | w :: t, p, h => by
    have hll : l.length = p.length + (t.length + 1) := by rw [← h]; simp
    have hat : atL (scv l) (p.length : Int) = some [.str w] := atL_ok (scv_get (by rw [← h]; simp))
    have hw := hm w (by rw [← h]; simp)
    refine (tjoin_loop an l hl hm t (p ++ [w]) (by rw [← h]; simp)).imp2 ((text_plain_ret lb w (Nat.le_trans hw (by decide))).and (text_Quote_ret lb w hw)) fun n hn ⟨h1, h2⟩ k hk => ?_
    obtain ⟨k, rfl⟩ : ∃ m, k = m + 1 := ⟨k - 1, by simp at hk; omega⟩
    have hn := hn k (by simp at hk; omega)
    have r1 : room ((scv (p.map wordB)).length + 1) 16 = true := room_ok (by rw [scv_len, List.length_map]; omega)
    rw [text_Join_L1_succ]
    simp only [decT (show (p.length : Int) < ((scv l).length : Int) by rw [scv_len]; omega), cond_true, hat, optO_s, List.length_cons, List.length_nil, Nat.zero_add, beq_self_eq_true, chkO_t, get0, h1, h2, asB_b, isCell_str, r1,
      wrap64 (x := (p.length : Int) + 1) (by omega) (by omega)]
    rw [show (p.length : Int) + 1 = ((p ++ [w]).length : Int) by simp]
    rw [← hn]
    cases hp : plainB w
    · simp [wordB, hp, scv]
    · simp [wordB, hp, scv]
theorem text_Join_ret (an : Bool) (l : List Bs) (hl : l.length ≤ 100000000) (hm : sumLen l ≤ 100000000) : Ret lb F_text_Join [.list an (scv l)] (.str (joinB l)) := by
  refine .top rfl (.eq (fun n => by rw [text_Join_eq]) ?_)
  refine .chk (by simp [scv_len]; omega) ?_
  refine (Evt.diag (m := l.length) (P := fun n k => text_Join_L1 lb n k an (scv l) [] 0 = text_Join_J2 lb n an (scv l) false (scv (l.map wordB))) (tjoin_loop lb an l (by omega) (fun w hw => by have := mem_sumLen hw; omega) l [] rfl)).imp2 (Q := fun n => C lb n F_strings_Join [.list false (scv (l.map wordB)), .str [32]] = some (.str (joinB l))) ?_ fun n hn hj => ?_
  · have hb := joinB_len l
    refine Ret.lib rfl ?_
    unfold lib_Join
    simp only [strsOf_scv]
    rw [if_pos ⟨by rw [List.length_map]; omega, by rw [← joinB_eq]; omega⟩, ← joinB_eq]
  · rw [hn, text_Join_J2_eq, hj]
    rfl
theorem scv_isEmpty (l : List Bs) : (scv l).isEmpty = l.isEmpty := by cases l <;> rfl
end Go.Proofs
