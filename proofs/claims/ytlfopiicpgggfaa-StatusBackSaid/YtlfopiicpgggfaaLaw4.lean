/- StatusBack on plain data. Conditions: none. -/
import Derived.Test.YtlfopiicpgggfaaG31
namespace Go.Proofs
open Go.Am
theorem C29 (f : FuncId) (args : List CV) : C 29 f args = top 28 f args := C_top 28 f args rfl
theorem knows_ok : C 29 18 [] = some (.bool true) := by kernel_rfl
theorem parse_eq (s : List UInt8) : C 29 10 [.str s] =
    bif ([72, 75] == s) then some (.tup [.int .i64 1, .int .i64 0]) else bif ([72, 76] == s) then some (.tup [.int .i64 2, .int .i64 0]) else
    bif ([75, 76] == s) then some (.tup [.int .i64 3, .int .i64 0]) else bif ([84, 75] == s) then some (.tup [.int .i64 4, .int .i64 0]) else
    bif ([85, 78] == s) then some (.tup [.int .i64 5, .int .i64 0]) else bif ([85, 67] == s) then some (.tup [.int .i64 6, .int .i64 0]) else
    bif ([88, 88] == s) then some (.tup [.int .i64 7, .int .i64 0]) else some (.tup [.int .i64 0, .int .i64 3]) := by
  rw [C29]; kernel_rfl
theorem text1 : C 29 8 [.int .i64 1] = some (.tup [.str [72, 75], .int .i64 0]) := by kernel_rfl
theorem text2 : C 29 8 [.int .i64 2] = some (.tup [.str [72, 76], .int .i64 0]) := by kernel_rfl
theorem text3 : C 29 8 [.int .i64 3] = some (.tup [.str [75, 76], .int .i64 0]) := by kernel_rfl
theorem text4 : C 29 8 [.int .i64 4] = some (.tup [.str [84, 75], .int .i64 0]) := by kernel_rfl
theorem text5 : C 29 8 [.int .i64 5] = some (.tup [.str [85, 78], .int .i64 0]) := by kernel_rfl
theorem text6 : C 29 8 [.int .i64 6] = some (.tup [.str [85, 67], .int .i64 0]) := by kernel_rfl
theorem text7 : C 29 8 [.int .i64 7] = some (.tup [.str [88, 88], .int .i64 0]) := by kernel_rfl
theorem text_out {a : Int} (h : a < 1 ∨ 7 < a) : C 29 8 [.int .i64 a] = some (.tup [.str [], .int .i64 8]) := by
  rw [C29, f8_eq]
  rcases h with h | h
  · simp [h]
  · have : ¬ a < 1 := by omega
    simp [h, this]
theorem parse_none : C 29 10 [.str []] = some (.tup [.int .i64 0, .int .i64 3]) := by kernel_rfl
/-- the law's second half -/
noncomputable def back2 (s : List UInt8) : Option CV :=
  optO (C 29 10 [.str s]) fun r16 =>
  optO (CV.asT r16) fun t17 =>
  optO (t17[0]?) fun x18 =>
  optO (CV.asT r16) fun t19 =>
  optO (t19[1]?) fun x20 =>
  optO (C 29 8 [x18]) fun r21 =>
  optO (CV.asT r21) fun t22 =>
  optO (t22[0]?) fun x23 =>
  optO (CV.asT r21) fun t24 =>
  optO (t24[1]?) fun x25 =>
  optO (CV.asI .i64 x20) fun i26 =>
  bif (i26 != 0) then
  (optO (C 29 18 []) fun r27 =>
  some (r27))
  else
  (optO (CV.asI .i64 x25) fun i28 =>
  bif (i28 == 0) then
  (optO (CV.asS x23) fun s29 =>
  bif (s29 == s) then
  (optO (C 29 18 []) fun r30 =>
  some (r30))
  else
  (some (.bool false)))
  else
  (some (.bool false)))
theorem back2_ok (s : List UInt8) : back2 s = some (.bool true) := by
  unfold back2
  rw [parse_eq]
  by_cases h1 : [72, 75] = s
  · subst h1; simp [optO, CV.asT, CV.asI, CV.asS, text1, knows_ok]
  by_cases h2 : [72, 76] = s
  · subst h2; simp [optO, CV.asT, CV.asI, CV.asS, text2, knows_ok]
  by_cases h3 : [75, 76] = s
  · subst h3; simp [optO, CV.asT, CV.asI, CV.asS, text3, knows_ok]
  by_cases h4 : [84, 75] = s
  · subst h4; simp [optO, CV.asT, CV.asI, CV.asS, text4, knows_ok]
  by_cases h5 : [85, 78] = s
  · subst h5; simp [optO, CV.asT, CV.asI, CV.asS, text5, knows_ok]
  by_cases h6 : [85, 67] = s
  · subst h6; simp [optO, CV.asT, CV.asI, CV.asS, text6, knows_ok]
  by_cases h7 : [88, 88] = s
  · subst h7; simp [optO, CV.asT, CV.asI, CV.asS, text7, knows_ok]
  have hb : ∀ l : List UInt8, ¬ l = s → (l == s) = false := fun l h => by simpa using h
  simp [hb _ h1, hb _ h2, hb _ h3, hb _ h4, hb _ h5, hb _ h6, hb _ h7, optO, CV.asT, CV.asI, text_out (a := 0) (.inl (by decide)), knows_ok]
theorem statusBack_ok (n : Int) (s : List UInt8) : C 30 4 [.int .i64 n, .str s] = some (.bool true) := by
  rw [show C 30 4 [.int .i64 n, .str s] = top 29 4 [.int .i64 n, .str s] from C_top 29 4 _ rfl, f4_eq]
  have hs := back2_ok s
  unfold back2 at hs
  by_cases hn : n < 1 ∨ 7 < n
  · rw [text_out hn]
    refine Eq.trans (b := optO (C 29 10 [.str []]) fun r8 => optO (CV.asT r8) fun t9 => optO (t9[0]?) fun _ => optO (CV.asT r8) fun t11 => optO (t11[1]?) fun _ => back2 s) (by kernel_rfl) ?_
    rw [parse_none]
    simp [optO, CV.asT, back2_ok]
  · have : n = 1 ∨ n = 2 ∨ n = 3 ∨ n = 4 ∨ n = 5 ∨ n = 6 ∨ n = 7 := by omega
    rcases this with rfl | rfl | rfl | rfl | rfl | rfl | rfl
    all_goals
      simp only [text1, text2, text3, text4, text5, text6, text7]
      simp only [optO, CV.asT, List.getElem?_cons_zero, List.getElem?_cons_succ, parse_eq, CV.asI] at hs ⊢
      simp at hs ⊢
      exact hs
end Go.Proofs
