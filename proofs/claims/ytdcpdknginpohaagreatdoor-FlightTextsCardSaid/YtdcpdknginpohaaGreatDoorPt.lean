/- Quoted texts, words and lines on plain data. Conditions: none; definitions and laws. -/
import Derived.Test.YtdcpdknginpohaaGreatDoorLib
set_option linter.unusedSimpArgs false
namespace Go.Proofs
abbrev Bs := List UInt8
theorem u8_all {P : UInt8 → Prop} (h : ∀ k, k < 256 → P (UInt8.ofNat k)) (c : UInt8) : P c := by
  have := h c.toNat c.toNat_lt
  simpa using this
theorem u8_ext {a b : UInt8} (h : a.toNat = b.toNat) : a = b := UInt8.toNat_inj.1 h

def hexB (n : Nat) : UInt8 := if n < 10 then UInt8.ofNat (48 + n) else UInt8.ofNat (87 + n)
def hexV (c : UInt8) : Option Nat := if 48 ≤ c.toNat ∧ c.toNat ≤ 57 then some (c.toNat - 48) else if 97 ≤ c.toNat ∧ c.toNat ≤ 102 then some (c.toNat - 87) else none
theorem hexV_hexB : ∀ n, n < 16 → hexV (hexB n) = some n := by decide +kernel
theorem hexB_nat : ∀ n, n < 16 → (hexB n).toNat = if n < 10 then 48 + n else 87 + n := by decide +kernel
theorem hexV_some {c : UInt8} {n : Nat} (h : hexV c = some n) : c = hexB n ∧ n < 16 := by
  unfold hexV at h
  have e : ∀ m, m < 16 → c.toNat = (if m < 10 then 48 + m else 87 + m) → c = hexB m := fun m hm q => u8_ext (by rw [q, hexB_nat m hm])
  split at h
  · simp only [Option.some.injEq] at h
    refine ⟨e n (by omega) ?_, by omega⟩
    rw [if_pos (by omega)]; omega
  · split at h
    · simp only [Option.some.injEq] at h
      refine ⟨e n (by omega) ?_, by omega⟩
      rw [if_neg (by omega)]; omega
    · cases h

/-- a byte of a quoted text -/
def esc (c : UInt8) : Bs := if c.toNat = 34 ∨ c.toNat = 92 then [92, c] else if c.toNat < 32 ∨ 126 < c.toNat then [92, 120, hexB (c.toNat / 16), hexB (c.toNat % 16)] else [c]
def quo (s : Bs) : Bs := 34 :: (s.flatMap esc ++ [34])
/-- what stands between quotation marks -/
def unqI : Bs → Option Bs
  | [] => some []
  | c :: r =>
    if c.toNat = 34 ∨ c.toNat < 32 ∨ 126 < c.toNat then none
    else if c.toNat = 92 then
      match r with
      | [] => none
      | d :: r' =>
        if d.toNat = 34 ∨ d.toNat = 92 then (unqI r').map (d :: ·)
        else if d.toNat = 120 then
          match r' with
          | h :: l :: r'' => match hexV h, hexV l with
            | some a, some b => if 32 ≤ 16 * a + b ∧ 16 * a + b ≤ 126 then none else (unqI r'').map (UInt8.ofNat (16 * a + b) :: ·)
            | _, _ => none
          | _ => none
        else none
    else (unqI r).map (c :: ·)
theorem unqI_cons (c : UInt8) (r : Bs) : unqI (c :: r) =
    if c.toNat = 34 ∨ c.toNat < 32 ∨ 126 < c.toNat then none
    else if c.toNat = 92 then
      match r with
      | [] => none
      | d :: r' =>
        if d.toNat = 34 ∨ d.toNat = 92 then (unqI r').map (d :: ·)
        else if d.toNat = 120 then
          match r' with
          | h :: l :: r'' => match hexV h, hexV l with
            | some a, some b => if 32 ≤ 16 * a + b ∧ 16 * a + b ≤ 126 then none else (unqI r'').map (UInt8.ofNat (16 * a + b) :: ·)
            | _, _ => none
          | _ => none
        else none
    else (unqI r).map (c :: ·) := unqI.eq_def (c :: r)
theorem esc_len (c : UInt8) : 1 ≤ (esc c).length ∧ (esc c).length ≤ 4 := by
  unfold esc
  split
  · simp
  · split <;> simp
theorem unqI_esc (c : UInt8) (r : Bs) : unqI (esc c ++ r) = (unqI r).map (c :: ·) := by
  unfold esc
  split
  · rename_i h
    simp only [List.cons_append, List.nil_append]
    rw [unqI_cons]
    simp [h]
  · rename_i h
    split
    · rename_i h2
      have hc : c.toNat < 256 := c.toNat_lt
      simp only [List.cons_append, List.nil_append]
      rw [unqI_cons]
      have h3 : ¬ (32 ≤ 16 * (c.toNat / 16) + c.toNat % 16 ∧ 16 * (c.toNat / 16) + c.toNat % 16 ≤ 126) := by omega
      have h4 : UInt8.ofNat (16 * (c.toNat / 16) + c.toNat % 16) = c := by
        rw [show 16 * (c.toNat / 16) + c.toNat % 16 = c.toNat by omega]; simp
      simp [hexV_hexB _ (show c.toNat / 16 < 16 by omega), hexV_hexB _ (show c.toNat % 16 < 16 by omega), h3, h4]
    · rename_i h2
      simp only [List.cons_append, List.nil_append]
      rw [unqI_cons]
      have h3 : ¬ (c.toNat = 34 ∨ c.toNat < 32 ∨ 126 < c.toNat) := by omega
      have h4 : ¬ c.toNat = 92 := by omega
      simp [h3, h4]
theorem unqI_flat : ∀ (b r : Bs), unqI (b.flatMap esc ++ r) = (unqI r).map (b ++ ·)
  | [], r => by simp
  | c :: b, r => by
    rw [List.flatMap_cons, List.append_assoc, unqI_esc, unqI_flat b r]
    cases unqI r <;> simp
theorem unqI_of (b : Bs) : unqI (b.flatMap esc) = some b := by
  have := unqI_flat b []
  simpa [unqI] using this
theorem unqI_some : ∀ (n : Nat) (r b : Bs), r.length ≤ n → unqI r = some b → r = b.flatMap esc
  | 0, r, b, hn, h => by
    have : r = [] := List.eq_nil_of_length_eq_zero (by omega)
    subst this
    simp [unqI] at h
    subst h; rfl
  | n + 1, [], b, hn, h => by
    simp [unqI] at h
    subst h; rfl
  | n + 1, c :: r, b, hn, h => by
    rw [unqI_cons] at h
    split at h
    · cases h
    rename_i h1
    split at h
    · rename_i h2
      split at h
      · cases h
      rename_i d r'
      have ec : c = 92 := u8_ext h2
      split at h
      · rename_i h3
        simp only [Option.map_eq_some_iff] at h
        obtain ⟨b', hb, rfl⟩ := h
        have := unqI_some n r' b' (by simp at hn; omega) hb
        rw [List.flatMap_cons, ← this]
        unfold esc
        rw [if_pos h3, ec]; rfl
      · split at h
        · rename_i h3 h4
          split at h
          · rename_i x y r''
            split at h
            · rename_i a e ha he
              split at h
              · cases h
              · rename_i h5
                simp only [Option.map_eq_some_iff] at h
                obtain ⟨b', hb, rfl⟩ := h
                have := unqI_some n r'' b' (by simp at hn; omega) hb
                obtain ⟨ea, ha'⟩ := hexV_some ha
                obtain ⟨ee, he'⟩ := hexV_some he
                have hn' : (UInt8.ofNat (16 * a + e)).toNat = 16 * a + e := by simp; omega
                rw [List.flatMap_cons, ← this]
                unfold esc
                rw [hn', if_neg (by omega), if_pos (by omega), show (16 * a + e) / 16 = a by omega, show (16 * a + e) % 16 = e by omega, ec, ← ea, ← ee, show d = 120 from u8_ext h4]
                rfl
            · cases h
          · cases h
        · cases h
    · rename_i h2
      simp only [Option.map_eq_some_iff] at h
      obtain ⟨b', hb, rfl⟩ := h
      have := unqI_some n r b' (by simp at hn; omega) hb
      rw [List.flatMap_cons, ← this]
      unfold esc
      rw [if_neg (by omega), if_neg (by omega)]; rfl
theorem flat_inj {a b : Bs} (h : a.flatMap esc = b.flatMap esc) : a = b := by
  have h1 := unqI_of a
  rw [h, unqI_of b] at h1
  simpa using h1.symm
theorem quo_inj {a b : Bs} (h : quo a = quo b) : a = b := by
  unfold quo at h
  simp only [List.cons.injEq, true_and] at h
  exact flat_inj (List.append_cancel_right h)
theorem flat_len : ∀ b : Bs, b.length ≤ (b.flatMap esc).length ∧ (b.flatMap esc).length ≤ 4 * b.length
  | [] => by simp
  | c :: b => by
    have := flat_len b
    have := esc_len c
    rw [List.flatMap_cons, List.length_append, List.length_cons]; omega
theorem quo_len (b : Bs) : 2 + b.length ≤ (quo b).length ∧ (quo b).length ≤ 4 * b.length + 2 := by
  have := flat_len b
  simp only [quo, List.length_cons, List.length_append, List.length_nil]; omega
/-- a quoted text is read -/
def unq (s : Bs) : Option Bs := if 2 ≤ s.length ∧ s.head? = some 34 ∧ s.getLast? = some 34 then unqI ((s.take (s.length - 1)).drop 1) else none
theorem unq_quo (b : Bs) : unq (quo b) = some b := by
  unfold unq
  have := quo_len b
  rw [if_pos ⟨by omega, by simp [quo], by simp [quo, List.getLast?_cons, List.getLast?_append]⟩]
  have : ((quo b).take ((quo b).length - 1)).drop 1 = b.flatMap esc := by
    unfold quo
    simp
  rw [this, unqI_of]
theorem unq_some {s b : Bs} (h : unq s = some b) : s = quo b := by
  unfold unq at h
  split at h
  · rename_i hc
    have := unqI_some _ _ _ (Nat.le_refl _) h
    unfold quo
    rw [← this]
    obtain ⟨h1, h2, h3⟩ := hc
    match s, h1, h2, h3 with
    | c :: r, h1, h2, h3 =>
      simp only [List.head?_cons, Option.some.injEq] at h2
      subst h2
      have hr : r ≠ [] := by intro q; subst q; simp at h1
      have h4 : r.getLast? = some 34 := by
        rw [List.getLast?_cons] at h3
        cases hx : r.getLast? with
        | none => simp at hx; exact (hr hx).elim
        | some x => rw [hx] at h3; simpa using h3
      congr 1
      simp only [List.length_cons, Nat.add_sub_cancel]
      rw [show r.length = (r.length - 1) + 1 by have := List.length_pos_iff.2 hr; omega, List.take_succ_cons, List.drop_succ_cons, List.drop_zero, ← List.dropLast_eq_take]
      rw [List.getLast?_eq_some_getLast hr, Option.some.injEq] at h4
      rw [← h4, List.dropLast_concat_getLast]
  · cases h
theorem unq_iff {s b : Bs} : unq s = some b ↔ s = quo b := ⟨unq_some, fun h => h ▸ unq_quo b⟩

/-- a byte of a plain word -/
def isPl (c : UInt8) : Bool := decide (32 < c.toNat) && decide (c.toNat ≤ 126) && !(c.toNat == 34)
def plainB (s : Bs) : Bool := !s.isEmpty && s.all isPl
def wordB (w : Bs) : Bs := if plainB w then w else quo w
def joinB : List Bs → Bs
  | [] => []
  | [w] => wordB w
  | w :: r => wordB w ++ 32 :: joinB r
theorem joinB_cons (w : Bs) {r : List Bs} (h : r ≠ []) : joinB (w :: r) = wordB w ++ 32 :: joinB r := by
  cases r with
  | nil => exact (h rfl).elim
  | cons x r => rfl
theorem joinB_eq : ∀ l : List Bs, joinB l = Lib.join (l.map wordB) [32]
  | [] => rfl
  | [w] => by simp [joinB, Lib.join]
  | w :: x :: r => by
    rw [joinB_cons w (by simp), joinB_eq (x :: r)]
    simp [Lib.join, List.intercalate]
theorem joinB_append : ∀ {a b : List Bs}, a ≠ [] → b ≠ [] → joinB (a ++ b) = joinB a ++ 32 :: joinB b
  | [], _, h, _ => (h rfl).elim
  | [w], b, _, hb => by simp [joinB, joinB_cons w hb]
  | w :: x :: r, b, _, hb => by
    rw [List.cons_append, joinB_cons w (by simp), joinB_append (a := x :: r) (by simp) hb, joinB_cons w (by simp)]
    simp
theorem wordB_ne (w : Bs) : wordB w ≠ [] := by
  unfold wordB
  split
  · rename_i h
    intro q; subst q; simp [plainB] at h
  · simp [quo]
theorem joinB_nil {l : List Bs} (h : joinB l = []) : l = [] := by
  match l with
  | [] => rfl
  | [w] => exact (wordB_ne w h).elim
  | w :: x :: r => rw [joinB_cons w (by simp)] at h; simp at h
theorem wordB_len (w : Bs) : w.length ≤ (wordB w).length ∧ (wordB w).length ≤ 4 * w.length + 2 := by
  unfold wordB
  have := quo_len w
  split <;> omega

/-- a line, split at the spaces that are not quoted -/
def cutB : Bs → Bs → Bool → Bool → Option (List Bs)
  | [], cur, _, _ => some [cur]
  | c :: r, cur, q, e =>
    if c.toNat < 32 ∨ 126 < c.toNat then none
    else if e then cutB r (cur ++ [c]) q false
    else if q ∧ c.toNat = 92 then cutB r (cur ++ [c]) q true
    else if c.toNat = 34 then cutB r (cur ++ [c]) (!q) false
    else if c.toNat = 32 ∧ !q then (cutB r [] false false).map (cur :: ·)
    else cutB r (cur ++ [c]) q false
theorem cutB_some : ∀ {s cur : Bs} {q e : Bool} {ps : List Bs}, cutB s cur q e = some ps → ps ≠ [] ∧ Lib.join ps [32] = cur ++ s
  | [], cur, q, e, ps, h => by
    simp only [cutB, Option.some.injEq] at h
    subst h
    simp [Lib.join]
  | c :: r, cur, q, e, ps, h => by
    rw [cutB] at h
    have step : ∀ {q e}, cutB r (cur ++ [c]) q e = some ps → ps ≠ [] ∧ Lib.join ps [32] = cur ++ c :: r := by
      intro q e h
      have := cutB_some h
      simpa using this
    split at h
    · cases h
    split at h
    · exact step h
    split at h
    · exact step h
    split at h
    · exact step h
    split at h
    · rename_i hc
      simp only [Option.map_eq_some_iff] at h
      obtain ⟨ps', h, rfl⟩ := h
      obtain ⟨h1, h2⟩ := cutB_some h
      refine ⟨by simp, ?_⟩
      have ec : c = 32 := u8_ext hc.1
      cases ps' with
      | nil => exact (h1 rfl).elim
      | cons y ys =>
        have : Lib.join (cur :: y :: ys) [32] = cur ++ 32 :: Lib.join (y :: ys) [32] := by simp [Lib.join, List.intercalate]
        rw [this, h2, ec]; rfl
    · exact step h
theorem cutB_esc (c : UInt8) (r cur : Bs) : cutB (esc c ++ r) cur true false = cutB r (cur ++ esc c) true false := by
  unfold esc
  split
  · rename_i h
    have h2 : ¬ (c.toNat < 32 ∨ 126 < c.toNat) := by omega
    simp only [List.cons_append, List.nil_append]
    rw [cutB]
    simp only [show ¬ ((92 : UInt8).toNat < 32 ∨ 126 < (92 : UInt8).toNat) by decide, if_false, Bool.false_eq_true, show (92 : UInt8).toNat = 92 from rfl, and_true, if_true]
    rw [cutB]
    simp [h2]
  · rename_i h
    split
    · rename_i h2
      have hc : c.toNat < 256 := c.toNat_lt
      simp only [List.cons_append, List.nil_append]
      have hx : ∀ n, n < 16 → ¬ ((hexB n).toNat < 32 ∨ 126 < (hexB n).toNat) ∧ ¬ (hexB n).toNat = 92 ∧ ¬ (hexB n).toNat = 34 ∧ ¬ (hexB n).toNat = 32 := by decide +kernel
      obtain ⟨a1, a2, a3, a4⟩ := hx (c.toNat / 16) (by omega)
      obtain ⟨b1, b2, b3, b4⟩ := hx (c.toNat % 16) (by omega)
      rw [cutB]
      simp only [show ¬ ((92 : UInt8).toNat < 32 ∨ 126 < (92 : UInt8).toNat) by decide, if_false, Bool.false_eq_true, show (92 : UInt8).toNat = 92 from rfl, and_true, if_true]
      rw [cutB]
      simp only [show ¬ ((120 : UInt8).toNat < 32 ∨ 126 < (120 : UInt8).toNat) by decide, if_false, if_true]
      rw [cutB]
      simp only [a1, a2, a3, a4, if_false, Bool.false_eq_true, and_false, false_and]
      rw [cutB]
      simp only [b1, b2, b3, b4, if_false, Bool.false_eq_true, and_false, false_and]
      simp
    · rename_i h2
      simp only [List.cons_append, List.nil_append]
      rw [cutB]
      have h3 : ¬ c.toNat = 92 := by omega
      have h4 : ¬ c.toNat = 34 := by omega
      simp [h2, h3, h4]
theorem cutB_flat : ∀ (b r cur : Bs), cutB (b.flatMap esc ++ r) cur true false = cutB r (cur ++ b.flatMap esc) true false
  | [], r, cur => by simp
  | c :: b, r, cur => by
    rw [List.flatMap_cons, List.append_assoc, cutB_esc, cutB_flat b r]
    simp
theorem cutB_quo (b r cur : Bs) : cutB (quo b ++ r) cur false false = cutB r (cur ++ quo b) false false := by
  unfold quo
  simp only [List.cons_append, List.append_assoc, List.nil_append]
  rw [cutB]
  simp only [show ¬ ((34 : UInt8).toNat < 32 ∨ 126 < (34 : UInt8).toNat) by decide, if_false, Bool.false_eq_true, false_and, show (34 : UInt8).toNat = 34 from rfl, if_true, Bool.not_false]
  rw [cutB_flat, cutB]
  simp
theorem cutB_plain : ∀ (w r cur : Bs), w.all isPl = true → cutB (w ++ r) cur false false = cutB r (cur ++ w) false false
  | [], r, cur, _ => by simp
  | c :: w, r, cur, h => by
    simp only [List.all_cons, Bool.and_eq_true] at h
    obtain ⟨h1, h2⟩ := h
    simp only [isPl, Bool.and_eq_true, decide_eq_true_eq, Bool.not_eq_true', beq_eq_false_iff_ne] at h1
    simp only [List.cons_append]
    rw [cutB]
    have a1 : ¬ (c.toNat < 32 ∨ 126 < c.toNat) := by omega
    have a2 : ¬ c.toNat = 34 := h1.2
    have a3 : ¬ c.toNat = 32 := by omega
    simp only [a1, a2, a3, if_false, Bool.false_eq_true, false_and]
    rw [cutB_plain w r _ h2]
    simp
theorem cutB_word (w r cur : Bs) : cutB (wordB w ++ r) cur false false = cutB r (cur ++ wordB w) false false := by
  unfold wordB
  split
  · rename_i h
    simp only [plainB, Bool.and_eq_true] at h
    exact cutB_plain w r cur h.2
  · exact cutB_quo w r cur
theorem cutB_join : ∀ {l : List Bs}, l ≠ [] → cutB (joinB l) [] false false = some (l.map wordB)
  | [], h => (h rfl).elim
  | [w], _ => by
    have := cutB_word w [] []
    simpa [joinB, cutB] using this
  | w :: x :: r, _ => by
    rw [joinB_cons w (by simp), cutB_word, cutB]
    simp only [show ¬ ((32 : UInt8).toNat < 32 ∨ 126 < (32 : UInt8).toNat) by decide, if_false, Bool.false_eq_true, false_and, show (32 : UInt8).toNat = 32 from rfl, show ¬ (32 : Nat) = 34 by decide, true_and, Bool.not_false, if_true]
    rw [cutB_join (l := x :: r) (by simp)]
    simp
/-- a part of a line, read -/
def readW (p : Bs) : Option Bs := if plainB p then some p else match unq p with
  | some t => if plainB t then none else some t
  | none => none
theorem readW_word (w : Bs) : readW (wordB w) = some w := by
  unfold readW wordB
  cases h : plainB w with
  | true => simp [h]
  | false =>
    have : plainB (quo w) = false := by
      simp [plainB, quo, isPl]
    simp [h, this, unq_quo]
theorem readW_some {p w : Bs} (h : readW p = some w) : p = wordB w := by
  unfold readW at h
  split at h
  · rename_i hp
    simp only [Option.some.injEq] at h
    subst h
    simp [wordB, hp]
  · split at h
    · rename_i t ht
      split at h
      · cases h
      · rename_i hp
        simp only [Option.some.injEq] at h
        subst h
        simp [wordB, hp, unq_some ht]
    · cases h
/-- the words of a line -/
def wordsB (s : Bs) : Option (List Bs) := if s = [] then some [] else (cutB s [] false false).bind fun ps => ps.mapM readW
theorem mapM_word : ∀ l : List Bs, (l.map wordB).mapM readW = some l
  | [] => rfl
  | w :: l => by simp [readW_word, mapM_word l]
theorem mapM_some : ∀ {ps l : List Bs}, ps.mapM readW = some l → ps = l.map wordB
  | [], l, h => by
    simp at h; subst h; rfl
  | p :: ps, l, h => by
    simp only [List.mapM_cons, Option.bind_eq_bind, Option.bind_eq_some_iff, Option.pure_def, Option.some.injEq] at h
    obtain ⟨w, hw, l', hl, rfl⟩ := h
    rw [readW_some hw, mapM_some hl]; rfl
theorem wordsB_join (l : List Bs) : wordsB (joinB l) = some l := by
  unfold wordsB
  by_cases h : l = []
  · subst h; rfl
  · rw [if_neg fun q => h (joinB_nil q), cutB_join h, Option.bind_some, mapM_word]
theorem wordsB_some {s : Bs} {l : List Bs} (h : wordsB s = some l) : s = joinB l := by
  unfold wordsB at h
  split at h
  · rename_i q
    simp only [Option.some.injEq] at h
    subst h; exact q
  · simp only [Option.bind_eq_some_iff] at h
    obtain ⟨ps, hp, hl⟩ := h
    have := (cutB_some hp).2
    rw [mapM_some hl] at this
    rw [joinB_eq, this]; rfl
theorem wordsB_iff {s : Bs} {l : List Bs} : wordsB s = some l ↔ s = joinB l := ⟨wordsB_some, fun h => h ▸ wordsB_join l⟩
theorem joinB_inj {a b : List Bs} (h : joinB a = joinB b) : a = b := by
  have h1 := wordsB_join a
  rw [h, wordsB_join b] at h1
  simpa using h1.symm
end Go.Proofs
