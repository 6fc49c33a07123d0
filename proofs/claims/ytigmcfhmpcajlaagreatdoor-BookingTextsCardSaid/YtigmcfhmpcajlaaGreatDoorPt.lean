/- Quoted texts, words and lines on plain data. Conditions: none; definitions and laws. -/
import Derived.Test.YtigmcfhmpcajlaaGreatDoorLib
set_option linter.unusedSimpArgs false
namespace Go.Proofs
abbrev Bs := List UInt8
theorem QeI {P : UInt8 → Prop} (h : ∀ k, k < 256 → P (UInt8.ofNat k)) (c : UInt8) : P c := by
 have := h c.toNat c.toNat_lt
 simpa using this
theorem Qdd {a b : UInt8} (h : a.toNat = b.toNat) : a = b := UInt8.toNat_inj.1 h
def hexB (n : Nat) : UInt8 := if n < 10 then UInt8.ofNat (48 + n) else UInt8.ofNat (87 + n)
def hexV (c : UInt8) : Option Nat := if 48 ≤ c.toNat ∧ c.toNat ≤ 57 then some (c.toNat - 48) else if 97 ≤ c.toNat ∧ c.toNat ≤ 102 then some (c.toNat - 87) else none
theorem QrP : ∀ n, n < 16 → hexV (hexB n) = some n := by decide +kernel
theorem Qys : ∀ n, n < 16 → (hexB n).toNat = if n < 10 then 48 + n else 87 + n := by decide +kernel
theorem Qih {c : UInt8} {n : Nat} (h : hexV c = some n) : c = hexB n ∧ n < 16 := by
 unfold hexV at h
 have e : ∀ m, m < 16 → c.toNat = (if m < 10 then 48 + m else 87 + m) → c = hexB m := fun m hm q => Qdd (by rw [q, Qys m hm])
 split at h
 ·simp only [Option.some.injEq] at h
  refine ⟨e n (by omega) ?_, by omega⟩
  rw [if_pos (by omega)]; omega
 ·split at h
  ·simp only [Option.some.injEq] at h
   refine ⟨e n (by omega) ?_, by omega⟩
   rw [if_neg (by omega)]; omega
  ·cases h
def esc (c : UInt8) : Bs := if c.toNat = 34 ∨ c.toNat = 92 then [92, c] else if c.toNat < 32 ∨ 126 < c.toNat then [92, 120, hexB (c.toNat / 16), hexB (c.toNat % 16)] else [c]
def quo (s : Bs) : Bs := 34 :: (s.flatMap esc ++ [34])
def unqI : Bs → Option Bs
 | [] => some []
 | c :: r =>
  if c.toNat = 34 ∨ c.toNat < 32 ∨ 126 < c.toNat then none
  else if c.toNat = 92 then
   match r with
   | [] => none
   | d :: r' =>
    if d.toNat = 34 ∨ d.toNat = 92 then (unqI r').map (d :: ·)
    else if d.toNat = 120 then
     match r' with
     | h :: l :: r'' => match hexV h, hexV l with
      | some a, some b => if 32 ≤ 16 * a + b ∧ 16 * a + b ≤ 126 then none else (unqI r'').map (UInt8.ofNat (16 * a + b) :: ·)
      | _, _ => none
     | _ => none
    else none
  else (unqI r).map (c :: ·)
theorem Qfy (c : UInt8) (r : Bs) : unqI (c :: r) =
  if c.toNat = 34 ∨ c.toNat < 32 ∨ 126 < c.toNat then none
  else if c.toNat = 92 then
   match r with
   | [] => none
   | d :: r' =>
    if d.toNat = 34 ∨ d.toNat = 92 then (unqI r').map (d :: ·)
    else if d.toNat = 120 then
     match r' with
     | h :: l :: r'' => match hexV h, hexV l with
      | some a, some b => if 32 ≤ 16 * a + b ∧ 16 * a + b ≤ 126 then none else (unqI r'').map (UInt8.ofNat (16 * a + b) :: ·)
      | _, _ => none
     | _ => none
    else none
  else (unqI r).map (c :: ·) := unqI.eq_def (c :: r)
theorem Qzd (c : UInt8) : 1 ≤ (esc c).length ∧ (esc c).length ≤ 4 := by
 unfold esc
 split
 ·simp
 ·split <;> simp
theorem Qx9 (c : UInt8) (r : Bs) : unqI (esc c ++ r) = (unqI r).map (c :: ·) := by
 unfold esc
 split
 ·rename_i h
  simp only [List.cons_append, List.nil_append]
  rw [Qfy]
  simp [h]
 ·rename_i h
  split
  ·rename_i h2
   have hc : c.toNat < 256 := c.toNat_lt
   simp only [List.cons_append, List.nil_append]
   rw [Qfy]
   have h3 : ¬ (32 ≤ 16 * (c.toNat / 16) + c.toNat % 16 ∧ 16 * (c.toNat / 16) + c.toNat % 16 ≤ 126) := by omega
   have h4 : UInt8.ofNat (16 * (c.toNat / 16) + c.toNat % 16) = c := by
    rw [show 16 * (c.toNat / 16) + c.toNat % 16 = c.toNat by omega]; simp
   simp [QrP _ (show c.toNat / 16 < 16 by omega), QrP _ (show c.toNat % 16 < 16 by omega), h3, h4]
  ·rename_i h2
   simp only [List.cons_append, List.nil_append]
   rw [Qfy]
   have h3 : ¬ (c.toNat = 34 ∨ c.toNat < 32 ∨ 126 < c.toNat) := by omega
   have h4 : ¬ c.toNat = 92 := by omega
   simp [h3, h4]
theorem Qr3 : ∀ (b r : Bs), unqI (b.flatMap esc ++ r) = (unqI r).map (b ++ ·)
 | [], r => by simp
 | c :: b, r => by
  rw [List.flatMap_cons, List.append_assoc, Qx9, Qr3 b r]
  cases unqI r <;> simp
theorem QzD (b : Bs) : unqI (b.flatMap esc) = some b := by
 have := Qr3 b []
 simpa [unqI] using this
theorem Qkg : ∀ (n : Nat) (r b : Bs), r.length ≤ n → unqI r = some b → r = b.flatMap esc
 | 0, r, b, hn, h => by
  have : r = [] := List.eq_nil_of_length_eq_zero (by omega)
  subst this
  simp [unqI] at h
  subst h; rfl
 | n + 1, [], b, hn, h => by
  simp [unqI] at h
  subst h; rfl
 | n + 1, c :: r, b, hn, h => by
  rw [Qfy] at h
  split at h
  ·cases h
  rename_i h1
  split at h
  ·rename_i h2
   split at h
   ·cases h
   rename_i d r'
   have ec : c = 92 := Qdd h2
   split at h
   ·rename_i h3
    simp only [Option.map_eq_some_iff] at h
    obtain ⟨b', hb, rfl⟩ := h
    have := Qkg n r' b' (by simp at hn; omega) hb
    rw [List.flatMap_cons, ← this]
    unfold esc
    rw [if_pos h3, ec]; rfl
   ·split at h
    ·rename_i h3 h4
     split at h
     ·rename_i x y r''
      split at h
      ·rename_i a e ha he
       split at h
       ·cases h
       ·rename_i h5
        simp only [Option.map_eq_some_iff] at h
        obtain ⟨b', hb, rfl⟩ := h
        have := Qkg n r'' b' (by simp at hn; omega) hb
        obtain ⟨ea, ha'⟩ := Qih ha
        obtain ⟨ee, he'⟩ := Qih he
        have hn' : (UInt8.ofNat (16 * a + e)).toNat = 16 * a + e := by simp; omega
        rw [List.flatMap_cons, ← this]
        unfold esc
        rw [hn', if_neg (by omega), if_pos (by omega), show (16 * a + e) / 16 = a by omega, show (16 * a + e) % 16 = e by omega, ec, ← ea, ← ee, show d = 120 from Qdd h4]
        rfl
      ·cases h
     ·cases h
    ·cases h
  ·rename_i h2
   simp only [Option.map_eq_some_iff] at h
   obtain ⟨b', hb, rfl⟩ := h
   have := Qkg n r b' (by simp at hn; omega) hb
   rw [List.flatMap_cons, ← this]
   unfold esc
   rw [if_neg (by omega), if_neg (by omega)]; rfl
theorem QhL : ∀ b : Bs, b.length ≤ (b.flatMap esc).length ∧ (b.flatMap esc).length ≤ 4 * b.length
 | [] => by simp
 | c :: b => by
  have := QhL b
  have := Qzd c
  rw [List.flatMap_cons, List.length_append, List.length_cons]; omega
theorem QnR (b : Bs) : 2 + b.length ≤ (quo b).length ∧ (quo b).length ≤ 4 * b.length + 2 := by
 have := QhL b
 simp only [quo, List.length_cons, List.length_append, List.length_nil]; omega
def unq (s : Bs) : Option Bs := if 2 ≤ s.length ∧ s.head? = some 34 ∧ s.getLast? = some 34 then unqI ((s.take (s.length - 1)).drop 1) else none
theorem QzS (b : Bs) : unq (quo b) = some b := by
 unfold unq
 have := QnR b
 rw [if_pos ⟨by omega, by simp [quo], by simp [quo, List.getLast?_cons, List.getLast?_append]⟩]
 have : ((quo b).take ((quo b).length - 1)).drop 1 = b.flatMap esc := by
  unfold quo
  simp
 rw [this, QzD]
theorem Qti {s b : Bs} (h : unq s = some b) : s = quo b := by
 unfold unq at h
 split at h
 ·rename_i hc
  have := Qkg _ _ _ (Nat.le_refl _) h
  unfold quo
  rw [← this]
  obtain ⟨h1, h2, h3⟩ := hc
  match s, h1, h2, h3 with
  | c :: r, h1, h2, h3 =>
   simp only [List.head?_cons, Option.some.injEq] at h2
   subst h2
   have hr : r ≠ [] := by intro q; subst q; simp at h1
   have h4 : r.getLast? = some 34 := by
    rw [List.getLast?_cons] at h3
    cases hx : r.getLast? with
    | none => simp at hx; exact (hr hx).elim
    | some x => rw [hx] at h3; simpa using h3
   congr 1
   simp only [List.length_cons, Nat.add_sub_cancel]
   rw [show r.length = (r.length - 1) + 1 by have := List.length_pos_iff.2 hr; omega, List.take_succ_cons, List.drop_succ_cons, List.drop_zero, ← List.dropLast_eq_take]
   rw [List.getLast?_eq_some_getLast hr, Option.some.injEq] at h4
   rw [← h4, List.dropLast_concat_getLast]
 ·cases h
def isPl (c : UInt8) : Bool := decide (32 < c.toNat) && decide (c.toNat ≤ 126) && !(c.toNat == 34)
def Qds (s : Bs) : Bool := !s.isEmpty && s.all isPl
def Qby (w : Bs) : Bs := if Qds w then w else quo w
def QaO : List Bs → Bs
 | [] => []
 | [w] => Qby w
 | w :: r => Qby w ++ 32 :: QaO r
theorem QeE (w : Bs) {r : List Bs} (h : r ≠ []) : QaO (w :: r) = Qby w ++ 32 :: QaO r := by
 cases r with
 | nil => exact (h rfl).elim
 | cons x r => rfl
theorem QlG : ∀ l : List Bs, QaO l = Lib.join (l.map Qby) [32]
 | [] => rfl
 | [w] => by simp [QaO, Lib.join]
 | w :: x :: r => by
  rw [QeE w (by simp), QlG (x :: r)]
  simp [Lib.join, List.intercalate]
theorem Qx8 (w : Bs) : Qby w ≠ [] := by
 unfold Qby
 split
 ·rename_i h
  intro q; subst q; simp [Qds] at h
 ·simp [quo]
theorem Qxm {l : List Bs} (h : QaO l = []) : l = [] := by
 match l with
 | [] => rfl
 | [w] => exact (Qx8 w h).elim
 | w :: x :: r => rw [QeE w (by simp)] at h; simp at h
theorem Qiq (w : Bs) : w.length ≤ (Qby w).length ∧ (Qby w).length ≤ 4 * w.length + 2 := by
 unfold Qby
 have := QnR w
 split <;> omega
def cutB : Bs → Bs → Bool → Bool → Option (List Bs)
 | [], cur, _, _ => some [cur]
 | c :: r, cur, q, e =>
  if c.toNat < 32 ∨ 126 < c.toNat then none
  else if e then cutB r (cur ++ [c]) q false
  else if q ∧ c.toNat = 92 then cutB r (cur ++ [c]) q true
  else if c.toNat = 34 then cutB r (cur ++ [c]) (!q) false
  else if c.toNat = 32 ∧ !q then (cutB r [] false false).map (cur :: ·)
  else cutB r (cur ++ [c]) q false
theorem Qkm : ∀ {s cur : Bs} {q e : Bool} {ps : List Bs}, cutB s cur q e = some ps → ps ≠ [] ∧ Lib.join ps [32] = cur ++ s
 | [], cur, q, e, ps, h => by
  simp only [cutB, Option.some.injEq] at h
  subst h
  simp [Lib.join]
 | c :: r, cur, q, e, ps, h => by
  rw [cutB] at h
  have step : ∀ {q e}, cutB r (cur ++ [c]) q e = some ps → ps ≠ [] ∧ Lib.join ps [32] = cur ++ c :: r := by
   intro q e h
   have := Qkm h
   simpa using this
  split at h
  ·cases h
  split at h
  ·exact step h
  split at h
  ·exact step h
  split at h
  ·exact step h
  split at h
  ·rename_i hc
   simp only [Option.map_eq_some_iff] at h
   obtain ⟨ps', h, rfl⟩ := h
   obtain ⟨h1, h2⟩ := Qkm h
   refine ⟨by simp, ?_⟩
   have ec : c = 32 := Qdd hc.1
   cases ps' with
   | nil => exact (h1 rfl).elim
   | cons y ys =>
    have : Lib.join (cur :: y :: ys) [32] = cur ++ 32 :: Lib.join (y :: ys) [32] := by simp [Lib.join, List.intercalate]
    rw [this, h2, ec]; rfl
  ·exact step h
theorem QxL (c : UInt8) (r cur : Bs) : cutB (esc c ++ r) cur true false = cutB r (cur ++ esc c) true false := by
 unfold esc
 split
 ·rename_i h
  have h2 : ¬ (c.toNat < 32 ∨ 126 < c.toNat) := by omega
  simp only [List.cons_append, List.nil_append]
  rw [cutB]
  simp only [show ¬ ((92 : UInt8).toNat < 32 ∨ 126 < (92 : UInt8).toNat) by decide, if_false, Bool.false_eq_true, show (92 : UInt8).toNat = 92 from rfl, and_true, if_true]
  rw [cutB]
  simp [h2]
 ·rename_i h
  split
  ·rename_i h2
   have hc : c.toNat < 256 := c.toNat_lt
   simp only [List.cons_append, List.nil_append]
   have hx : ∀ n, n < 16 → ¬ ((hexB n).toNat < 32 ∨ 126 < (hexB n).toNat) ∧ ¬ (hexB n).toNat = 92 ∧ ¬ (hexB n).toNat = 34 ∧ ¬ (hexB n).toNat = 32 := by decide +kernel
   obtain ⟨a1, a2, a3, a4⟩ := hx (c.toNat / 16) (by omega)
   obtain ⟨b1, b2, b3, b4⟩ := hx (c.toNat % 16) (by omega)
   rw [cutB]
   simp only [show ¬ ((92 : UInt8).toNat < 32 ∨ 126 < (92 : UInt8).toNat) by decide, if_false, Bool.false_eq_true, show (92 : UInt8).toNat = 92 from rfl, and_true, if_true]
   rw [cutB]
   simp only [show ¬ ((120 : UInt8).toNat < 32 ∨ 126 < (120 : UInt8).toNat) by decide, if_false, if_true]
   rw [cutB]
   simp only [a1, a2, a3, a4, if_false, Bool.false_eq_true, and_false, false_and]
   rw [cutB]
   simp only [b1, b2, b3, b4, if_false, Bool.false_eq_true, and_false, false_and]
   simp
  ·rename_i h2
   simp only [List.cons_append, List.nil_append]
   rw [cutB]
   have h3 : ¬ c.toNat = 92 := by omega
   have h4 : ¬ c.toNat = 34 := by omega
   simp [h2, h3, h4]
theorem QrN : ∀ (b r cur : Bs), cutB (b.flatMap esc ++ r) cur true false = cutB r (cur ++ b.flatMap esc) true false
 | [], r, cur => by simp
 | c :: b, r, cur => by
  rw [List.flatMap_cons, List.append_assoc, QxL, QrN b r]
  simp
theorem QyE (b r cur : Bs) : cutB (quo b ++ r) cur false false = cutB r (cur ++ quo b) false false := by
 unfold quo
 simp only [List.cons_append, List.append_assoc, List.nil_append]
 rw [cutB]
 simp only [show ¬ ((34 : UInt8).toNat < 32 ∨ 126 < (34 : UInt8).toNat) by decide, if_false, Bool.false_eq_true, false_and, show (34 : UInt8).toNat = 34 from rfl, if_true, Bool.not_false]
 rw [QrN, cutB]
 simp
theorem Qpw : ∀ (w r cur : Bs), w.all isPl = true → cutB (w ++ r) cur false false = cutB r (cur ++ w) false false
 | [], r, cur, _ => by simp
 | c :: w, r, cur, h => by
  simp only [List.all_cons, Bool.and_eq_true] at h
  obtain ⟨h1, h2⟩ := h
  simp only [isPl, Bool.and_eq_true, decide_eq_true_eq, Bool.not_eq_true', beq_eq_false_iff_ne] at h1
  simp only [List.cons_append]
  rw [cutB]
  have a1 : ¬ (c.toNat < 32 ∨ 126 < c.toNat) := by omega
  have a2 : ¬ c.toNat = 34 := h1.2
  have a3 : ¬ c.toNat = 32 := by omega
  simp only [a1, a2, a3, if_false, Bool.false_eq_true, false_and]
  rw [Qpw w r _ h2]
  simp
theorem Qr4 (w r cur : Bs) : cutB (Qby w ++ r) cur false false = cutB r (cur ++ Qby w) false false := by
 unfold Qby
 split
 ·rename_i h
  simp only [Qds, Bool.and_eq_true] at h
  exact Qpw w r cur h.2
 ·exact QyE w r cur
theorem QrY : ∀ {l : List Bs}, l ≠ [] → cutB (QaO l) [] false false = some (l.map Qby)
 | [], h => (h rfl).elim
 | [w], _ => by
  have := Qr4 w [] []
  simpa [QaO, cutB] using this
 | w :: x :: r, _ => by
  rw [QeE w (by simp), Qr4, cutB]
  simp only [show ¬ ((32 : UInt8).toNat < 32 ∨ 126 < (32 : UInt8).toNat) by decide, if_false, Bool.false_eq_true, false_and, show (32 : UInt8).toNat = 32 from rfl, show ¬ (32 : Nat) = 34 by decide, true_and, Bool.not_false, if_true]
  rw [QrY (l := x :: r) (by simp)]
  simp
def Qe7 (p : Bs) : Option Bs := if Qds p then some p else match unq p with
 | some t => if Qds t then none else some t
 | none => none
theorem Qwt (w : Bs) : Qe7 (Qby w) = some w := by
 unfold Qe7 Qby
 cases h : Qds w with
 | true => simp [h]
 | false =>
  have : Qds (quo w) = false := by
   simp [Qds, quo, isPl]
  simp [h, this, QzS]
theorem Qv1 {p w : Bs} (h : Qe7 p = some w) : p = Qby w := by
 unfold Qe7 at h
 split at h
 ·rename_i hp
  simp only [Option.some.injEq] at h
  subst h
  simp [Qby, hp]
 ·split at h
  ·rename_i t ht
   split at h
   ·cases h
   ·rename_i hp
    simp only [Option.some.injEq] at h
    subst h
    simp [Qby, hp, Qti ht]
  ·cases h
def QbS (s : Bs) : Option (List Bs) := if s = [] then some [] else (cutB s [] false false).bind fun ps => ps.mapM Qe7
theorem Qss : ∀ l : List Bs, (l.map Qby).mapM Qe7 = some l
 | [] => rfl
 | w :: l => by simp [Qwt, Qss l]
theorem QrR : ∀ {ps l : List Bs}, ps.mapM Qe7 = some l → ps = l.map Qby
 | [], l, h => by
  simp at h; subst h; rfl
 | p :: ps, l, h => by
  simp only [List.mapM_cons, Option.bind_eq_bind, Option.bind_eq_some_iff, Option.pure_def, Option.some.injEq] at h
  obtain ⟨w, hw, l', hl, rfl⟩ := h
  rw [Qv1 hw, QrR hl]; rfl
theorem Qia (l : List Bs) : QbS (QaO l) = some l := by
 unfold QbS
 by_cases h : l = []
 ·subst h; rfl
 ·rw [if_neg fun q => h (Qxm q), QrY h, Option.bind_some, Qss]
theorem Qf5 {s : Bs} {l : List Bs} (h : QbS s = some l) : s = QaO l := by
 unfold QbS at h
 split at h
 ·rename_i q
  simp only [Option.some.injEq] at h
  subst h; exact q
 ·simp only [Option.bind_eq_some_iff] at h
  obtain ⟨ps, hp, hl⟩ := h
  have := (Qkm hp).2
  rw [QrR hl] at this
  rw [QlG, this]; rfl
end Go.Proofs
