/- Quoted texts, words and lines on plain data. Conditions: none; definitions and laws. -/
import Derived.Test.YtdcpdknginpohaaGreatDoorLib
set_option linter.unusedSimpArgs false
namespace Go.Proofs
abbrev Bs := List UInt8
theorem Qep {P : UInt8 → Prop} (h : ∀ k, k < 256 → P (UInt8.ofNat k)) (c : UInt8) : P c := by
 have := h c.toNat c.toNat_lt
 simpa using this
theorem QbQ {a b : UInt8} (h : a.toNat = b.toNat) : a = b := UInt8.toNat_inj.1 h
def hexB (n : Nat) : UInt8 := if n < 10 then UInt8.ofNat (48 + n) else UInt8.ofNat (87 + n)
def hexV (c : UInt8) : Option Nat := if 48 ≤ c.toNat ∧ c.toNat ≤ 57 then some (c.toNat - 48) else if 97 ≤ c.toNat ∧ c.toNat ≤ 102 then some (c.toNat - 87) else none
theorem Qhz : ∀ n, n < 16 → hexV (hexB n) = some n := by decide +kernel
theorem QwQ : ∀ n, n < 16 → (hexB n).toNat = if n < 10 then 48 + n else 87 + n := by decide +kernel
theorem Qf9 {c : UInt8} {n : Nat} (h : hexV c = some n) : c = hexB n ∧ n < 16 := by
 unfold hexV at h
 have e : ∀ m, m < 16 → c.toNat = (if m < 10 then 48 + m else 87 + m) → c = hexB m := fun m hm q => QbQ (by rw [q, QwQ m hm])
 split at h
 ·simp only [Option.some.injEq] at h
  refine ⟨e n (by omega) ?_, by omega⟩
  rw [if_pos (by omega)]; omega
 ·split at h
  ·simp only [Option.some.injEq] at h
   refine ⟨e n (by omega) ?_, by omega⟩
   rw [if_neg (by omega)]; omega
  ·cases h
def esc (c : UInt8) : Bs := if c.toNat = 34 ∨ c.toNat = 92 then [92, c] else if c.toNat < 32 ∨ 126 < c.toNat then [92, 120, hexB (c.toNat / 16), hexB (c.toNat % 16)] else [c]
def quo (s : Bs) : Bs := 34 :: (s.flatMap esc ++ [34])
def unqI : Bs → Option Bs
 | [] => some []
 | c :: r =>
  if c.toNat = 34 ∨ c.toNat < 32 ∨ 126 < c.toNat then none
  else if c.toNat = 92 then
   match r with
   | [] => none
   | d :: r' =>
    if d.toNat = 34 ∨ d.toNat = 92 then (unqI r').map (d :: ·)
    else if d.toNat = 120 then
     match r' with
     | h :: l :: r'' => match hexV h, hexV l with
      | some a, some b => if 32 ≤ 16 * a + b ∧ 16 * a + b ≤ 126 then none else (unqI r'').map (UInt8.ofNat (16 * a + b) :: ·)
      | _, _ => none
     | _ => none
    else none
  else (unqI r).map (c :: ·)
theorem Qe4 (c : UInt8) (r : Bs) : unqI (c :: r) =
  if c.toNat = 34 ∨ c.toNat < 32 ∨ 126 < c.toNat then none
  else if c.toNat = 92 then
   match r with
   | [] => none
   | d :: r' =>
    if d.toNat = 34 ∨ d.toNat = 92 then (unqI r').map (d :: ·)
    else if d.toNat = 120 then
     match r' with
     | h :: l :: r'' => match hexV h, hexV l with
      | some a, some b => if 32 ≤ 16 * a + b ∧ 16 * a + b ≤ 126 then none else (unqI r'').map (UInt8.ofNat (16 * a + b) :: ·)
      | _, _ => none
     | _ => none
    else none
  else (unqI r).map (c :: ·) := unqI.eq_def (c :: r)
theorem Qup (c : UInt8) : 1 ≤ (esc c).length ∧ (esc c).length ≤ 4 := by
 unfold esc
 split
 ·simp
 ·split <;> simp
theorem Qxr (c : UInt8) (r : Bs) : unqI (esc c ++ r) = (unqI r).map (c :: ·) := by
 unfold esc
 split
 ·rename_i h
  simp only [List.cons_append, List.nil_append]
  rw [Qe4]
  simp [h]
 ·rename_i h
  split
  ·rename_i h2
   have hc : c.toNat < 256 := c.toNat_lt
   simp only [List.cons_append, List.nil_append]
   rw [Qe4]
   have h3 : ¬ (32 ≤ 16 * (c.toNat / 16) + c.toNat % 16 ∧ 16 * (c.toNat / 16) + c.toNat % 16 ≤ 126) := by omega
   have h4 : UInt8.ofNat (16 * (c.toNat / 16) + c.toNat % 16) = c := by
    rw [show 16 * (c.toNat / 16) + c.toNat % 16 = c.toNat by omega]; simp
   simp [Qhz _ (show c.toNat / 16 < 16 by omega), Qhz _ (show c.toNat % 16 < 16 by omega), h3, h4]
  ·rename_i h2
   simp only [List.cons_append, List.nil_append]
   rw [Qe4]
   have h3 : ¬ (c.toNat = 34 ∨ c.toNat < 32 ∨ 126 < c.toNat) := by omega
   have h4 : ¬ c.toNat = 92 := by omega
   simp [h3, h4]
theorem Qq0 : ∀ (b r : Bs), unqI (b.flatMap esc ++ r) = (unqI r).map (b ++ ·)
 | [], r => by simp
 | c :: b, r => by
  rw [List.flatMap_cons, List.append_assoc, Qxr, Qq0 b r]
  cases unqI r <;> simp
theorem Qx6 (b : Bs) : unqI (b.flatMap esc) = some b := by
 have := Qq0 b []
 simpa [unqI] using this
theorem QjB : ∀ (n : Nat) (r b : Bs), r.length ≤ n → unqI r = some b → r = b.flatMap esc
 | 0, r, b, hn, h => by
  have : r = [] := List.eq_nil_of_length_eq_zero (by omega)
  subst this
  simp [unqI] at h
  subst h; rfl
 | n + 1, [], b, hn, h => by
  simp [unqI] at h
  subst h; rfl
 | n + 1, c :: r, b, hn, h => by
  rw [Qe4] at h
  split at h
  ·cases h
  rename_i h1
  split at h
  ·rename_i h2
   split at h
   ·cases h
   rename_i d r'
   have ec : c = 92 := QbQ h2
   split at h
   ·rename_i h3
    simp only [Option.map_eq_some_iff] at h
    obtain ⟨b', hb, rfl⟩ := h
    have := QjB n r' b' (by simp at hn; omega) hb
    rw [List.flatMap_cons, ← this]
    unfold esc
    rw [if_pos h3, ec]; rfl
   ·split at h
    ·rename_i h3 h4
     split at h
     ·rename_i x y r''
      split at h
      ·rename_i a e ha he
       split at h
       ·cases h
       ·rename_i h5
        simp only [Option.map_eq_some_iff] at h
        obtain ⟨b', hb, rfl⟩ := h
        have := QjB n r'' b' (by simp at hn; omega) hb
        obtain ⟨ea, ha'⟩ := Qf9 ha
        obtain ⟨ee, he'⟩ := Qf9 he
        have hn' : (UInt8.ofNat (16 * a + e)).toNat = 16 * a + e := by simp; omega
        rw [List.flatMap_cons, ← this]
        unfold esc
        rw [hn', if_neg (by omega), if_pos (by omega), show (16 * a + e) / 16 = a by omega, show (16 * a + e) % 16 = e by omega, ec, ← ea, ← ee, show d = 120 from QbQ h4]
        rfl
      ·cases h
     ·cases h
    ·cases h
  ·rename_i h2
   simp only [Option.map_eq_some_iff] at h
   obtain ⟨b', hb, rfl⟩ := h
   have := QjB n r b' (by simp at hn; omega) hb
   rw [List.flatMap_cons, ← this]
   unfold esc
   rw [if_neg (by omega), if_neg (by omega)]; rfl
theorem Qeh : ∀ b : Bs, b.length ≤ (b.flatMap esc).length ∧ (b.flatMap esc).length ≤ 4 * b.length
 | [] => by simp
 | c :: b => by
  have := Qeh b
  have := Qup c
  rw [List.flatMap_cons, List.length_append, List.length_cons]; omega
theorem Qhf (b : Bs) : 2 + b.length ≤ (quo b).length ∧ (quo b).length ≤ 4 * b.length + 2 := by
 have := Qeh b
 simp only [quo, List.length_cons, List.length_append, List.length_nil]; omega
def unq (s : Bs) : Option Bs := if 2 ≤ s.length ∧ s.head? = some 34 ∧ s.getLast? = some 34 then unqI ((s.take (s.length - 1)).drop 1) else none
theorem Qnd (b : Bs) : unq (quo b) = some b := by
 unfold unq
 have := Qhf b
 rw [if_pos ⟨by omega, by simp [quo], by simp [quo, List.getLast?_cons, List.getLast?_append]⟩]
 have : ((quo b).take ((quo b).length - 1)).drop 1 = b.flatMap esc := by
  unfold quo
  simp
 rw [this, Qx6]
theorem QkW {s b : Bs} (h : unq s = some b) : s = quo b := by
 unfold unq at h
 split at h
 ·rename_i hc
  have := QjB _ _ _ (Nat.le_refl _) h
  unfold quo
  rw [← this]
  obtain ⟨h1, h2, h3⟩ := hc
  match s, h1, h2, h3 with
  | c :: r, h1, h2, h3 =>
   simp only [List.head?_cons, Option.some.injEq] at h2
   subst h2
   have hr : r ≠ [] := by intro q; subst q; simp at h1
   have h4 : r.getLast? = some 34 := by
    rw [List.getLast?_cons] at h3
    cases hx : r.getLast? with
    | none => simp at hx; exact (hr hx).elim
    | some x => rw [hx] at h3; simpa using h3
   congr 1
   simp only [List.length_cons, Nat.add_sub_cancel]
   rw [show r.length = (r.length - 1) + 1 by have := List.length_pos_iff.2 hr; omega, List.take_succ_cons, List.drop_succ_cons, List.drop_zero, ← List.dropLast_eq_take]
   rw [List.getLast?_eq_some_getLast hr, Option.some.injEq] at h4
   rw [← h4, List.dropLast_concat_getLast]
 ·cases h
def isPl (c : UInt8) : Bool := decide (32 < c.toNat) && decide (c.toNat ≤ 126) && !(c.toNat == 34)
def Qce (s : Bs) : Bool := !s.isEmpty && s.all isPl
def QaJ (w : Bs) : Bs := if Qce w then w else quo w
def Qar : List Bs → Bs
 | [] => []
 | [w] => QaJ w
 | w :: r => QaJ w ++ 32 :: Qar r
theorem QcG (w : Bs) {r : List Bs} (h : r ≠ []) : Qar (w :: r) = QaJ w ++ 32 :: Qar r := by
 cases r with
 | nil => exact (h rfl).elim
 | cons x r => rfl
theorem Qlu : ∀ l : List Bs, Qar l = Lib.join (l.map QaJ) [32]
 | [] => rfl
 | [w] => by simp [Qar, Lib.join]
 | w :: x :: r => by
  rw [QcG w (by simp), Qlu (x :: r)]
  simp [Lib.join, List.intercalate]
theorem Qsi (w : Bs) : QaJ w ≠ [] := by
 unfold QaJ
 split
 ·rename_i h
  intro q; subst q; simp [Qce] at h
 ·simp [quo]
theorem Qmb {l : List Bs} (h : Qar l = []) : l = [] := by
 match l with
 | [] => rfl
 | [w] => exact (Qsi w h).elim
 | w :: x :: r => rw [QcG w (by simp)] at h; simp at h
theorem Qd3 (w : Bs) : w.length ≤ (QaJ w).length ∧ (QaJ w).length ≤ 4 * w.length + 2 := by
 unfold QaJ
 have := Qhf w
 split <;> omega
def cutB : Bs → Bs → Bool → Bool → Option (List Bs)
 | [], cur, _, _ => some [cur]
 | c :: r, cur, q, e =>
  if c.toNat < 32 ∨ 126 < c.toNat then none
  else if e then cutB r (cur ++ [c]) q false
  else if q ∧ c.toNat = 92 then cutB r (cur ++ [c]) q true
  else if c.toNat = 34 then cutB r (cur ++ [c]) (!q) false
  else if c.toNat = 32 ∧ !q then (cutB r [] false false).map (cur :: ·)
  else cutB r (cur ++ [c]) q false
theorem QjR : ∀ {s cur : Bs} {q e : Bool} {ps : List Bs}, cutB s cur q e = some ps → ps ≠ [] ∧ Lib.join ps [32] = cur ++ s
 | [], cur, q, e, ps, h => by
  simp only [cutB, Option.some.injEq] at h
  subst h
  simp [Lib.join]
 | c :: r, cur, q, e, ps, h => by
  rw [cutB] at h
  have step : ∀ {q e}, cutB r (cur ++ [c]) q e = some ps → ps ≠ [] ∧ Lib.join ps [32] = cur ++ c :: r := by
   intro q e h
   have := QjR h
   simpa using this
  split at h
  ·cases h
  split at h
  ·exact step h
  split at h
  ·exact step h
  split at h
  ·exact step h
  split at h
  ·rename_i hc
   simp only [Option.map_eq_some_iff] at h
   obtain ⟨ps', h, rfl⟩ := h
   obtain ⟨h1, h2⟩ := QjR h
   refine ⟨by simp, ?_⟩
   have ec : c = 32 := QbQ hc.1
   cases ps' with
   | nil => exact (h1 rfl).elim
   | cons y ys =>
    have : Lib.join (cur :: y :: ys) [32] = cur ++ 32 :: Lib.join (y :: ys) [32] := by simp [Lib.join, List.intercalate]
    rw [this, h2, ec]; rfl
  ·exact step h
theorem Qxg (c : UInt8) (r cur : Bs) : cutB (esc c ++ r) cur true false = cutB r (cur ++ esc c) true false := by
 unfold esc
 split
 ·rename_i h
  have h2 : ¬ (c.toNat < 32 ∨ 126 < c.toNat) := by omega
  simp only [List.cons_append, List.nil_append]
  rw [cutB]
  simp only [show ¬ ((92 : UInt8).toNat < 32 ∨ 126 < (92 : UInt8).toNat) by decide, if_false, Bool.false_eq_true, show (92 : UInt8).toNat = 92 from rfl, and_true, if_true]
  rw [cutB]
  simp [h2]
 ·rename_i h
  split
  ·rename_i h2
   have hc : c.toNat < 256 := c.toNat_lt
   simp only [List.cons_append, List.nil_append]
   have hx : ∀ n, n < 16 → ¬ ((hexB n).toNat < 32 ∨ 126 < (hexB n).toNat) ∧ ¬ (hexB n).toNat = 92 ∧ ¬ (hexB n).toNat = 34 ∧ ¬ (hexB n).toNat = 32 := by decide +kernel
   obtain ⟨a1, a2, a3, a4⟩ := hx (c.toNat / 16) (by omega)
   obtain ⟨b1, b2, b3, b4⟩ := hx (c.toNat % 16) (by omega)
   rw [cutB]
   simp only [show ¬ ((92 : UInt8).toNat < 32 ∨ 126 < (92 : UInt8).toNat) by decide, if_false, Bool.false_eq_true, show (92 : UInt8).toNat = 92 from rfl, and_true, if_true]
   rw [cutB]
   simp only [show ¬ ((120 : UInt8).toNat < 32 ∨ 126 < (120 : UInt8).toNat) by decide, if_false, if_true]
   rw [cutB]
   simp only [a1, a2, a3, a4, if_false, Bool.false_eq_true, and_false, false_and]
   rw [cutB]
   simp only [b1, b2, b3, b4, if_false, Bool.false_eq_true, and_false, false_and]
   simp
  ·rename_i h2
   simp only [List.cons_append, List.nil_append]
   rw [cutB]
   have h3 : ¬ c.toNat = 92 := by omega
   have h4 : ¬ c.toNat = 34 := by omega
   simp [h2, h3, h4]
theorem Qq6 : ∀ (b r cur : Bs), cutB (b.flatMap esc ++ r) cur true false = cutB r (cur ++ b.flatMap esc) true false
 | [], r, cur => by simp
 | c :: b, r, cur => by
  rw [List.flatMap_cons, List.append_assoc, Qxg, Qq6 b r]
  simp
theorem Qw4 (b r cur : Bs) : cutB (quo b ++ r) cur false false = cutB r (cur ++ quo b) false false := by
 unfold quo
 simp only [List.cons_append, List.append_assoc, List.nil_append]
 rw [cutB]
 simp only [show ¬ ((34 : UInt8).toNat < 32 ∨ 126 < (34 : UInt8).toNat) by decide, if_false, Bool.false_eq_true, false_and, show (34 : UInt8).toNat = 34 from rfl, if_true, Bool.not_false]
 rw [Qq6, cutB]
 simp
theorem QpG : ∀ (w r cur : Bs), w.all isPl = true → cutB (w ++ r) cur false false = cutB r (cur ++ w) false false
 | [], r, cur, _ => by simp
 | c :: w, r, cur, h => by
  simp only [List.all_cons, Bool.and_eq_true] at h
  obtain ⟨h1, h2⟩ := h
  simp only [isPl, Bool.and_eq_true, decide_eq_true_eq, Bool.not_eq_true', beq_eq_false_iff_ne] at h1
  simp only [List.cons_append]
  rw [cutB]
  have a1 : ¬ (c.toNat < 32 ∨ 126 < c.toNat) := by omega
  have a2 : ¬ c.toNat = 34 := h1.2
  have a3 : ¬ c.toNat = 32 := by omega
  simp only [a1, a2, a3, if_false, Bool.false_eq_true, false_and]
  rw [QpG w r _ h2]
  simp
theorem QqS (w r cur : Bs) : cutB (QaJ w ++ r) cur false false = cutB r (cur ++ QaJ w) false false := by
 unfold QaJ
 split
 ·rename_i h
  simp only [Qce, Bool.and_eq_true] at h
  exact QpG w r cur h.2
 ·exact Qw4 w r cur
theorem Qrq : ∀ {l : List Bs}, l ≠ [] → cutB (Qar l) [] false false = some (l.map QaJ)
 | [], h => (h rfl).elim
 | [w], _ => by
  have := QqS w [] []
  simpa [Qar, cutB] using this
 | w :: x :: r, _ => by
  rw [QcG w (by simp), QqS, cutB]
  simp only [show ¬ ((32 : UInt8).toNat < 32 ∨ 126 < (32 : UInt8).toNat) by decide, if_false, Bool.false_eq_true, false_and, show (32 : UInt8).toNat = 32 from rfl, show ¬ (32 : Nat) = 34 by decide, true_and, Bool.not_false, if_true]
  rw [Qrq (l := x :: r) (by simp)]
  simp
def QeQ (p : Bs) : Option Bs := if Qce p then some p else match unq p with
 | some t => if Qce t then none else some t
 | none => none
theorem Qvv (w : Bs) : QeQ (QaJ w) = some w := by
 unfold QeQ QaJ
 cases h : Qce w with
 | true => simp [h]
 | false =>
  have : Qce (quo w) = false := by
   simp [Qce, quo, isPl]
  simp [h, this, Qnd]
theorem QuV {p w : Bs} (h : QeQ p = some w) : p = QaJ w := by
 unfold QeQ at h
 split at h
 ·rename_i hp
  simp only [Option.some.injEq] at h
  subst h
  simp [QaJ, hp]
 ·split at h
  ·rename_i t ht
   split at h
   ·cases h
   ·rename_i hp
    simp only [Option.some.injEq] at h
    subst h
    simp [QaJ, hp, QkW ht]
  ·cases h
def Qdd (s : Bs) : Option (List Bs) := if s = [] then some [] else (cutB s [] false false).bind fun ps => ps.mapM QeQ
theorem Qrj : ∀ l : List Bs, (l.map QaJ).mapM QeQ = some l
 | [] => rfl
 | w :: l => by simp [Qvv, Qrj l]
theorem QqZ : ∀ {ps l : List Bs}, ps.mapM QeQ = some l → ps = l.map QaJ
 | [], l, h => by
  simp at h; subst h; rfl
 | p :: ps, l, h => by
  simp only [List.mapM_cons, Option.bind_eq_bind, Option.bind_eq_some_iff, Option.pure_def, Option.some.injEq] at h
  obtain ⟨w, hw, l', hl, rfl⟩ := h
  rw [QuV hw, QqZ hl]; rfl
theorem Qez (l : List Bs) : Qdd (Qar l) = some l := by
 unfold Qdd
 by_cases h : l = []
 ·subst h; rfl
 ·rw [if_neg fun q => h (Qmb q), Qrq h, Option.bind_some, Qrj]
theorem Qev {s : Bs} {l : List Bs} (h : Qdd s = some l) : s = Qar l := by
 unfold Qdd at h
 split at h
 ·rename_i q
  simp only [Option.some.injEq] at h
  subst h; exact q
 ·simp only [Option.bind_eq_some_iff] at h
  obtain ⟨ps, hp, hl⟩ := h
  have := (QjR hp).2
  rw [QqZ hl] at this
  rw [Qlu, this]; rfl
theorem Qwo {a b : List Bs} (h : Qar a = Qar b) : a = b := by
 have h1 := Qez a
 rw [h, Qez b] at h1
 simpa using h1.symm
end Go.Proofs
