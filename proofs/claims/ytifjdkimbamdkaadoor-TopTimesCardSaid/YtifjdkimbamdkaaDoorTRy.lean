/- What the reference of package text answers: lines are read. Conditions: as each says. -/
import Derived.Test.YtifjdkimbamdkaaDoorTRw
set_option linter.unusedSimpArgs false
namespace Go.Proofs
open Go.Am
variable (lb : Bool)
/-- where the quotation mark stands that ends a quoted text -/
def scanQ : Bs → Option Nat
  | [] => none
  | c :: r => if c.toNat = 34 then some 0 else if c.toNat = 92 then (match r with
      | [] => none
      | _ :: r' => (scanQ r').map (· + 2)) else (scanQ r).map (· + 1)
theorem scanQ_cons (c : UInt8) (r : Bs) : scanQ (c :: r) = if c.toNat = 34 then some 0 else if c.toNat = 92 then (match r with
      | [] => none
      | _ :: r' => (scanQ r').map (· + 2)) else (scanQ r).map (· + 1) := scanQ.eq_def (c :: r)
theorem scanQ_lt : ∀ (N : Nat) (t : Bs) (k : Nat), t.length ≤ N → scanQ t = some k → k < t.length
  | _, [], k, _, h => by simp [scanQ] at h
  | 0, c :: r, k, hN, h => by simp at hN
  | N + 1, c :: r, k, hN, h => by
    rw [scanQ_cons] at h
    split at h
    · simp only [Option.some.injEq] at h; subst h; simp
    split at h
    · match r, h with
      | [], h => cases h
      | d :: r', h =>
        simp only [Option.map_eq_some_iff] at h
        obtain ⟨j, hj, rfl⟩ := h
        have := scanQ_lt N r' j (by simp at hN; omega) hj
        simp; omega
    · simp only [Option.map_eq_some_iff] at h
      obtain ⟨j, hj, rfl⟩ := h
      have := scanQ_lt N r j (by simp at hN; omega) hj
      simp; omega
def endB : Bs → Nat
  | [] => 0
  | c :: r => if c.toNat = 34 then (match scanQ r with
      | some k => k + 2
      | none => r.length + 1) else ((c :: r).takeWhile fun x => !(x.toNat == 32)).length
theorem endB_cons (c : UInt8) (r : Bs) : endB (c :: r) = if c.toNat = 34 then (match scanQ r with
      | some k => k + 2
      | none => r.length + 1) else ((c :: r).takeWhile fun x => !(x.toNat == 32)).length := endB.eq_def (c :: r)
theorem endB_le (t : Bs) : endB t ≤ t.length := by
  cases t with
  | nil => simp [endB]
  | cons c r =>
    rw [endB_cons]
    split
    · split
      · rename_i k hk
        have := scanQ_lt _ r k (Nat.le_refl _) hk
        simp; omega
      · simp
    · exact (List.takeWhile_prefix _).length_le
theorem scanQ_esc (c : UInt8) (X : Bs) : scanQ (esc c ++ X) = (scanQ X).map (· + (esc c).length) := by
  unfold esc
  split
  · simp only [List.cons_append, List.nil_append]
    rw [scanQ_cons, if_neg (by decide), if_pos (by decide)]
    rfl
  · split
    · rename_i h h2
      have hx : ∀ n, n < 16 → ¬ (hexB n).toNat = 34 ∧ ¬ (hexB n).toNat = 92 := by decide +kernel
      have hc : c.toNat < 256 := c.toNat_lt
      obtain ⟨a1, a2⟩ := hx (c.toNat / 16) (by omega)
      obtain ⟨b1, b2⟩ := hx (c.toNat % 16) (by omega)
      simp only [List.cons_append, List.nil_append]
      rw [scanQ_cons, if_neg (by decide), if_pos (by decide)]
      simp only
      rw [scanQ_cons, if_neg a1, if_neg a2, scanQ_cons, if_neg b1, if_neg b2]
      cases scanQ X <;> simp
    · rename_i h h2
      simp only [List.cons_append, List.nil_append]
      rw [scanQ_cons, if_neg (by omega), if_neg (by omega)]
      rfl
theorem scanQ_flat : ∀ (b X : Bs), scanQ (b.flatMap esc ++ X) = (scanQ X).map (· + (b.flatMap esc).length)
  | [], X => by cases h : scanQ X <;> simp [h]
  | c :: b, X => by
    rw [List.flatMap_cons, List.append_assoc, scanQ_esc, scanQ_flat b X]
    cases scanQ X
    · rfl
    · simp; omega
theorem endB_word (w r : Bs) (hr : r = [] ∨ ∃ r', r = 32 :: r') : endB (wordB w ++ r) = (wordB w).length := by
  unfold wordB
  split
  · rename_i hp
    simp only [plainB, Bool.and_eq_true] at hp
    match w, hp with
    | [], hp => simp at hp
    | c :: w', ⟨_, hp⟩ =>
      have hall : ∀ x ∈ c :: w', (!(x.toNat == 32)) = true ∧ x.toNat ≠ 34 := by
        intro x hx
        have := List.all_eq_true.1 hp x hx
        simp only [isPl, Bool.and_eq_true, decide_eq_true_eq, Bool.not_eq_true', beq_eq_false_iff_ne] at this
        exact ⟨by simp; omega, this.2⟩
      have h34 := (hall c (List.mem_cons_self ..)).2
      rw [List.cons_append, endB_cons, if_neg h34, ← List.cons_append, List.takeWhile_append_of_pos fun x hx => (hall x hx).1]
      rcases hr with rfl | ⟨r', rfl⟩
      · simp
      · simp
  · unfold quo
    rw [List.cons_append, endB_cons, if_pos (by decide), List.append_assoc, scanQ_flat]
    rw [List.cons_append, scanQ_cons, if_pos (by decide)]
    simp
theorem unq_len {w v : Bs} (h : unq w = some v) : v.length ≤ w.length := by
  have := quo_len v
  rw [unq_some h]; omega
/-! lists -/
def longB (l : List Bs) (m : Int) : Bool := decide ((l.length : Int) > m) || decide ((sumLen l : Int) > m)
end Go.Proofs
