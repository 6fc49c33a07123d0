/- What the reference of package text answers: lines are read. Conditions: as each says. -/
import Derived.Test.YtmefepdgnkhagaaGreatDoorRw
set_option linter.unusedSimpArgs false
namespace Go.Proofs
open Go.Am
variable (lb : Nat)
/-- where the quotation mark stands that ends a quoted text -/
def scanQ : Bs → Option Nat
  | [] => none
  | c :: r => if c.toNat = 34 then some 0 else if c.toNat = 92 then (match r with
      | [] => none
      | _ :: r' => (scanQ r').map (· + 2)) else (scanQ r).map (· + 1)
theorem scanQ_cons (c : UInt8) (r : Bs) : scanQ (c :: r) = if c.toNat = 34 then some 0 else if c.toNat = 92 then (match r with
      | [] => none
      | _ :: r' => (scanQ r').map (· + 2)) else (scanQ r).map (· + 1) := scanQ.eq_def (c :: r)
theorem scanQ_lt : ∀ (N : Nat) (t : Bs) (k : Nat), t.length ≤ N → scanQ t = some k → k < t.length
  | _, [], k, _, h => by simp [scanQ] at h
  | 0, c :: r, k, hN, h => by simp at hN
  | N + 1, c :: r, k, hN, h => by
    rw [scanQ_cons] at h
    split at h
    · simp only [Option.some.injEq] at h; subst h; simp
    split at h
    · match r, h with
      | [], h => cases h
      | d :: r', h =>
        simp only [Option.map_eq_some_iff] at h
        obtain ⟨j, hj, rfl⟩ := h
        have := scanQ_lt N r' j (by simp at hN; omega) hj
        simp; omega
    · simp only [Option.map_eq_some_iff] at h
      obtain ⟨j, hj, rfl⟩ := h
      have := scanQ_lt N r j (by simp at hN; omega) hj
      simp; omega
def endB : Bs → Nat
  | [] => 0
  | c :: r => if c.toNat = 34 then (match scanQ r with
      | some k => k + 2
      | none => r.length + 1) else ((c :: r).takeWhile fun x => !(x.toNat == 32)).length
theorem endB_cons (c : UInt8) (r : Bs) : endB (c :: r) = if c.toNat = 34 then (match scanQ r with
      | some k => k + 2
      | none => r.length + 1) else ((c :: r).takeWhile fun x => !(x.toNat == 32)).length := endB.eq_def (c :: r)
theorem endB_le (t : Bs) : endB t ≤ t.length := by
  cases t with
  | nil => simp [endB]
  | cons c r =>
    rw [endB_cons]
    split
    · split
      · rename_i k hk
        have := scanQ_lt _ r k (Nat.le_refl _) hk
        simp; omega
      · simp
    · exact (List.takeWhile_prefix _).length_le
theorem scanQ_esc (c : UInt8) (X : Bs) : scanQ (esc c ++ X) = (scanQ X).map (· + (esc c).length) := by
  unfold esc
  split
  · simp only [List.cons_append, List.nil_append]
    rw [scanQ_cons, if_neg (by decide), if_pos (by decide)]
    rfl
  · split
    · rename_i h h2
      have hx : ∀ n, n < 16 → ¬ (hexB n).toNat = 34 ∧ ¬ (hexB n).toNat = 92 := by decide +kernel
      have hc : c.toNat < 256 := c.toNat_lt
      obtain ⟨a1, a2⟩ := hx (c.toNat / 16) (by omega)
      obtain ⟨b1, b2⟩ := hx (c.toNat % 16) (by omega)
      simp only [List.cons_append, List.nil_append]
      rw [scanQ_cons, if_neg (by decide), if_pos (by decide)]
      simp only
      rw [scanQ_cons, if_neg a1, if_neg a2, scanQ_cons, if_neg b1, if_neg b2]
      cases scanQ X <;> simp
    · rename_i h h2
      simp only [List.cons_append, List.nil_append]
      rw [scanQ_cons, if_neg (by omega), if_neg (by omega)]
      rfl
theorem scanQ_flat : ∀ (b X : Bs), scanQ (b.flatMap esc ++ X) = (scanQ X).map (· + (b.flatMap esc).length)
  | [], X => by cases h : scanQ X <;> simp [h]
  | c :: b, X => by
    rw [List.flatMap_cons, List.append_assoc, scanQ_esc, scanQ_flat b X]
    cases scanQ X
    · rfl
    · simp; omega
theorem endB_word (w r : Bs) (hr : r = [] ∨ ∃ r', r = 32 :: r') : endB (wordB w ++ r) = (wordB w).length := by
  unfold wordB
  split
  · rename_i hp
    simp only [plainB, Bool.and_eq_true] at hp
    match w, hp with
    | [], hp => simp at hp
    | c :: w', ⟨_, hp⟩ =>
      have hall : ∀ x ∈ c :: w', (!(x.toNat == 32)) = true ∧ x.toNat ≠ 34 := by
        intro x hx
        have := List.all_eq_true.1 hp x hx
        simp only [isPl, Bool.and_eq_true, decide_eq_true_eq, Bool.not_eq_true', beq_eq_false_iff_ne] at this
        exact ⟨by simp; omega, this.2⟩
      have h34 := (hall c (List.mem_cons_self ..)).2
      rw [List.cons_append, endB_cons, if_neg h34, ← List.cons_append, List.takeWhile_append_of_pos fun x hx => (hall x hx).1]
      rcases hr with rfl | ⟨r', rfl⟩
      · simp
      · simp
  · unfold quo
    rw [List.cons_append, endB_cons, if_pos (by decide), List.append_assoc, scanQ_flat]
    rw [List.cons_append, scanQ_cons, if_pos (by decide)]
    simp
theorem unq_len {w v : Bs} (h : unq w = some v) : v.length ≤ w.length := by
  have := quo_len v
  rw [unq_some h]; omega
/-! lists -/
theorem same_loop (an bn : Bool) (a : List Bs) (ha : a.length ≤ 1000000000) : ∀ (b : List Bs), a.length = b.length → ∀ t p u q, p ++ t = a → q ++ u = b → p.length = q.length → Evt fun n => ∀ k, t.length < k →
    r01_Same_L1 lb n k an (scv a) bn (scv b) (p.length : Int) = some (.bool (decide (t = u)))
  | b, hab, [], p, u, q, hp, hq, hpq => .all fun n k hk => by
    obtain ⟨k, rfl⟩ : ∃ m, k = m + 1 := ⟨k - 1, by simp at hk; omega⟩
    have hpa : p = a := by simpa using hp
    have hu : u = [] := by
      rw [← hq, List.length_append] at hab
      rw [hpa] at hpq
      exact List.eq_nil_of_length_eq_zero (by omega)
    rw [r01_Same_L1_succ, decF (by rw [hpa, scv_len]; omega), cond_false, r01_Same_J2_eq, hu]
    rfl
  | b, hab, x :: t, p, u, q, hp, hq, hpq => by
    have hal : a.length = p.length + (t.length + 1) := by rw [← hp]; simp
    have hbl : b.length = q.length + u.length := by rw [← hq]; simp
    obtain ⟨y, u', rfl⟩ : ∃ y u', u = y :: u' := List.exists_cons_of_ne_nil (fun e => by rw [e] at hbl; simp at hbl; omega)
    have hat : atL (scv a) (p.length : Int) = some [.str x] := atL_ok (scv_get (by rw [← hp]; simp))
    have hbt : atL (scv b) (p.length : Int) = some [.str y] := atL_ok (scv_get (by rw [← hq, hpq]; simp))
    refine (same_loop an bn a ha b hab t (p ++ [x]) u' (q ++ [y]) (by rw [← hp]; simp) (by rw [← hq]; simp) (by simp [hpq])).mono fun n hn k hk => ?_
    obtain ⟨k, rfl⟩ : ∃ m, k = m + 1 := ⟨k - 1, by simp at hk; omega⟩
    have hn := hn k (by simp at hk; omega)
    rw [r01_Same_L1_succ, decT (by rw [scv_len]; omega), cond_true]
    simp only [hat, hbt, optO_s, List.length_cons, List.length_nil, Nat.zero_add, beq_self_eq_true, chkO_t, get0, asS_s, wrap64 (x := (p.length : Int) + 1) (by omega) (by omega)]
    rw [show (p.length : Int) + 1 = ((p ++ [x]).length : Int) by simp, hn]
    by_cases h : x = y
    · subst h; simp
    · have : (x == y) = false := by simpa using h
      simp [this, h]
theorem r01_Same_ret (an bn : Bool) (a b : List Bs) (ha : a.length ≤ 1000000000) : Ret lb F_r01_Same [.list an (scv a), .list bn (scv b)] (.bool (decide (a = b))) := by
  refine .top rfl (.eq (fun n => by rw [r01_Same_eq]) ?_)
  simp only [scv_len]
  by_cases h : a.length = b.length
  · simp only [bneF (show (a.length : Int) = (b.length : Int) by omega), cond_false]
    exact Evt.diag (same_loop lb an bn a ha b h a [] b [] rfl rfl rfl)
  · simp only [bneT (show (a.length : Int) ≠ (b.length : Int) by omega), cond_true]
    rw [decF (fun e => h (by rw [e]))]
    exact .done
def longB (l : List Bs) (m : Int) : Bool := decide ((l.length : Int) > m) || decide ((sumLen l : Int) > m)
end Go.Proofs
