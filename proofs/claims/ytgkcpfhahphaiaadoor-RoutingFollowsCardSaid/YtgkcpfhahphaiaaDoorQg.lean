/- Which lists are ways: plain law. Conditions: none. -/
import Derived.Test.YtgkcpfhahphaiaaDoorQf
set_option linter.unusedVariables false
namespace Go.Proofs
open Go.Am
variable (lb : Bool)
theorem lastB_mem {w : List Bs} (h : w ≠ []) : lastB w ∈ w := by
  unfold lastB
  rw [List.getLast?_eq_some_getLast h]
  exact List.getLast_mem h
theorem lastB_app (w : List Bs) {t : List Bs} (h : t ≠ []) : lastB (w ++ t) = lastB t := by
  unfold lastB
  rw [List.getLast?_append, List.getLast?_eq_some_getLast h]
  rfl
theorem lastB_snoc (w : List Bs) (x : Bs) : lastB (w ++ [x]) = x := by simp [lastB]
theorem kidsB_iff {w v : List Bs} : ∀ {t : List Lk}, v ∈ kidsB w t ↔ ∃ y, (lastB w, y) ∈ t ∧ y ∉ w ∧ v = w ++ [y]
  | [] => by simp [kidsB]
  | x :: t => by
    by_cases h : x.1 ≠ lastB w ∨ x.2 ∈ w
    · rw [kidsB_skip h, kidsB_iff]
      constructor
      · rintro ⟨y, h1, h2, h3⟩
        exact ⟨y, List.mem_cons_of_mem _ h1, h2, h3⟩
      · rintro ⟨y, h1, h2, h3⟩
        rcases List.mem_cons.1 h1 with e | h1
        · subst e
          exact absurd h (fun e => e.elim (fun e => e rfl) h2)
        · exact ⟨y, h1, h2, h3⟩
    · rw [show kidsB w (x :: t) = (w ++ [x.2]) :: kidsB w t from if_neg h, List.mem_cons, kidsB_iff]
      have hx1 : x.1 = lastB w := Classical.byContradiction fun e => h (Or.inl e)
      constructor
      · rintro (rfl | ⟨y, h1, h2, h3⟩)
        · exact ⟨x.2, by rw [← hx1]; exact List.mem_cons_self .., fun e => h (Or.inr e), rfl⟩
        · exact ⟨y, List.mem_cons_of_mem _ h1, h2, h3⟩
      · rintro ⟨y, h1, h2, h3⟩
        rcases List.mem_cons.1 h1 with e | h1
        · left
          rw [h3, ← e]
        · exact Or.inr ⟨y, h1, h2, h3⟩
theorem ext_iff {L : List Lk} {to : Bs} : ∀ (s : Nat) (w x : List Bs), w ≠ [] → w.Nodup → (x ∈ extB L to s w ↔ ∃ t, x = w ++ t ∧ t.length = s ∧ stepsB L (lastB w) t = true ∧ (w ++ t).Nodup ∧ lastB (w ++ t) = to)
  | 0, w, x, h0, hn => by
    unfold extB
    constructor
    · intro h
      split at h
      · rename_i e
        have : x = w := by simpa using h
        exact ⟨[], by simp [this], rfl, rfl, by simpa using hn, by simpa using e⟩
      · cases h
    · rintro ⟨t, rfl, h1, _, _, h4⟩
      obtain rfl := List.length_eq_zero_iff.1 h1
      rw [List.append_nil] at h4 ⊢
      rw [if_pos h4]
      exact List.mem_cons_self ..
  | s + 1, w, x, h0, hn => by
    unfold extB
    by_cases e : lastB w = to
    · rw [if_pos e]
      constructor
      · intro h; cases h
      · rintro ⟨t, rfl, h1, _, h3, h4⟩
        have ht : t ≠ [] := fun e => by rw [e] at h1; simp at h1
        rw [lastB_app w ht] at h4
        have m1 := lastB_mem h0
        have m2 := lastB_mem ht
        rw [e] at m1
        rw [h4] at m2
        exact absurd rfl ((List.nodup_append.1 h3).2.2 to m1 to m2)
    · rw [if_neg e, List.mem_flatMap]
      constructor
      · rintro ⟨v, h1, h2⟩
        obtain ⟨y, k1, k2, rfl⟩ := kidsB_iff.1 h1
        have hv : (w ++ [y]).Nodup := List.nodup_append.2 ⟨hn, by simp, fun a ha b hb => by
          have : b = y := by simpa using hb
          rw [this]
          exact fun e => k2 (e ▸ ha)⟩
        obtain ⟨t, rfl, j1, j2, j3, j4⟩ := (ext_iff s (w ++ [y]) x (by simp) hv).1 h2
        rw [lastB_snoc] at j2
        refine ⟨y :: t, by simp, by simp [j1], ?_, by simpa using j3, by simpa using j4⟩
        unfold stepsB
        rw [decT k1, j2]
        rfl
      · rintro ⟨t, rfl, j1, j2, j3, j4⟩
        cases t with
        | nil => simp at j1
        | cons y t =>
          unfold stepsB at j2
          have k1 : (lastB w, y) ∈ L := by
            have := (Bool.and_eq_true_iff.1 j2).1
            simpa using this
          have k3 := (Bool.and_eq_true_iff.1 j2).2
          have k2 : y ∉ w := fun hy => (List.nodup_append.1 j3).2.2 y hy y (List.mem_cons_self ..) rfl
          have hv : (w ++ [y]).Nodup := List.nodup_append.2 ⟨hn, by simp, fun a ha b hb => by
            have : b = y := by simpa using hb
            rw [this]
            exact fun e => k2 (e ▸ ha)⟩
          refine ⟨w ++ [y], kidsB_iff.2 ⟨y, k1, k2, rfl⟩, (ext_iff s (w ++ [y]) _ (by simp) hv).2 ⟨t, by simp, by simpa using j1, by rw [lastB_snoc]; exact k3, by simpa using j3, by simpa using j4⟩⟩
theorem upTo_iff {L : List Lk} {a b : Bs} {m : Nat} {x : List Bs} : x ∈ upTo L b m [[a]] ↔ ∃ t, x = a :: t ∧ 1 ≤ t.length ∧ t.length ≤ m ∧ stepsB L a t = true ∧ (a :: t).Nodup ∧ lastB (a :: t) = b := by
  unfold upTo
  rw [List.mem_flatMap]
  constructor
  · rintro ⟨k, h1, h2⟩
    have h3 : x ∈ extB L b (k + 1) [a] := by simpa using h2
    obtain ⟨t, rfl, j1, j2, j3, j4⟩ := (ext_iff (k + 1) [a] x (by simp) (by simp)).1 h3
    have := List.mem_range.1 h1
    exact ⟨t, rfl, by omega, by omega, j2, j3, j4⟩
  · rintro ⟨t, rfl, j0, j1, j2, j3, j4⟩
    refine ⟨t.length - 1, List.mem_range.2 (by omega), ?_⟩
    have h3 : a :: t ∈ extB L b (t.length - 1 + 1) [a] := (ext_iff _ [a] _ (by simp) (by simp)).2 ⟨t, rfl, by omega, j2, j3, j4⟩
    simpa using h3
/-! a city twice -/
def twB (p : List Bs) : List Bs → Bool
  | [] => false
  | x :: t => decide (x ∈ p) || twB (p ++ [x]) t
theorem twB_iff : ∀ (t p : List Bs), p.Nodup → (twB p t = false ↔ (p ++ t).Nodup)
  | [], p, h => by simp [twB, h]
  | x :: t, p, h => by
    unfold twB
    by_cases hx : x ∈ p
    · constructor
      · intro e; rw [decT hx] at e; cases e
      · intro e; exact absurd rfl ((List.nodup_append.1 e).2.2 x hx x (List.mem_cons_self ..))
    · have hp : (p ++ [x]).Nodup := List.nodup_append.2 ⟨h, by simp, fun a ha b hb => by
        have : b = x := by simpa using hb
        rw [this]
        exact fun e => hx (e ▸ ha)⟩
      rw [decF hx, Bool.false_or, twB_iff t (p ++ [x]) hp]
      simp
theorem twice_inner (an : Bool) (w p : List Bs) (x : Bs) (t : List Bs) (hw : p ++ x :: t = w) (hl : w.length ≤ 1000000000) (n k0 : Nat) : ∀ r q, q ++ r = p → ∀ k, r.length < k →
    l22_twice_L2 lb n k k0 an (scv w) (p.length : Int) (q.length : Int) = if x ∈ r then some (.bool true) else l22_twice_L1 lb n k0 an (scv w) (IntKind.wrap .i64 ((p.length : Int) + 1)) := by
  intro r
  induction r with
  | nil =>
    intro q hq k hk
    obtain ⟨k, rfl⟩ : ∃ m, k = m + 1 := ⟨k - 1, by simp at hk; omega⟩
    have hqp : q = p := by simpa using hq
    rw [l22_twice_L2_succ]
    refine stF (decF (by rw [hqp]; omega)) ?_
    rw [l22_twice_J3_eq]
    rfl
  | cons y r ih =>
    intro q hq k hk
    obtain ⟨k, rfl⟩ : ∃ m, k = m + 1 := ⟨k - 1, by simp at hk; omega⟩
    have hlp : p.length = q.length + (r.length + 1) := by rw [← hq]; simp
    have hlw : w.length = p.length + (t.length + 1) := by rw [← hw]; simp
    have hx : atL (scv w) (p.length : Int) = some [.str x] := atL_ok (scv_get (by rw [← hw]; simp))
    have hy : atL (scv w) (q.length : Int) = some [.str y] := atL_ok (scv_get (by rw [← hw, ← hq]; simp))
    rw [l22_twice_L2_succ]
    refine stT (decT (by omega)) (stO _ hx (stC rfl (stO _ rfl (stO _ hy (stC rfl (stO _ rfl (stO _ rfl (stO _ rfl ?_))))))))
    by_cases e : x = y
    · refine stT (by simp [e]) ?_
      rw [if_pos (by simp [e])]
    · refine stF (by simp [e]) ?_
      rw [show IntKind.wrap .i64 ((q.length : Int) + 1) = ((q ++ [y]).length : Int) by rw [wrap64 (by omega) (by omega)]; simp]
      rw [ih (q ++ [y]) (by rw [← hq]; simp) k (by simp at hk; omega)]
      by_cases e2 : x ∈ r
      · rw [if_pos e2, if_pos (List.mem_cons_of_mem _ e2)]
      · rw [if_neg e2, if_neg (by simp [e, e2])]
theorem twice_ret (an : Bool) (w : List Bs) (hl : w.length ≤ 1000000000) : Ret lb F_l22_twice [.list an (scv w)] (.bool (twB [] w)) := by
  refine .top rfl (.eq (fun n => by rw [l22_twice_eq]) ?_)
  have hh : ∀ t p, p ++ t = w → ∀ n, w.length < n → ∀ k, t.length < k → l22_twice_L1 lb n k an (scv w) (p.length : Int) = some (.bool (twB p t)) := by
    intro t
    induction t with
    | nil =>
      intro p hp n hn k hk
      obtain ⟨k, rfl⟩ : ∃ m, k = m + 1 := ⟨k - 1, by simp at hk; omega⟩
      have hpw : p = w := by simpa using hp
      rw [l22_twice_L1_succ]
      refine stF (decF (by rw [hpw, scv_len]; omega)) ?_
      rw [l22_twice_J4_eq]
      rfl
    | cons x t ih =>
      intro p hp n hn k hk
      obtain ⟨k, rfl⟩ : ∃ m, k = m + 1 := ⟨k - 1, by simp at hk; omega⟩
      have hlw : w.length = p.length + (t.length + 1) := by rw [← hp]; simp
      rw [l22_twice_L1_succ]
      refine stT (decT (by rw [scv_len]; omega)) ?_
      refine Eq.trans (twice_inner lb an w p x t hp hl n k p [] rfl n (by omega)) ?_
      unfold twB
      by_cases e : x ∈ p
      · rw [if_pos e, decT e]
        rfl
      · rw [if_neg e, decF e, Bool.false_or, show IntKind.wrap .i64 ((p.length : Int) + 1) = ((p ++ [x]).length : Int) by rw [wrap64 (by omega) (by omega)]; simp]
        exact ih (p ++ [x]) (by rw [← hp]; simp) n hn k (by simp at hk; omega)
  exact (Evt.ge (w.length + 1)).mono fun n hn => hh w [] rfl n (by omega) n (by omega)
end Go.Proofs
