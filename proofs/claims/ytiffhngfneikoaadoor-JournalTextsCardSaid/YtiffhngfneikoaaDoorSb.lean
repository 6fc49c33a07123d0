/- Clashes of journals on plain data. Conditions: as each says. -/
import Derived.Test.YtiffhngfneikoaaDoorSa
set_option linter.unusedSimpArgs false
namespace Go.Proofs
open Go.Am
variable (lb : Bool)
/-! the plain law -/
def clashB (a b : List Rc) : Nat → Option (Rc × Rc)
  | 0 => none
  | i + 1 => match a[i]?, b[i]? with
    | some x, some y => if x = y then clashB a b i else some (x, y)
    | _, _ => none
def lastR (l : List Rc) : Rc := l.getLast?.getD (0, [], 0)
def clashR (a b : List Rc) : Option (Rc × Rc) :=
  if (verB 0 0 a).2 ≠ 0 then none else if (verB 0 0 b).2 ≠ 0 then none else if a.length ≠ b.length then none else if (lastR a).2.2 ≠ (lastR b).2.2 then none else clashB a b a.length
theorem ver_ok : ∀ (t : List Rc) (before : Int) (i : Nat), 0 ≤ before → before < 2147483647 → (verB before i t).2 = 0 → ∀ (j : Nat) (x : Rc), t[j]? = some x → x.1 = ((i + j + 1 : Nat) : Int) ∧ 0 ≤ x.2.2 ∧ x.2.2 < 2147483647 ∧ ∀ z, t[j + 1]? = some z → z.2.2 = sumB x.2.2 z.2.1
  | [], _, _, _, _, _, j, x, h => by simp at h
  | y :: t, before, i, b0, b1, hv, j, x, h => by
    have step : ∀ (y : Rc) (t : List Rc) (before : Int) (i : Nat), (verB before i (y :: t)).2 = 0 → y.1 = ((i + 1 : Nat) : Int) ∧ y.2.2 = sumB before y.2.1 ∧ (verB y.2.2 (i + 1) t).2 = 0 := by
      intro y t before i hv
      unfold verB at hv
      split at hv
      · simp at hv
      · rename_i q1
        split at hv
        · simp at hv
        · split at hv
          · simp at hv
          · rename_i q3
            exact ⟨by simpa using q1, by simpa using q3, hv⟩
    obtain ⟨s1, s2, s3⟩ := step y t before i hv
    have r := sumB_range b0 b1 y.2.1
    rw [← s2] at r
    cases j with
    | zero =>
      simp only [List.getElem?_cons_zero, Option.some.injEq] at h
      subst h
      refine ⟨by simpa using s1, r.1, r.2, fun z hz => ?_⟩
      simp only [Nat.zero_add, List.getElem?_cons_succ] at hz
      cases t with
      | nil => simp at hz
      | cons w t =>
        simp only [List.getElem?_cons_zero, Option.some.injEq] at hz
        subst hz
        exact (step w t y.2.2 (i + 1) s3).2.1
    | succ j =>
      have := ver_ok t y.2.2 (i + 1) r.1 r.2 s3 j x (by simpa using h)
      refine ⟨by rw [this.1]; congr 1; omega, this.2.1, this.2.2.1, fun z hz => this.2.2.2 z (by simpa using hz)⟩
theorem clashB_some {a b : List Rc} : ∀ {i : Nat} {x y : Rc}, clashB a b i = some (x, y) → ∃ j, j < i ∧ a[j]? = some x ∧ b[j]? = some y ∧ x ≠ y ∧ ∀ m, j < m → m < i → a[m]? = b[m]?
  | 0, _, _, h => by simp [clashB] at h
  | i + 1, x, y, h => by
    unfold clashB at h
    split at h
    · rename_i u v hu hv
      split at h
      · rename_i e
        obtain ⟨j, h1, h2, h3, h4, h5⟩ := clashB_some h
        refine ⟨j, by omega, h2, h3, h4, fun m m1 m2 => ?_⟩
        by_cases e2 : m = i
        · subst e2; rw [hu, hv, e]
        · exact h5 m m1 (by omega)
      · rename_i e
        simp only [Option.some.injEq, Prod.mk.injEq] at h
        obtain ⟨rfl, rfl⟩ := h
        exact ⟨i, by omega, hu, hv, e, fun m m1 m2 => by omega⟩
    · cases h
theorem clashB_none {a b : List Rc} (hab : a.length = b.length) : ∀ {i : Nat}, i ≤ a.length → clashB a b i = none → ∀ m, m < i → a[m]? = b[m]?
  | 0, _, _, m, hm => by omega
  | i + 1, hi, h, m, hm => by
    unfold clashB at h
    have ha : a[i]? = some a[i] := List.getElem?_eq_getElem (by omega)
    have hb : b[i]? = some b[i] := List.getElem?_eq_getElem (by omega)
    rw [ha, hb] at h
    simp only at h
    split at h
    · rename_i e
      by_cases e2 : m = i
      · subst e2; rw [ha, hb, e]
      · exact clashB_none hab (by omega) h m (by omega)
    · cases h
theorem clash_same {a b : List Rc} (hab : a.length = b.length) (h : clashB a b a.length = none) : a = b := by
  refine List.ext_getElem? fun m => ?_
  by_cases hm : m < a.length
  · exact clashB_none hab (Nat.le_refl _) h m hm
  · rw [List.getElem?_eq_none (by omega), List.getElem?_eq_none (by omega)]
theorem clash_differ {a b : List Rc} (va : (verB 0 0 a).2 = 0) (vb : (verB 0 0 b).2 = 0) (hab : a.length = b.length) (hl : (lastR a).2.2 = (lastR b).2.2) {x y : Rc} (h : clashB a b a.length = some (x, y)) :
    a ≠ b ∧ x.2.1 ≠ y.2.1 ∧ x.2.2 = y.2.2 := by
  obtain ⟨j, h1, h2, h3, h4, h5⟩ := clashB_some h
  have A := ver_ok a 0 0 (by omega) (by omega) va j x h2
  have Bv := ver_ok b 0 0 (by omega) (by omega) vb j y h3
  have hs : x.2.2 = y.2.2 := by
    by_cases e : j + 1 < a.length
    · have e1 := h5 (j + 1) (by omega) e
      have e2 : a[j + 1]? = some a[j + 1] := List.getElem?_eq_getElem e
      have z1 := A.2.2.2 _ e2
      have z2 := Bv.2.2.2 _ (e1.symm.trans e2)
      exact sumB_inj A.2.1 A.2.2.1 Bv.2.1 Bv.2.2.1 (z1.symm.trans z2)
    · have e1 : j = a.length - 1 := by omega
      have e2 : j = b.length - 1 := by omega
      unfold lastR at hl
      rw [List.getLast?_eq_getElem?, List.getLast?_eq_getElem?, ← e1, ← e2, h2, h3] at hl
      exact hl
  refine ⟨fun e => ?_, fun e => h4 ?_, hs⟩
  · subst e
    rw [h2] at h3
    exact h4 (Option.some.inj h3)
  · have : x.1 = y.1 := by rw [A.1, Bv.1]
    exact Prod.ext this (Prod.ext e hs)

/-! the functions -/
def clashV : Option (Rc × Rc) → CV
  | none => .tup [.agg [.int .i64 0, .str [], .int .i64 0], .agg [.int .i64 0, .str [], .int .i64 0], .bool false]
  | some (x, y) => .tup [.agg [.int .i64 x.1, .str x.2.1, .int .i64 x.2.2], .agg [.int .i64 y.1, .str y.2.1, .int .i64 y.2.2], .bool true]
theorem rec_beq (x y : Rc) : ((x.1 == y.1) && ((x.2.1 == y.2.1) && ((x.2.2 == y.2.2) && true))) = decide (x = y) := by
  by_cases h : x = y
  · subst h; simp
  · rw [decF h]
    cases hc : ((x.1 == y.1) && ((x.2.1 == y.2.1) && ((x.2.2 == y.2.2) && true))) with
    | false => rfl
    | true =>
      simp at hc
      exact absurd (Prod.ext hc.1 (Prod.ext hc.2.1 hc.2.2)) h
theorem clashB_succ {a b : List Rc} {i : Nat} {x y : Rc} (ea : a[i]? = some x) (eb : b[i]? = some y) : clashB a b (i + 1) = if x = y then clashB a b i else some (x, y) := by
  show (match a[i]?, b[i]? with
    | some x, some y => if x = y then clashB a b i else some (x, y)
    | _, _ => none) = _
  rw [ea, eb]
theorem jclash_loop (an bn : Bool) (a b : List Rc) (hab : a.length = b.length) (ha : a.length ≤ 1000000000) (x7 x10 x13 x15 x19 x21 x24 x26 r5 r11 r17 r22 : CV) : ∀ i, i ≤ a.length → Evt fun n => ∀ k, i < k →
    journal_Clash_L1 lb n k an (recv a) bn (recv b) x7 x10 x13 x15 x19 x21 x24 x26 r5 r11 r17 r22 ((i : Int) - 1) = some (clashV (clashB a b i)) := by
  intro i
  induction i with
  | zero =>
    intro _
    refine .all fun n k hk => ?_
    obtain ⟨k, rfl⟩ : ∃ m, k = m + 1 := ⟨k - 1, by omega⟩
    rw [journal_Clash_L1_succ]
    refine stF (decF (by omega)) ?_
    rw [journal_Clash_J2_eq]
    rfl
  | succ i ih =>
    intro hi
    refine (ih (by omega)).mono fun n hn k hk => ?_
    obtain ⟨k, rfl⟩ : ∃ m, k = m + 1 := ⟨k - 1, by omega⟩
    have hn := hn k (by omega)
    have ea : a[i]? = some a[i] := List.getElem?_eq_getElem (by omega)
    have eb : b[i]? = some b[i] := List.getElem?_eq_getElem (by omega)
    have hat := recv_at ea
    have hbt := recv_at eb
    rw [journal_Clash_L1_succ, show ((i + 1 : Nat) : Int) - 1 = (i : Int) by omega, wrap64 (by omega) (by omega)]
    rw [clashB_succ ea eb]
    refine stT (decT (by omega)) (stO _ hat (stC rfl (stO _ rfl (stO _ rfl (stO _ rfl (stO _ hbt (stC rfl (stO _ rfl (stO _ rfl (stO _ rfl (stO _ (asI_i ..) (stO _ (asI_i ..) (stO _ rfl (stO _ rfl (stO _ (asI_i ..) (stO _ (asI_i ..) ?_))))))))))))))))
    rw [rec_beq]
    by_cases e : a[i] = b[i]
    · rw [if_pos e]
      exact stF (by rw [decT e]; rfl) hn
    · rw [if_neg e]
      exact stT (by rw [decF e]; rfl) (stO _ hat (stC rfl (stO _ rfl (stO _ rfl (stO _ rfl (stO _ hbt (stC rfl (stO _ rfl (stO _ rfl (stO _ rfl rfl))))))))))
theorem rclash_loop (an bn : Bool) (a b : List Rc) (hab : a.length = b.length) (ha : a.length ≤ 1000000000) (x7 x10 x13 x15 r5 r11 : CV) : ∀ i, i ≤ a.length → Evt fun n => ∀ k, i < k →
    r36_Clash_L1 lb n k an (recv a) bn (recv b) x7 x10 x13 x15 r5 r11 ((i : Int) - 1) = some (clashV (clashB a b i)) := by
  intro i
  induction i with
  | zero =>
    intro _
    refine .all fun n k hk => ?_
    obtain ⟨k, rfl⟩ : ∃ m, k = m + 1 := ⟨k - 1, by omega⟩
    rw [r36_Clash_L1_succ]
    refine stF (decF (by omega)) ?_
    rw [r36_Clash_J2_eq]
    rfl
  | succ i ih =>
    intro hi
    refine (ih (by omega)).mono fun n hn k hk => ?_
    obtain ⟨k, rfl⟩ : ∃ m, k = m + 1 := ⟨k - 1, by omega⟩
    have hn := hn k (by omega)
    have ea : a[i]? = some a[i] := List.getElem?_eq_getElem (by omega)
    have eb : b[i]? = some b[i] := List.getElem?_eq_getElem (by omega)
    have hat := recv_at ea
    have hbt := recv_at eb
    rw [r36_Clash_L1_succ, show ((i + 1 : Nat) : Int) - 1 = (i : Int) by omega, wrap64 (by omega) (by omega)]
    rw [clashB_succ ea eb]
    refine stT (decT (by omega)) (stO _ hat (stC rfl (stO _ rfl (stO _ rfl (stO _ rfl (stO _ hbt (stC rfl (stO _ rfl (stO _ rfl (stO _ rfl (stO _ (asI_i ..) (stO _ (asI_i ..) (stO _ rfl (stO _ rfl (stO _ (asI_i ..) (stO _ (asI_i ..) ?_))))))))))))))))
    rw [rec_beq]
    by_cases e : a[i] = b[i]
    · rw [if_pos e]
      exact stF (by rw [decT e]; rfl) hn
    · rw [if_neg e]
      exact stT (by rw [decF e]; rfl) (stO _ hat (stC rfl (stO _ rfl (stO _ rfl (stO _ rfl (stO _ hbt (stC rfl (stO _ rfl (stO _ rfl (stO _ rfl rfl))))))))))
theorem lastR_at {l : List Rc} (h : l ≠ []) : l[l.length - 1]? = some (lastR l) := by
  unfold lastR
  rw [List.getLast?_eq_getElem?]
  have := List.length_pos_iff.2 h
  rw [List.getElem?_eq_getElem (by omega)]
  rfl
theorem last_at {l : List Rc} (h : l ≠ []) (hl : l.length ≤ 1000000000) : atL (recv l) (IntKind.wrap .i64 (((recv l).length : Int) - 1)) = some [.int .i64 (lastR l).1, .str (lastR l).2.1, .int .i64 (lastR l).2.2] := by
  have := List.length_pos_iff.2 h
  rw [recv_len, wrap64 (by omega) (by omega), show (l.length : Int) - 1 = ((l.length - 1 : Nat) : Int) by omega]
  exact recv_at (lastR_at h)
theorem journal_last_ret (an : Bool) (l : List Rc) (hl : l.length ≤ 1000000000) : Ret lb F_journal_last [.list an (recv l)] (.tup [.int .i64 (lastR l).1, .int .i64 (lastR l).2.2]) := by
  refine .top rfl (.all fun n => ?_)
  rw [journal_last_eq]
  by_cases h : l = []
  · subst h
    exact stT rfl rfl
  · have := List.length_pos_iff.2 h
    exact stF (beqF (by rw [recv_len]; omega)) (stO _ (last_at h hl) (stC rfl (stO _ rfl (stO _ rfl (stO _ rfl rfl)))))
theorem journal_Clash_ret (an bn : Bool) (a b : List Rc) (ha : a.length ≤ 1000000000) (hb : b.length ≤ 1000000000) (ha2 : ∀ x ∈ a, x.2.1.length ≤ 1000000000) (hb2 : ∀ x ∈ b, x.2.1.length ≤ 1000000000) :
    Ret lb F_journal_Clash [.list an (recv a), .list bn (recv b)] (clashV (clashR a b)) := by
  have e1 := Evt.and (journal_Verify_ret lb an a ha ha2) (journal_Verify_ret lb bn b hb hb2)
  have e2 := Evt.and (journal_last_ret lb an a ha) (journal_last_ret lb bn b hb)
  have pre : ∀ {Q : Option CV → Prop} {n : Nat}, (C lb n F_journal_Verify [.list an (recv a)] = some (verV (verB 0 0 a)) ∧ C lb n F_journal_Verify [.list bn (recv b)] = some (verV (verB 0 0 b))) → True := fun _ => trivial
  clear pre
  unfold clashR
  by_cases q1 : (verB 0 0 a).2 = 0
  · by_cases q2 : (verB 0 0 b).2 = 0
    · by_cases q3 : a.length = b.length
      · by_cases q4 : (lastR a).2.2 = (lastR b).2.2
        · rw [if_neg (by simpa using q1), if_neg (by simpa using q2), if_neg (by simpa using q3), if_neg (by simpa using q4)]
          have lp := fun x7 x10 x13 x15 x19 x21 x24 x26 r5 r11 r17 r22 => jclash_loop lb an bn a b q3 ha x7 x10 x13 x15 x19 x21 x24 x26 r5 r11 r17 r22 a.length (Nat.le_refl _)
          refine .top rfl (Evt.imp2 (Evt.and e1 e2) (Evt.diag (lp (.int .i64 (verB 0 0 a).1) (.int .i64 (verB 0 0 a).2) (.int .i64 (verB 0 0 b).1) (.int .i64 (verB 0 0 b).2) (.int .i64 (lastR a).1) (.int .i64 (lastR a).2.2) (.int .i64 (lastR b).1) (.int .i64 (lastR b).2.2) (verV (verB 0 0 a)) (verV (verB 0 0 b)) (.tup [.int .i64 (lastR a).1, .int .i64 (lastR a).2.2]) (.tup [.int .i64 (lastR b).1, .int .i64 (lastR b).2.2]))) fun n ⟨⟨h1, h2⟩, h3, h4⟩ h5 => ?_)
          rw [journal_Clash_eq]
          refine stO _ h1 (stO _ rfl (stO _ rfl (stO _ rfl (stO _ rfl (stO _ h2 (stO _ rfl (stO _ rfl (stO _ rfl (stO _ rfl (stO _ h3 (stO _ rfl (stO _ rfl (stO _ rfl (stO _ rfl (stO _ h4 (stO _ rfl (stO _ rfl (stO _ rfl (stO _ rfl (stO _ (asI_i ..) (stF (bneF q1) (stO _ (asI_i ..) (stF (bneF q2) (stF (bneF (by rw [recv_len, recv_len, q3])) (stO _ (asI_i ..) (stO _ (asI_i ..) (stF (bneF q4) ?_)))))))))))))))))))))))))))
          rw [recv_len, wrap64 (by omega) (by omega)]
          exact h5
        · rw [if_neg (by simpa using q1), if_neg (by simpa using q2), if_neg (by simpa using q3), if_pos q4]
          refine .top rfl ((Evt.and e1 e2).mono fun n ⟨⟨h1, h2⟩, h3, h4⟩ => ?_)
          rw [journal_Clash_eq]
          exact stO _ h1 (stO _ rfl (stO _ rfl (stO _ rfl (stO _ rfl (stO _ h2 (stO _ rfl (stO _ rfl (stO _ rfl (stO _ rfl (stO _ h3 (stO _ rfl (stO _ rfl (stO _ rfl (stO _ rfl (stO _ h4 (stO _ rfl (stO _ rfl (stO _ rfl (stO _ rfl (stO _ (asI_i ..) (stF (bneF q1) (stO _ (asI_i ..) (stF (bneF q2) (stF (bneF (by rw [recv_len, recv_len, q3])) (stO _ (asI_i ..) (stO _ (asI_i ..) (stT (bneT q4) rfl)))))))))))))))))))))))))))
      · rw [if_neg (by simpa using q1), if_neg (by simpa using q2), if_pos q3]
        refine .top rfl ((Evt.and e1 e2).mono fun n ⟨⟨h1, h2⟩, h3, h4⟩ => ?_)
        rw [journal_Clash_eq]
        exact stO _ h1 (stO _ rfl (stO _ rfl (stO _ rfl (stO _ rfl (stO _ h2 (stO _ rfl (stO _ rfl (stO _ rfl (stO _ rfl (stO _ h3 (stO _ rfl (stO _ rfl (stO _ rfl (stO _ rfl (stO _ h4 (stO _ rfl (stO _ rfl (stO _ rfl (stO _ rfl (stO _ (asI_i ..) (stF (bneF q1) (stO _ (asI_i ..) (stF (bneF q2) (stT (bneT (by rw [recv_len, recv_len]; omega)) rfl))))))))))))))))))))))))
    · rw [if_neg (by simpa using q1), if_pos q2]
      refine .top rfl ((Evt.and e1 e2).mono fun n ⟨⟨h1, h2⟩, h3, h4⟩ => ?_)
      rw [journal_Clash_eq]
      exact stO _ h1 (stO _ rfl (stO _ rfl (stO _ rfl (stO _ rfl (stO _ h2 (stO _ rfl (stO _ rfl (stO _ rfl (stO _ rfl (stO _ h3 (stO _ rfl (stO _ rfl (stO _ rfl (stO _ rfl (stO _ h4 (stO _ rfl (stO _ rfl (stO _ rfl (stO _ rfl (stO _ (asI_i ..) (stF (bneF q1) (stO _ (asI_i ..) (stT (bneT q2) rfl)))))))))))))))))))))))
  · rw [if_pos q1]
    refine .top rfl ((Evt.and e1 e2).mono fun n ⟨⟨h1, h2⟩, h3, h4⟩ => ?_)
    rw [journal_Clash_eq]
    exact stO _ h1 (stO _ rfl (stO _ rfl (stO _ rfl (stO _ rfl (stO _ h2 (stO _ rfl (stO _ rfl (stO _ rfl (stO _ rfl (stO _ h3 (stO _ rfl (stO _ rfl (stO _ rfl (stO _ rfl (stO _ h4 (stO _ rfl (stO _ rfl (stO _ rfl (stO _ rfl (stO _ (asI_i ..) (stT (bneT q1) rfl)))))))))))))))))))))
theorem r36_Clash_ret (an bn : Bool) (a b : List Rc) (ha : a.length ≤ 1000000000) (hb : b.length ≤ 1000000000) (ha2 : ∀ x ∈ a, x.2.1.length ≤ 1000000000) (hb2 : ∀ x ∈ b, x.2.1.length ≤ 1000000000) :
    Ret lb F_r36_Clash [.list an (recv a), .list bn (recv b)] (clashV (clashR a b)) := by
  have e1 := Evt.and (r36_Verify_ret lb an a ha ha2) (r36_Verify_ret lb bn b hb hb2)
  unfold clashR
  by_cases q1 : (verB 0 0 a).2 = 0
  · by_cases q2 : (verB 0 0 b).2 = 0
    · by_cases q3 : a.length = b.length
      · by_cases q0 : a = []
        · have q0b : b = [] := List.eq_nil_of_length_eq_zero (by rw [← q3, q0]; rfl)
          have : (if (verB 0 0 a).2 ≠ 0 then none else if (verB 0 0 b).2 ≠ 0 then none else if a.length ≠ b.length then none else if (lastR a).2.2 ≠ (lastR b).2.2 then none else clashB a b a.length) = none := by
            subst q0 q0b
            rfl
          rw [this]
          refine .top rfl (e1.mono fun n ⟨h1, h2⟩ => ?_)
          rw [r36_Clash_eq]
          exact stO _ h1 (stO _ rfl (stO _ rfl (stO _ rfl (stO _ rfl (stO _ h2 (stO _ rfl (stO _ rfl (stO _ rfl (stO _ rfl (stO _ (asI_i ..) (stF (bneF q1) (stO _ (asI_i ..) (stF (bneF q2) (stF (bneF (by rw [recv_len, recv_len, q3])) (stT (beqT (by rw [recv_len, q0]; rfl)) rfl)))))))))))))))
        · have q0b : b ≠ [] := fun e => q0 (List.eq_nil_of_length_eq_zero (by rw [q3, e]; rfl))
          have hlp := List.length_pos_iff.2 q0
          by_cases q4 : (lastR a).2.2 = (lastR b).2.2
          · rw [if_neg (by simpa using q1), if_neg (by simpa using q2), if_neg (by simpa using q3), if_neg (by simpa using q4)]
            have lp := fun x7 x10 x13 x15 r5 r11 => rclash_loop lb an bn a b q3 ha x7 x10 x13 x15 r5 r11 a.length (Nat.le_refl _)
            refine .top rfl (Evt.imp2 e1 (Evt.diag (lp (.int .i64 (verB 0 0 a).1) (.int .i64 (verB 0 0 a).2) (.int .i64 (verB 0 0 b).1) (.int .i64 (verB 0 0 b).2) (verV (verB 0 0 a)) (verV (verB 0 0 b)))) fun n ⟨h1, h2⟩ h5 => ?_)
            rw [r36_Clash_eq]
            refine stO _ h1 (stO _ rfl (stO _ rfl (stO _ rfl (stO _ rfl (stO _ h2 (stO _ rfl (stO _ rfl (stO _ rfl (stO _ rfl (stO _ (asI_i ..) (stF (bneF q1) (stO _ (asI_i ..) (stF (bneF q2) (stF (bneF (by rw [recv_len, recv_len, q3])) (stF (beqF (by rw [recv_len]; omega)) (stO _ (last_at q0 ha) (stC rfl (stO _ rfl (stO _ (last_at q0b hb) (stC rfl (stO _ rfl (stO _ (asI_i ..) (stO _ (asI_i ..) (stF (bneF q4) ?_))))))))))))))))))))))))
            rw [recv_len, wrap64 (by omega) (by omega)]
            exact h5
          · rw [if_neg (by simpa using q1), if_neg (by simpa using q2), if_neg (by simpa using q3), if_pos q4]
            refine .top rfl (e1.mono fun n ⟨h1, h2⟩ => ?_)
            rw [r36_Clash_eq]
            exact stO _ h1 (stO _ rfl (stO _ rfl (stO _ rfl (stO _ rfl (stO _ h2 (stO _ rfl (stO _ rfl (stO _ rfl (stO _ rfl (stO _ (asI_i ..) (stF (bneF q1) (stO _ (asI_i ..) (stF (bneF q2) (stF (bneF (by rw [recv_len, recv_len, q3])) (stF (beqF (by rw [recv_len]; omega)) (stO _ (last_at q0 ha) (stC rfl (stO _ rfl (stO _ (last_at q0b hb) (stC rfl (stO _ rfl (stO _ (asI_i ..) (stO _ (asI_i ..) (stT (bneT q4) rfl))))))))))))))))))))))))
      · rw [if_neg (by simpa using q1), if_neg (by simpa using q2), if_pos q3]
        refine .top rfl (e1.mono fun n ⟨h1, h2⟩ => ?_)
        rw [r36_Clash_eq]
        exact stO _ h1 (stO _ rfl (stO _ rfl (stO _ rfl (stO _ rfl (stO _ h2 (stO _ rfl (stO _ rfl (stO _ rfl (stO _ rfl (stO _ (asI_i ..) (stF (bneF q1) (stO _ (asI_i ..) (stF (bneF q2) (stT (bneT (by rw [recv_len, recv_len]; omega)) rfl))))))))))))))
    · rw [if_neg (by simpa using q1), if_pos q2]
      refine .top rfl (e1.mono fun n ⟨h1, h2⟩ => ?_)
      rw [r36_Clash_eq]
      exact stO _ h1 (stO _ rfl (stO _ rfl (stO _ rfl (stO _ rfl (stO _ h2 (stO _ rfl (stO _ rfl (stO _ rfl (stO _ rfl (stO _ (asI_i ..) (stF (bneF q1) (stO _ (asI_i ..) (stT (bneT q2) rfl)))))))))))))
  · rw [if_pos q1]
    refine .top rfl (e1.mono fun n ⟨h1, h2⟩ => ?_)
    rw [r36_Clash_eq]
    exact stO _ h1 (stO _ rfl (stO _ rfl (stO _ rfl (stO _ rfl (stO _ h2 (stO _ rfl (stO _ rfl (stO _ rfl (stO _ rfl (stO _ (asI_i ..) (stT (bneT q1) rfl)))))))))))
/-! Same -/
theorem rsame_loop (an bn : Bool) (a b : List Rc) (hab : a.length = b.length) (ha : a.length ≤ 1000000000) : ∀ t p u q, p ++ t = a → q ++ u = b → p.length = q.length → Evt fun n => ∀ k, t.length < k →
    r36_Same_L1 lb n k an (recv a) bn (recv b) (p.length : Int) = some (.bool (decide (t = u))) := by
  intro t
  induction t with
  | nil =>
    intro p u q hp hq hpq
    refine .all fun n k hk => ?_
    obtain ⟨k, rfl⟩ : ∃ m, k = m + 1 := ⟨k - 1, by simp at hk; omega⟩
    have hpa : p = a := by simpa using hp
    have hu : u = [] := by
      rw [← hq, List.length_append] at hab
      rw [hpa] at hpq
      exact List.eq_nil_of_length_eq_zero (by omega)
    rw [r36_Same_L1_succ]
    refine stF (decF (by rw [hpa, recv_len]; omega)) ?_
    rw [r36_Same_J2_eq, hu]
    rfl
  | cons x t ih =>
    intro p u q hp hq hpq
    have hal : a.length = p.length + (t.length + 1) := by rw [← hp]; simp
    have hbl : b.length = q.length + u.length := by rw [← hq]; simp
    obtain ⟨y, u', rfl⟩ : ∃ y u', u = y :: u' := List.exists_cons_of_ne_nil (fun e => by rw [e] at hbl; simp at hbl; omega)
    have hat := recv_at (l := a) (i := p.length) (x := x) (by rw [← hp]; simp)
    have hbt := recv_at (l := b) (i := p.length) (x := y) (by rw [← hq, hpq]; simp)
    refine (ih (p ++ [x]) u' (q ++ [y]) (by rw [← hp]; simp) (by rw [← hq]; simp) (by simp [hpq])).mono fun n hn k hk => ?_
    obtain ⟨k, rfl⟩ : ∃ m, k = m + 1 := ⟨k - 1, by simp at hk; omega⟩
    have hn := hn k (by simp at hk; omega)
    rw [r36_Same_L1_succ, wrap64 (by omega) (by omega), show (p.length : Int) + 1 = ((p ++ [x]).length : Int) by simp]
    refine stT (decT (by rw [recv_len]; omega)) (stO _ hat (stC rfl (stO _ rfl (stO _ rfl (stO _ rfl (stO _ hbt (stC rfl (stO _ rfl (stO _ rfl (stO _ rfl (stO _ (asI_i ..) (stO _ (asI_i ..) (stO _ rfl (stO _ rfl (stO _ (asI_i ..) (stO _ (asI_i ..) ?_))))))))))))))))
    rw [rec_beq]
    by_cases e : x = y
    · refine stF (by rw [decT e]; rfl) ?_
      rw [hn]
      simp [e]
    · refine stT (by rw [decF e]; rfl) ?_
      simp [e]
theorem r36_Same_ret (an bn : Bool) (a b : List Rc) (ha : a.length ≤ 1000000000) : Ret lb F_r36_Same [.list an (recv a), .list bn (recv b)] (.bool (decide (a = b))) := by
  by_cases h : a.length = b.length
  · refine .top rfl ((Evt.diag (rsame_loop lb an bn a b h ha a [] b [] rfl rfl rfl)).mono fun n hn => ?_)
    rw [r36_Same_eq]
    exact stF (bneF (by rw [recv_len, recv_len, h])) hn
  · refine .top rfl (.all fun n => ?_)
    rw [r36_Same_eq]
    refine stT (bneT (by rw [recv_len, recv_len]; omega)) ?_
    rw [decF (fun e => h (by rw [e]))]
end Go.Proofs
