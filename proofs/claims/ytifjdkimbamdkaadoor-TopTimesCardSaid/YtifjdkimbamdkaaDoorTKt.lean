/- The law TopTimes on plain data: legs of a flight take time and depart at their local times. Conditions: as each says. -/
import Derived.Test.YtifjdkimbamdkaaDoorTKi
import Derived.Test.YtifjdkimbamdkaaDoorTGt
set_option linter.unusedSimpArgs false
set_option linter.unusedVariables false
namespace Go.Proofs
open Go.Am
variable (lb : Bool)
/-! zones -/
def offG (u : Int) : Int → List Sh → Int
  | o, [] => o
  | o, x :: r => if x.1 > u then o else offG u x.2 r
theorem zone_Offset_ret (off : Int) (sn : Bool) (sh : List Sh) (u : Int) (h : sh.length ≤ 281474976710656) : Ret lb F_zone_Offset [.agg [.int .i64 off, .list sn (sh.map shcv)], .int .i64 u] (.int .i64 (offG u off sh)) := by
  refine .top rfl (.eq (fun n => by rw [zone_Offset_eq]) ?_)
  have key := loopL (enc := shcv) (l := sh) h (P := fun q t n k => ∀ o, zone_Offset_L1 lb n k off sn (sh.map shcv) u (.int .i64 o) (q.length : Int) = some (.int .i64 (offG u o t))) (by
    refine .all fun n k o => ?_
    rw [zone_Offset_L1_succ]
    refine stF (decF (by simp)) ?_
    rw [zone_Offset_J3_eq]
    rfl) (by
    intro q x t hq hlt hat hw hev
    refine hev.mono fun n hn k hk o => ?_
    have hn := hn k hk x.2
    rw [zone_Offset_L1_succ]
    refine stT (decT hlt) (stO _ hat (stC rfl (stO _ rfl (stO _ rfl (stO _ rfl ?_)))))
    unfold offG
    by_cases c : x.1 > u
    · rw [if_pos c]
      refine stT (decT c) ?_
      rw [zone_Offset_J2_eq]
    · rw [if_neg c]
      refine stF (decF c) ?_
      rw [hw]
      exact hn) sh [] rfl
  exact (Evt.diag key).mono fun n hn => hn off
theorem zone_Local_ret (off : Int) (sn : Bool) (sh : List Sh) (u : Int) (h : sh.length ≤ 281474976710656) : Ret lb F_zone_Local [.agg [.int .i64 off, .list sn (sh.map shcv)], .int .i64 u] (.int .i64 (IntKind.wrap .i64 (u + offG u off sh))) :=
  .top rfl ((zone_Offset_ret lb off sn sh u h).mono fun n hn => by rw [zone_Local_eq]; exact stO _ hn (stO _ rfl rfl))
def hitS (loc : Int) (s : Int × Int × Int) : Bool := decide (IntKind.wrap .i64 (loc - s.2.2) ≥ s.1) && decide (IntKind.wrap .i64 (loc - s.2.2) < s.2.1)
theorem zone_times_ret (off : Int) (sn : Bool) (sh : List Sh) (loc : Int) (h : sh.length ≤ 100000) : Ret lb F_zone_times [.agg [.int .i64 off, .list sn (sh.map shcv)], .int .i64 loc] (.int .i64 (((spansF (-9223372036854775808) off sh).countP (hitS loc) : Nat) : Int)) := by
  refine .top rfl (.eq (fun n => by rw [zone_times_eq]) ?_)
  refine .call (zone_spans_ret lb off sn sh (by omega)) ?_
  simp only [asL_l, optO_s]
  obtain ⟨sp, hsp⟩ : ∃ sp, spansF (-9223372036854775808) off sh = sp := ⟨_, rfl⟩
  have hl : sp.length ≤ 100001 := by rw [← hsp, spans_len]; omega
  rw [hsp]
  have key := loopL (enc := span3c) (l := sp) (by omega) (P := fun q t n k => zone_times_L1 lb n k off sn (sh.map shcv) loc (.list false (sp.map span3c)) (false, sp.map span3c) ((q.countP (hitS loc) : Nat) : Int) (q.length : Int) = some (.int .i64 ((sp.countP (hitS loc) : Nat) : Int))) (by
    refine .all fun n k => ?_
    rw [zone_times_L1_succ]
    refine stF (decF (by simp)) ?_
    rw [zone_times_J2_eq]) (by
    intro q x t hq hlt hat hw hev
    refine hev.mono fun n hn k hk => ?_
    have hn := hn k hk
    have hql : q.length ≤ 100001 := by have : sp.length = q.length + (t.length + 1) := by rw [← hq]; simp
                                       omega
    have hc : q.countP (hitS loc) ≤ q.length := List.countP_le_length
    rw [List.countP_append] at hn
    rw [zone_times_L1_succ]
    refine stT (decT hlt) (stO _ rfl (stO _ hat (stC rfl (stO _ rfl (stO _ rfl (stO _ rfl (stO _ rfl (stO _ rfl ?_))))))))
    by_cases c1 : IntKind.wrap .i64 (loc - x.2.2) ≥ x.1
    · refine stT (decT c1) (stO _ rfl ?_)
      by_cases c2 : IntKind.wrap .i64 (loc - x.2.2) < x.2.1
      · refine stT (decT c2) ?_
        rw [hw, wrap64 (by omega) (by omega)]
        have : List.countP (hitS loc) [x] = 1 := by
          have hx : hitS loc x = true := by unfold hitS; rw [decT c1, decT c2]; rfl
          simp [List.countP_cons, hx]
        rw [this] at hn
        exact_mod_cast hn
      · refine stF (decF c2) ?_
        rw [hw]
        have : List.countP (hitS loc) [x] = 0 := by
          have hx : hitS loc x = false := by unfold hitS; rw [decF c2, Bool.and_false]
          simp [List.countP_cons, hx]
        rw [this] at hn
        exact hn
    · refine stF (decF c1) ?_
      rw [hw]
      have : List.countP (hitS loc) [x] = 0 := by
        have hx : hitS loc x = false := by unfold hitS; rw [decF c1]; rfl
        simp [List.countP_cons, hx]
      rw [this] at hn
      exact hn) sp [] rfl
  exact Evt.diag key
theorem zone_Exists_ret (off : Int) (sn : Bool) (sh : List Sh) (loc : Int) (h : sh.length ≤ 100000) : Ret lb F_zone_Exists [.agg [.int .i64 off, .list sn (sh.map shcv)], .int .i64 loc] (.bool ((spansF (-9223372036854775808) off sh).any (hitS loc))) := by
  refine .top rfl ((zone_times_ret lb off sn sh loc h).mono fun n hn => ?_)
  rw [zone_Exists_eq]
  refine stO _ hn (stO _ rfl ?_)
  congr 2
  rw [Bool.eq_iff_iff, decide_eq_true_eq, List.any_eq_true]
  rw [show (((List.countP (hitS loc) (spansF (-9223372036854775808) off sh) : Nat) : Int) > 0) ↔ 0 < List.countP (hitS loc) (spansF (-9223372036854775808) off sh) by omega, List.countP_pos_iff]
/-- shifts in order, and far apart -/
def Apart : Option Int → List Sh → Prop
  | _, [] => True
  | b, x :: r => (0 ≤ x.1 ∧ x.1 < 52596000) ∧ (∀ y, b = some y → y + 2880 ≤ x.1) ∧ (-840 ≤ x.2 ∧ x.2 ≤ 840) ∧ Apart (some x.1) r
def nearB (b : Option Int) (x : Int) : Bool := match b with | some y => decide (x - y < 2880) | none => false
theorem shE_cons (x : Sh) (r : List Sh) (b : Option Int) : shE b (x :: r) = if x.1 < 0 ∨ x.1 ≥ 52596000 then 13 else if nearB b x.1 = true then 13 else if okO x.2 then shE (some x.1) r else 2 := rfl
theorem apart_of : ∀ (l : List Sh) (b : Option Int), shE b l = 0 → Apart b l
  | [], _, _ => trivial
  | x :: r, b, h => by
    rw [shE_cons] at h
    by_cases h1 : x.1 < 0 ∨ x.1 ≥ 52596000
    · rw [if_pos h1] at h
      exact absurd h (by decide)
    rw [if_neg h1] at h
    by_cases h2 : nearB b x.1 = true
    · rw [if_pos h2] at h
      exact absurd h (by decide)
    rw [if_neg h2] at h
    by_cases h3 : okO x.2 = true
    · rw [if_pos h3] at h
      refine ⟨by omega, fun y hy => ?_, ?_, apart_of r _ h⟩
      · subst hy
        have h2' : ¬ decide (x.1 - y < 2880) = true := h2
        rw [decide_eq_true_eq] at h2'
        omega
      · unfold okO at h3
        simpa using h3
    · rw [if_neg h3] at h
      exact absurd h (by decide)
theorem apart_after : ∀ {l : List Sh} {a o : Int}, Apart (some a) l → (-840 ≤ o ∧ o ≤ 840) → ∀ s ∈ spansF a o l, a ≤ s.1 ∧ (-840 ≤ s.2.2 ∧ s.2.2 ≤ 840)
  | [], a, o, h, ho, s, hs => by
    simp only [spansF, List.mem_singleton] at hs
    subst hs
    exact ⟨Int.le_refl _, ho⟩
  | x :: r, a, o, h, ho, s, hs => by
    simp only [spansF, List.mem_cons] at hs
    rcases hs with rfl | hs
    · exact ⟨Int.le_refl _, ho⟩
    · have h1 := h.2.1 a rfl
      have := apart_after h.2.2.2 h.2.2.1 s hs
      exact ⟨by omega, this.2⟩
theorem utc_local (loc : Int) (hloc : -1000000000 ≤ loc ∧ loc ≤ 1000000000) : ∀ (l : List Sh) (o fr : Int) (b : Option Int), Apart b l → (-840 ≤ o ∧ o ≤ 840) → (fr = -9223372036854775808 ∨ (b = some fr ∧ 0 ≤ fr ∧ fr < 52596000)) →
    fr ≤ utcG loc (maxI (W64 (loc - o)) fr) l ∧ loc ≤ utcG loc (maxI (W64 (loc - o)) fr) l + offG (utcG loc (maxI (W64 (loc - o)) fr) l) o l ∧ utcG loc (maxI (W64 (loc - o)) fr) l ≤ 2000000000 ∧ -2000000000 ≤ utcG loc (maxI (W64 (loc - o)) fr) l ∧
    (-840 ≤ offG (utcG loc (maxI (W64 (loc - o)) fr) l) o l ∧ offG (utcG loc (maxI (W64 (loc - o)) fr) l) o l ≤ 840) ∧
    ((spansF fr o l).any (hitS loc) = true → utcG loc (maxI (W64 (loc - o)) fr) l + offG (utcG loc (maxI (W64 (loc - o)) fr) l) o l = loc)
  | [], o, fr, b, ha, ho, hf => by
    have hw : W64 (loc - o) = loc - o := wrap64 (by omega) (by omega)
    simp only [utcG, offG, spansF, List.any_cons, List.any_nil, Bool.or_false]
    rw [hw]
    unfold maxI hitS
    simp only
    rw [show IntKind.wrap .i64 (loc - o) = loc - o from hw]
    split <;> simp only [Bool.and_eq_true, decide_eq_true_eq] <;> refine ⟨by omega, by omega, by omega, by omega, by omega, fun h => by omega⟩
  | x :: r, o, fr, b, ha, ho, hf => by
    obtain ⟨h1, h2, h3, h4⟩ := ha
    have hw : W64 (loc - o) = loc - o := wrap64 (by omega) (by omega)
    have ih := utc_local loc hloc r x.2 x.1 (some x.1) h4 h3 (.inr ⟨rfl, h1⟩)
    obtain ⟨i1, i2, i3, i4, i5, i6⟩ := ih
    have haft := apart_after h4 h3
    simp only [utcG, spansF, List.any_cons]
    by_cases c : maxI (W64 (loc - o)) fr < x.1
    · rw [if_pos c]
      simp only [offG]
      rw [if_pos (by omega)]
      have hm : (maxI (W64 (loc - o)) fr = loc - o ∧ loc - o ≥ fr) ∨ (maxI (W64 (loc - o)) fr = fr ∧ loc - o < fr) := by rw [hw]; unfold maxI; split <;> omega
      refine ⟨by omega, by omega, by omega, by omega, ho, fun h => ?_⟩
      rcases hm with hm | hm
      · omega
      · exfalso
        have hfr : b = some fr ∧ 0 ≤ fr ∧ fr < 52596000 := by
          rcases hf with hf | hf
          · omega
          · exact hf
        have hgap := h2 fr hfr.1
        rw [Bool.or_eq_true] at h
        rcases h with h | h
        · unfold hitS at h
          simp only [Bool.and_eq_true, decide_eq_true_eq] at h
          rw [show IntKind.wrap .i64 (loc - o) = loc - o from hw] at h
          omega
        · obtain ⟨s, hs, hh⟩ := List.any_eq_true.1 h
          have := haft s hs
          unfold hitS at hh
          simp only [Bool.and_eq_true, decide_eq_true_eq] at hh
          rw [show IntKind.wrap .i64 (loc - s.2.2) = loc - s.2.2 from wrap64 (by omega) (by omega)] at hh
          omega
    · rw [if_neg c]
      simp only [offG]
      rw [if_neg (by omega)]
      have hm : maxI (W64 (loc - o)) fr ≥ x.1 := by omega
      refine ⟨?_, i2, i3, i4, i5, fun h => ?_⟩
      · rcases hf with hf | hf
        · omega
        · have := h2 fr hf.1; omega
      · rw [Bool.or_eq_true] at h
        rcases h with h | h
        · exfalso
          unfold hitS at h
          simp only [Bool.and_eq_true, decide_eq_true_eq] at h
          rw [show IntKind.wrap .i64 (loc - o) = loc - o from hw] at h
          rw [hw] at hm
          unfold maxI at hm
          split at hm
          · omega
          · rcases hf with hf | hf
            · omega
            · have := h2 fr hf.1; omega
        · exact i6 h
end Go.Proofs
