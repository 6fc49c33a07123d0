/- Chapter 7 on plain data: what is known of a flight without faults. Conditions: as each says. -/
import Derived.Test.YtifjdkimbamdkaaDoorTKi
set_option linter.unusedSimpArgs false
set_option linter.unusedVariables false
namespace Go.Proofs
open Go.Am
def ArgP (p : Pc) : Prop := p.aps.length ≤ 281474976710656 ∧ p.dis.length ≤ 281474976710656 ∧ ∀ a ∈ p.aps, a.code.length ≤ 281474976710656 ∧ a.city.length ≤ 281474976710656 ∧ a.ctry.length ≤ 281474976710656
def ArgF (f : Fl) : Prop := f.car.length ≤ 281474976710656 ∧ f.legs.length ≤ 281474976710656 ∧ ∀ x ∈ f.legs, lgLen x ≤ 1000000000000000
theorem lst_pos (F : List Ft) : decide (((F.map ftenc).length : Int) > 0) = !F.isEmpty := by cases F with
  | nil => rfl
  | cons e F => exact decT (by simp)
theorem lst_len (F : List Ft) : (((F.map ftenc).length : Int) == 0) = F.isEmpty := by cases F with
  | nil => rfl
  | cons e F => exact beqF (by simp; omega)
theorem upto_has {fr days d : Int} (h : onF days d = true) : ∀ {k : Nat}, fr ≤ d → d < fr + k → d ∈ upto fr days k
  | 0, h1, h2 => by omega
  | k + 1, h1, h2 => by
    simp only [upto, List.mem_append]
    by_cases e : d = fr + k
    · subst e; rw [if_pos h]; exact .inr (by simp)
    · exact .inl (upto_has h h1 (by omega))
theorem daysF_has {fr to days d : Int} (h : hasF fr to days d = true) : d ∈ daysF fr to days := by
  unfold hasF at h
  simp only [Bool.and_eq_true, decide_eq_true_eq] at h
  obtain ⟨h0, h1, h2, h3⟩ := h
  unfold daysF
  rw [if_pos h0]
  exact upto_has h3 h1 (by omega)
theorem dayFt_nil {p : Pc} {l : List Lg} : ∀ {D : List Int}, dayFt p l D = [] → ∀ d ∈ D, ordF p l d = true
  | d :: D, h, e, he => by
    unfold dayFt at h
    split at h
    · rcases List.mem_cons.1 he with rfl | he
      · assumption
      · exact dayFt_nil h e he
    · cases h
theorem checkF_nil {p : Pc} {f : Fl} (h : checkF p f = []) : f.legs.length ≤ 6 ∧ 1 ≤ f.legs.length ∧ headG f = [] ∧ legsFt p [] f.legs = [] ∧ ∀ d, hasF f.fr f.to f.days d = true → ordF p f.legs d = true := by
  unfold checkF at h
  split at h
  · rename_i hl
    exfalso
    unfold headF at h
    rw [if_pos (by rw [Bool.or_eq_true, decide_eq_true_eq, decide_eq_true_eq]; omega)] at h
    simp at h
  · rename_i hl
    split at h
    · rename_i h2
      obtain ⟨a, b⟩ := List.append_eq_nil_iff.1 h2
      exact ⟨by omega, by omega, a, b, fun d hd => dayFt_nil h d (daysF_has hd)⟩
    · rename_i h2
      exact absurd h h2
theorem legsFt_nil {p : Pc} : ∀ {t r : List Lg}, legsFt p r t = [] → ∀ q x s, q ++ x :: s = t → legE p (r ++ q) x = []
  | y :: t, r, h, q, x, s, hq => by
    simp only [legsFt] at h
    obtain ⟨h1, h2⟩ := List.append_eq_nil_iff.1 h
    cases q with
    | nil =>
      simp only [List.nil_append, List.cons.injEq] at hq
      obtain ⟨rfl, rfl⟩ := hq
      simpa using h1
    | cons z q =>
      simp only [List.cons_append, List.cons.injEq] at hq
      obtain ⟨rfl, hq⟩ := hq
      have := legsFt_nil h2 q x s hq
      simpa using this
  | [], r, h, q, x, s, hq => by simp at hq
theorem legE_nil {p : Pc} {q : List Lg} {x : Lg} (h : legE p q x = []) : codeB x.eq 3 3 = true ∧ (knownB p x.fro = true ∧ knownB p x.to = true) ∧ brk q x = false ∧ okM x.dep = true ∧ okM x.arr = true := by
  unfold legE at h
  obtain ⟨h, h4⟩ := List.append_eq_nil_iff.1 h
  obtain ⟨h, h3⟩ := List.append_eq_nil_iff.1 h
  obtain ⟨h1, h2⟩ := List.append_eq_nil_iff.1 h
  refine ⟨?_, ?_, ?_, ?_⟩
  · cases e : codeB x.eq 3 3 with
    | true => rfl
    | false => rw [e] at h1; cases h1
  · cases e : knownB p x.fro <;> cases e2 : knownB p x.to <;> rw [e, e2] at h2 <;> first | exact ⟨rfl, rfl⟩ | cases h2
  · cases e : brk q x with
    | false => rfl
    | true => rw [e] at h3; cases h3
  · cases e : okM x.dep <;> cases e2 : okM x.arr <;> rw [e, e2] at h4 <;> first | exact ⟨rfl, rfl⟩ | cases h4

theorem legsF_len (p : Pc) (f : Fl) (day : Int) : (legsF p f day).length = f.legs.length := by simp [legsF]
end Go.Proofs
