/- Chapter 21: RuleStays and RuleAllows answer true on plain data, if awake does. Conditions: as each says. -/
import Derived.Test.YtmefepdgnkhagaaGreatDoorMA
set_option linter.unusedVariables false
set_option linter.unusedSimpArgs false
namespace Go.Proofs
open Go.Am
variable (lb : Nat)
theorem chkR_0 {r : Ru} (h : chkR r = []) : parE r.w = 0 := by
  unfold chkR whenT at h
  have h1 := (List.append_eq_nil_iff.1 (List.append_eq_nil_iff.1 h).2).1
  have h2 : checkE r.w = 0 := by
    by_cases k : checkE r.w ≠ 0
    · rw [if_pos k] at h1; cases h1
    · exact Classical.byContradiction k
  unfold checkE at h2
  split at h2
  · cases h2
  · split at h2
    · cases h2
    · exact h2
theorem pos_lst (F : List Ft) : decide (((F.map ftenc).length : Int) > 0) = !F.isEmpty := by
  cases F with
  | nil => rfl
  | cons x F => exact decT (by simp)
theorem ruleStays_ret (k : Ret lb F_l21_awake [] (.bool true)) (r : Ru) (o b : Int) (hf : RFits r) : Ret lb F_l21_RuleStays [ruv r, .int .i64 o, .int .i64 b] (.bool true) := by
  refine .top rfl (.eq (fun n => by rw [l21_RuleStays_eq]) ?_)
  have e0 := small21_ret lb r hf.1
  cases hs : smB r with
  | false =>
    rw [hs] at e0
    exact Evt.imp2 e0 k fun n x y => stO _ x (stO _ rfl (stT rfl (stO _ y rfl)))
  | true =>
    rw [hs] at e0
    obtain ⟨h1, h2, h3⟩ := small21_is hs
    have e1 := r21_Check_ret lb r hf (by omega) h2 h3
    cases he : (chkR r).isEmpty with
    | false => exact Evt.imp2 e0 (Evt.and e1 k) fun n x ⟨y, z⟩ => stO _ x (stO _ rfl (stF rfl (stO _ y (stO _ rfl (stT (by rw [pos_lst, he]; rfl) (stO _ z rfl))))))
    | true => exact Evt.imp2 e0 (Evt.and (Evt.and e1 k) (Evt.and (rule_Stay_ret lb r o b) (r21_Stay_ret lb r o b))) fun n x ⟨⟨y, z⟩, s1, s2⟩ => stO _ x (stO _ rfl (stF rfl (stO _ y (stO _ rfl (stF (by rw [pos_lst, he]; rfl) (stO _ s1 (stO _ s2 (stO _ (asI_i ..) (stO _ (asI_i ..) (stT (beqT rfl) (stO _ z rfl)))))))))))
def nearB (z : Int) : Bool := decide (z ≥ -1099511627776) && decide (z ≤ 1099511627776)
theorem near_ret (z : Int) : Ret lb F_l21_near [.int .i64 z] (.bool (nearB z)) := by
  refine .top rfl (.eq (fun n => by rw [l21_near_eq]) (.all fun n => ?_))
  unfold nearB
  by_cases h : z ≥ -1099511627776
  · rw [decT h]; rfl
  · rw [decF h]; rfl
theorem rule_Allows_ret (t : Tp) (ht : TFits t) (r : Ru) (hf : Fits r.w) : Ret lb F_rule_Allows [ruv r, tpv t] (.int .i64 (if holC t r.w = true then 0 else 20)) := by
  refine .top rfl (.eq (fun n => by rw [rule_Allows_eq]) ?_)
  refine (cond_Holds_ret lb t ht r.w hf).mono fun n a => stO _ a (stO _ rfl ?_)
  cases holC t r.w <;> rfl
theorem r21_Allows_ret (t : Tp) (ht : TFits t) (r : Ru) (hg : Good r.w) : Ret lb F_r21_Allows [ruv r, tpv t] (.int .i64 (if holC t r.w = true then 0 else 20)) := by
  refine .top rfl (.eq (fun n => by rw [r21_Allows_eq]) ?_)
  refine (r20_Holds_ret lb t ht r.w hg).mono fun n a => stO _ a (stO _ rfl ?_)
  cases holC t r.w <;> rfl
theorem ruleAllows_ret (k : Ret lb F_l21_awake [] (.bool true)) (r : Ru) (t : Tp) (hf : RFits r) : Ret lb F_l21_RuleAllows [ruv r, tpv t] (.bool true) := by
  refine .top rfl (.eq (fun n => by rw [l21_RuleAllows_eq]) ?_)
  have e0 := small21_ret lb r hf.1
  cases hs : smB r with
  | false =>
    rw [hs] at e0
    exact Evt.imp2 e0 k fun n x y => stO _ x (stO _ rfl (stT rfl (stO _ y rfl)))
  | true =>
    rw [hs] at e0
    obtain ⟨h1, h2, h3⟩ := small21_is hs
    have e1 := r21_Check_ret lb r hf (by omega) h2 h3
    cases he : (chkR r).isEmpty with
    | false => exact Evt.imp2 e0 (Evt.and e1 k) fun n x ⟨y, z⟩ => stO _ x (stO _ rfl (stF rfl (stO _ y (stO _ rfl (stT (by rw [pos_lst, he]; rfl) (stO _ z rfl))))))
    | true =>
      have pre : ∀ {R : Nat → Option CV}, (Evt fun n => R n = some (.bool true)) → Evt fun n => C lb n F_l21_Small [ruv r] = some (.bool true) ∧ C lb n F_r21_Check [ruv r] = some (lstFt (chkR r)) ∧ R n = some (.bool true) := fun h => Evt.and e0 (Evt.and e1 h)
      have hz : chkR r = [] := by simpa using he
      by_cases c1 : (t.car.length : Int) > 20
      · exact Evt.imp2 e0 (Evt.and e1 k) fun n x ⟨y, z⟩ => stO _ x (stO _ rfl (stF rfl (stO _ y (stO _ rfl (stF (by rw [pos_lst, he]; rfl) (stT (decT (by rw [scv_len]; exact c1)) (stO _ z rfl)))))))
      by_cases c2 : (t.nums.length : Int) > 20
      · exact Evt.imp2 e0 (Evt.and e1 k) fun n x ⟨y, z⟩ => stO _ x (stO _ rfl (stF rfl (stO _ y (stO _ rfl (stF (by rw [pos_lst, he]; rfl) (stF (decF (by rw [scv_len]; exact c1)) (stT (decT (by rw [List.length_map]; exact c2)) (stO _ z rfl))))))))
      by_cases c3 : (t.vias.length : Int) > 20
      · exact Evt.imp2 e0 (Evt.and e1 k) fun n x ⟨y, z⟩ => stO _ x (stO _ rfl (stF rfl (stO _ y (stO _ rfl (stF (by rw [pos_lst, he]; rfl) (stF (decF (by rw [scv_len]; exact c1)) (stF (decF (by rw [List.length_map]; exact c2)) (stT (decT (by rw [scv_len]; exact c3)) (stO _ z rfl)))))))))
      have ht : TFits t := ⟨by omega, by omega, by omega⟩
      have n1 := near_ret lb t.day
      have n2 := near_ret lb t.sale
      cases d1 : nearB t.day with
      | false =>
        rw [d1] at n1
        exact Evt.imp2 e0 (Evt.and e1 (Evt.and n1 k)) fun n x ⟨y, u, z⟩ => stO _ x (stO _ rfl (stF rfl (stO _ y (stO _ rfl (stF (by rw [pos_lst, he]; rfl) (stF (decF (by rw [scv_len]; exact c1)) (stF (decF (by rw [List.length_map]; exact c2)) (stF (decF (by rw [scv_len]; exact c3)) (stO _ u (stO _ rfl (stT rfl (stO _ z rfl))))))))))))
      | true =>
        rw [d1] at n1
        cases d2 : nearB t.sale with
        | false =>
          rw [d2] at n2
          exact Evt.imp2 e0 (Evt.and e1 (Evt.and n1 (Evt.and n2 k))) fun n x ⟨y, u, v, z⟩ => stO _ x (stO _ rfl (stF rfl (stO _ y (stO _ rfl (stF (by rw [pos_lst, he]; rfl) (stF (decF (by rw [scv_len]; exact c1)) (stF (decF (by rw [List.length_map]; exact c2)) (stF (decF (by rw [scv_len]; exact c3)) (stO _ u (stO _ rfl (stF rfl (stO _ v (stO _ rfl (stT rfl (stO _ z rfl)))))))))))))))
        | true =>
          rw [d2] at n2
          have hg : Good r.w := ⟨⟨hf.1, by omega⟩, chkR_0 hz⟩
          have a1 := rule_Allows_ret lb t ht r hf.1
          have a2 := r21_Allows_ret lb t ht r hg
          have a3 := r20_Holds_ret lb t ht r.w hg
          refine Evt.imp2 (Evt.and e0 (Evt.and e1 (Evt.and n1 (Evt.and n2 k)))) (Evt.and a1 (Evt.and a2 a3)) fun n ⟨x, y, u, v, z⟩ ⟨q1, q2, q3⟩ => stO _ x (stO _ rfl (stF rfl (stO _ y (stO _ rfl (stF (by rw [pos_lst, he]; rfl) (stF (decF (by rw [scv_len]; exact c1)) (stF (decF (by rw [List.length_map]; exact c2)) (stF (decF (by rw [scv_len]; exact c3)) (stO _ u (stO _ rfl (stF rfl (stO _ v (stO _ rfl (stF rfl (stO _ q1 (stO _ q2 (stO _ (asI_i ..) (stO _ (asI_i ..) (stT (beqT rfl) (stO _ (asI_i ..) (stO _ q3 (stO _ rfl (stT (by cases holC t r.w <;> rfl) (stO _ z rfl))))))))))))))))))))))))
end Go.Proofs
