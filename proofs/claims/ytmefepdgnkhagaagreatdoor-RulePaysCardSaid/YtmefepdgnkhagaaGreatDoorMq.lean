/- Chapter 21: RulePays answers true on plain data. Conditions: as each says. -/
import Derived.Test.YtmefepdgnkhagaaGreatDoorMp
import Derived.Test.YtmefepdgnkhagaaGreatDoorW21
set_option linter.unusedVariables false
set_option linter.unusedSimpArgs false
namespace Go.Proofs
open Go.Am
variable (lb : Nat)
theorem rule_Pay_ret (r : Ru) (s : Bs) (a : Int) (hl : r.pc.length ≤ 100) (hp : ∀ q ∈ r.pc, 0 ≤ q.2 ∧ q.2 ≤ 1000) : Ret lb F_rule_Pay [ruv r, .str s, .int .i64 a] (payAns s a r.pc) := by
  refine .top rfl (.eq (fun n => by rw [rule_Pay_eq]) ?_)
  refine Evt.diag (m := r.pc.length) (loopL (enc := fun q : Bs × Int => [CV.str q.1, CV.int .i64 q.2]) (l := r.pc) (by omega) (P := fun p t n k => rule_Pay_L1 lb n k r.num r.w.k r.w.ln (r.w.l.map ccv) r.w.a r.w.b r.w.fr r.w.to r.w.days r.w.tn (scv r.w.t) r.cn (nums1 r.com) r.mn r.mx r.cf r.rf r.pn (pcs r.pc) s a (p.length : Int) = some (payAns s a t)) ?_ ?_ r.pc [] rfl)
  · refine (money_Percent_ret lb a (h := 10000) (by omega) (by omega)).mono fun n x k => ?_
    obtain ⟨u, e, he⟩ := pctAns_tup a 10000
    rw [rule_Pay_L1_succ]
    refine stF (decF (by simp)) ?_
    rw [rule_Pay_J2_eq, show payAns s a [] = pctAns a 10000 from rfl, he]
    exact give2 (by rw [x, he])
  · intro p q t hpq hlt hat hw ih
    have hq := hp q (by rw [← hpq]; simp)
    refine Evt.imp2 (money_Percent_ret lb a (h := 100 * q.2) (by omega) (by omega)) ih fun n x y k hk => ?_
    rw [rule_Pay_L1_succ]
    refine stT (decT hlt) (stO _ hat (stC rfl (stO _ rfl (stO _ rfl (stO _ rfl ?_)))))
    by_cases h : q.1 = s
    · refine stT (by simpa using h) (stO _ (asI_i ..) ?_)
      obtain ⟨u, e, he⟩ := pctAns_tup a (100 * q.2)
      rw [wrap64 (by omega) (by omega), show payAns s a (q :: t) = pctAns a (100 * q.2) from by rw [payAns, if_pos h], he]
      exact give2 (by rw [x, he])
    · refine stF (by simpa using h) ?_
      rw [hw, show payAns s a (q :: t) = payAns s a t from by rw [payAns, if_neg h]]
      exact y k hk
theorem r21_Pay_ret (r : Ru) (s : Bs) (a : Int) (hl : r.pc.length ≤ 100) (hp : ∀ q ∈ r.pc, 0 ≤ q.2 ∧ q.2 ≤ 1000) : Ret lb F_r21_Pay [ruv r, .str s, .int .i64 a] (payAns s a r.pc) := by
  refine .top rfl (.eq (fun n => by rw [r21_Pay_eq]) ?_)
  refine Evt.diag (m := r.pc.length) (loopL (enc := fun q : Bs × Int => [CV.str q.1, CV.int .i64 q.2]) (l := r.pc) (by omega) (P := fun p t n k => r21_Pay_L1 lb n k r.num r.w.k r.w.ln (r.w.l.map ccv) r.w.a r.w.b r.w.fr r.w.to r.w.days r.w.tn (scv r.w.t) r.cn (nums1 r.com) r.mn r.mx r.cf r.rf r.pn (pcs r.pc) s a (p.length : Int) = some (payAns s a t)) ?_ ?_ r.pc [] rfl)
  · refine (r02_Percent_ret lb a (h := 10000) (by omega) (by omega)).mono fun n x k => ?_
    obtain ⟨u, e, he⟩ := pctAns_tup a 10000
    rw [r21_Pay_L1_succ]
    refine stF (decF (by simp)) ?_
    rw [r21_Pay_J2_eq, show payAns s a [] = pctAns a 10000 from rfl, he]
    exact give2 (by rw [x, he])
  · intro p q t hpq hlt hat hw ih
    have hq := hp q (by rw [← hpq]; simp)
    refine Evt.imp2 (r02_Percent_ret lb a (h := 100 * q.2) (by omega) (by omega)) ih fun n x y k hk => ?_
    rw [r21_Pay_L1_succ]
    refine stT (decT hlt) (stO _ hat (stC rfl (stO _ rfl (stO _ rfl ?_))))
    by_cases h : q.1 = s
    · refine stT (by simpa using h) (stO _ hat (stC rfl (stO _ rfl (stO _ (asI_i ..) ?_))))
      obtain ⟨u, e, he⟩ := pctAns_tup a (100 * q.2)
      rw [wrap64 (by omega) (by omega), show payAns s a (q :: t) = pctAns a (100 * q.2) from by rw [payAns, if_pos h], he]
      exact give2 (by rw [x, he])
    · refine stF (by simpa using h) ?_
      rw [hw, show payAns s a (q :: t) = payAns s a t from by rw [payAns, if_neg h]]
      exact y k hk
theorem rulePays_ret (k : Ret lb F_l21_awake [] (.bool true)) (r : Ru) (s : Bs) (a : Int) (hf : RFits r) : Ret lb F_l21_RulePays [ruv r, .str s, .int .i64 a] (.bool true) := by
  refine .top rfl (.eq (fun n => by rw [l21_RulePays_eq]) ?_)
  have e0 := small21_ret lb r hf.1
  cases hs : smB r with
  | false =>
    rw [hs] at e0
    exact Evt.imp2 e0 k fun n x y => stO _ x (stO _ rfl (stT rfl (stO _ y rfl)))
  | true =>
    rw [hs] at e0
    obtain ⟨h1, h2, h3⟩ := small21_is hs
    have e1 := r21_Check_ret lb r hf (by omega) h2 h3
    cases he : (chkR r).isEmpty with
    | false => exact Evt.imp2 e0 (Evt.and e1 k) fun n x ⟨y, z⟩ => stO _ x (stO _ rfl (stF rfl (stO _ y (stO _ rfl (stT (by rw [pos_lst, he]; rfl) (stO _ z rfl))))))
    | true =>
      have hpc := chkR_pc (show chkR r = [] by simpa using he)
      have p1 := rule_Pay_ret lb r s a h3 hpc
      have p2 := r21_Pay_ret lb r s a h3 hpc
      obtain ⟨u, e, hu⟩ := payAns_tup s a r.pc
      rw [hu] at p1 p2
      exact Evt.imp2 e0 (Evt.and (Evt.and e1 k) (Evt.and p1 p2)) fun n x ⟨⟨y, z⟩, s1, s2⟩ => stO _ x (stO _ rfl (stF rfl (stO _ y (stO _ rfl (stF (by rw [pos_lst, he]; rfl) (stO _ s1 (stO _ rfl (stO _ rfl (stO _ rfl (stO _ rfl (stO _ s2 (stO _ rfl (stO _ rfl (stO _ rfl (stO _ rfl (stO _ (asI_i ..) (stO _ (asI_i ..) (stT (beqT rfl) (stO _ (asI_i ..) (stO _ (asI_i ..) (stT (beqT rfl) (stO _ z rfl))))))))))))))))))))))
end Go.Proofs
