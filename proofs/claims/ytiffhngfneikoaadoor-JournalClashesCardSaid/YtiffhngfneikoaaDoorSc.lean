/- The law JournalClashes on plain data. Conditions: as it says. -/
import Derived.Test.YtiffhngfneikoaaDoorSb
set_option linter.unusedSimpArgs false
namespace Go.Proofs
open Go.Am
variable (lb : Bool)
theorem journalClashes_ok (an bn : Bool) (a b : List Rc) (ha : ∀ x ∈ a, x.2.1.length ≤ 281474976710656) (hb : ∀ x ∈ b, x.2.1.length ≤ 281474976710656) : Ret lb F_l36_JournalClashes [.list an (recv a), .list bn (recv b)] (.bool true) := by
  refine .top rfl ?_
  have e1 := rbig_ret lb an a ha
  have e2 := rbig_ret lb bn b hb
  cases h1 : rbigB a with
  | true =>
    rw [h1] at e1
    refine Evt.imp2 e1 (wake36 lb) fun n k1 hn => ?_
    rw [l36_JournalClashes_eq]
    exact stO _ k1 (stO _ rfl (stT rfl hn))
  | false =>
  rw [h1] at e1
  cases h2 : rbigB b with
  | true =>
    rw [h2] at e2
    refine Evt.imp2 (Evt.and e1 e2) (wake36 lb) fun n ⟨k1, k2⟩ hn => ?_
    rw [l36_JournalClashes_eq]
    exact stO _ k1 (stO _ rfl (stF rfl (stO _ k2 (stO _ rfl (stT rfl hn)))))
  | false =>
  rw [h2] at e2
  obtain ⟨a1, a2, a3⟩ := small_recs h1
  obtain ⟨b1, b2, b3⟩ := small_recs h2
  have a4 : ∀ x ∈ a, x.2.1.length ≤ 1000000000 := fun x hx => by have := a3 x hx; omega
  have b4 : ∀ x ∈ b, x.2.1.length ≤ 1000000000 := fun x hx => by have := b3 x hx; omega
  have t1 := l36_to_ret lb an a (by omega)
  have t2 := l36_to_ret lb bn b (by omega)
  have c1 := journal_Clash_ret lb a.isEmpty b.isEmpty a b (by omega) (by omega) a4 b4
  have c2 := r36_Clash_ret lb an bn a b (by omega) (by omega) a4 b4
  have v1 := journal_Verify_ret lb a.isEmpty a (by omega) a4
  have v2 := journal_Verify_ret lb b.isEmpty b (by omega) b4
  have s1 := r36_Same_ret lb an bn a b (by omega)
  have all := Evt.and (Evt.and (Evt.and e1 e2) (Evt.and t1 t2)) (Evt.and (Evt.and c1 c2) (Evt.and (Evt.and v1 v2) s1))
  refine Evt.imp2 all (wake36 lb) fun n ⟨⟨⟨k1, k2⟩, k3, k4⟩, ⟨k5, k6⟩, ⟨k7, k8⟩, k9⟩ hn => ?_
  rw [l36_JournalClashes_eq]
  refine stO _ k1 (stO _ rfl (stF rfl (stO _ k2 (stO _ rfl (stF rfl (stO _ k3 (stO _ k4 (stO _ k5 ?_))))))))
  cases hc : clashR a b with
  | none =>
    rw [hc] at k6
    refine stO _ rfl (stO _ rfl (stO _ rfl (stO _ rfl (stO _ rfl (stO _ rfl (stO _ rfl (stC rfl (stO _ rfl (stO _ rfl (stO _ rfl (stO _ rfl (stC rfl (stO _ rfl (stO _ rfl (stO _ rfl (stO _ k6 (stO _ rfl (stO _ rfl (stO _ rfl (stO _ rfl (stO _ rfl (stO _ rfl (stO _ rfl (stC rfl (stO _ rfl (stO _ rfl (stO _ rfl (stO _ rfl (stC rfl (stO _ rfl (stO _ rfl (stO _ rfl (stO _ rfl (stO _ rfl (stF rfl ?_)))))))))))))))))))))))))))))))))))
    refine stO _ (asI_i ..) (stO _ (asI_i ..) (stO _ rfl (stO _ rfl (stO _ (asI_i ..) (stO _ (asI_i ..) (stF rfl ?_))))))
    refine stO _ (asI_i ..) (stO _ (asI_i ..) (stO _ rfl (stO _ rfl (stO _ (asI_i ..) (stO _ (asI_i ..) (stF rfl ?_))))))
    refine stO _ k3 (stO _ k7 (stO _ rfl (stO _ rfl (stO _ rfl (stO _ rfl (stO _ k4 (stO _ k8 (stO _ rfl (stO _ rfl (stO _ rfl (stO _ rfl (stO _ (asI_i ..) ?_))))))))))))
    by_cases q1 : (verB 0 0 a).2 = 0
    · refine stF (bneF q1) (stO _ (asI_i ..) ?_)
      by_cases q2 : (verB 0 0 b).2 = 0
      · refine stF (bneF q2) ?_
        by_cases q0 : a = []
        · exact stT (beqT (by rw [q0]; rfl)) (stO _ rfl (stT rfl hn))
        · have hlp := List.length_pos_iff.2 q0
          refine stF (beqF (by rw [recv_len]; omega)) ?_
          by_cases q3 : a.length = b.length
          · have q0b : b ≠ [] := fun e => q0 (List.eq_nil_of_length_eq_zero (by rw [q3, e]; rfl))
            have lb2 := last_at q0b (by omega)
            rw [show ((recv b).length : Int) = ((recv a).length : Int) by rw [recv_len, recv_len, q3]] at lb2
            refine stF (bneF (by rw [recv_len, recv_len, q3])) (stO _ (last_at q0 (by omega)) (stC rfl (stO _ rfl (stO _ lb2 (stC rfl (stO _ rfl (stO _ (asI_i ..) (stO _ (asI_i ..) ?_))))))))
            by_cases q4 : (lastR a).2.2 = (lastR b).2.2
            · have hcn : clashB a b a.length = none := by
                unfold clashR at hc
                rwa [if_neg (by simpa using q1), if_neg (by simpa using q2), if_neg (by simpa using q3), if_neg (by simpa using q4)] at hc
              have hab := clash_same q3 hcn
              rw [decT hab] at k9
              exact stF (bneF q4) (stO _ k9 (stO _ rfl (stO _ rfl (stT rfl (stO _ rfl (stT rfl hn))))))
            · exact stT (bneT q4) (stO _ rfl (stT rfl hn))
          · exact stT (bneT (by rw [recv_len, recv_len]; omega)) (stO _ rfl (stT rfl hn))
      · exact stT (bneT q2) (stO _ rfl (stT rfl hn))
    · exact stT (bneT q1) (stO _ rfl (stT rfl hn))
  | some p =>
    obtain ⟨x, y⟩ := p
    rw [hc] at k6
    have hx : (!(((x.1 : Int) == x.1) && ((x.2.1 == x.2.1) && ((x.2.2 == x.2.2) && true)))) = false := by simp
    have hy : (!(((y.1 : Int) == y.1) && ((y.2.1 == y.2.1) && ((y.2.2 == y.2.2) && true)))) = false := by simp
    have hcc := hc
    unfold clashR at hc
    have q1 : (verB 0 0 a).2 = 0 := Decidable.byContradiction fun q => by rw [if_pos q] at hc; cases hc
    rw [if_neg (by simpa using q1)] at hc
    have q2 : (verB 0 0 b).2 = 0 := Decidable.byContradiction fun q => by rw [if_pos q] at hc; cases hc
    rw [if_neg (by simpa using q2)] at hc
    have q3 : a.length = b.length := Decidable.byContradiction fun q => by rw [if_pos q] at hc; cases hc
    rw [if_neg (by simpa using q3)] at hc
    have q4 : (lastR a).2.2 = (lastR b).2.2 := Decidable.byContradiction fun q => by rw [if_pos q] at hc; cases hc
    rw [if_neg (by simpa using q4)] at hc
    obtain ⟨d1, d2, d3⟩ := clash_differ q1 q2 q3 q4 hc
    have q0 : a ≠ [] := fun e => by subst e; simp [clashB] at hc
    have hlp := List.length_pos_iff.2 q0
    have q0b : b ≠ [] := fun e => q0 (List.eq_nil_of_length_eq_zero (by rw [q3, e]; rfl))
    have lb2 := last_at q0b (by omega)
    rw [show ((recv b).length : Int) = ((recv a).length : Int) by rw [recv_len, recv_len, q3]] at lb2
    rw [decF d1] at k9
    refine stO _ rfl (stO _ rfl (stO _ rfl (stO _ rfl (stO _ rfl (stO _ rfl (stO _ rfl (stC rfl (stO _ rfl (stO _ rfl (stO _ rfl (stO _ rfl (stC rfl (stO _ rfl (stO _ rfl (stO _ rfl (stO _ k6 (stO _ rfl (stO _ rfl (stO _ rfl (stO _ rfl (stO _ rfl (stO _ rfl (stO _ rfl (stC rfl (stO _ rfl (stO _ rfl (stO _ rfl (stO _ rfl (stC rfl (stO _ rfl (stO _ rfl (stO _ rfl (stO _ rfl (stO _ rfl (stF rfl ?_)))))))))))))))))))))))))))))))))))
    refine stO _ (asI_i ..) (stO _ (asI_i ..) (stO _ rfl (stO _ rfl (stO _ (asI_i ..) (stO _ (asI_i ..) (stF hx ?_))))))
    refine stO _ (asI_i ..) (stO _ (asI_i ..) (stO _ rfl (stO _ rfl (stO _ (asI_i ..) (stO _ (asI_i ..) (stF hy ?_))))))
    refine stO _ k3 (stO _ k7 (stO _ rfl (stO _ rfl (stO _ rfl (stO _ rfl (stO _ k4 (stO _ k8 (stO _ rfl (stO _ rfl (stO _ rfl (stO _ rfl (stO _ (asI_i ..) ?_))))))))))))
    refine stF (bneF q1) (stO _ (asI_i ..) (stF (bneF q2) (stF (beqF (by rw [recv_len]; omega)) (stF (bneF (by rw [recv_len, recv_len, q3])) (stO _ (last_at q0 (by omega)) (stC rfl (stO _ rfl (stO _ lb2 (stC rfl (stO _ rfl (stO _ (asI_i ..) (stO _ (asI_i ..) (stF (bneF q4) (stO _ k9 (stO _ rfl (stO _ rfl ?_))))))))))))))))
    have ht : (!(x.2.1 == y.2.1)) = true := by simpa using d2
    exact stT rfl (stO _ rfl (stF rfl (stO _ rfl (stO _ rfl (stT ht (stO _ (asI_i ..) (stO _ (asI_i ..) (stT (beqT d3) hn))))))))
end Go.Proofs
