/- Chapter 20: CondHolds answers true on plain data. Conditions: as each says. -/
import Derived.Test.YtmandbflbfkagaaGreatDoorCh
import Derived.Test.YtmandbflbfkagaaGreatDoorHh
import Derived.Test.YtmandbflbfkagaaGreatDoorW20
namespace Go.Proofs
open Go.Am
variable (lb : Nat)
theorem checkE_0 {c : Cd} (h : checkE c = 0) : parE c = 0 := by
  unfold checkE at h
  split at h
  · cases h
  · split at h
    · cases h
    · exact h
theorem far_fits {t : Tp} (h : farT t = false) : TFits t := by
  have := farT_false h
  exact ⟨by omega, by omega, by omega⟩
theorem whyV_is (t : Tp) (c : Cd) (hc : Fits c) (hl : lgC c = false) : ∃ nl L b, whyV t c = .tup [.list nl (ints L), .bool b] ∧ L.length ≤ 1000000000 := by
  unfold whyV
  split
  · exact ⟨true, [], false, rfl, by simp⟩
  · refine ⟨_, _, _, rfl, ?_⟩
    have := whyC_len t c
    have := (small_size c hc hl).2
    omega
theorem condHolds_ret (c : Cd) (t : Tp) (hc : Fits c) : Ret (lb + 2) F_l20_CondHolds [cdv c, tpv t] (.bool true) := by
  refine .top rfl (.eq (fun n => by rw [l20_CondHolds_eq]) ?_)
  have k := knows20_ok lb
  have e1 := l20_large_ret (lb + 2) c hc
  have e2 := l20_far_ret (lb + 2) t
  cases hl : lgC c with
  | true =>
    rw [hl] at e1
    exact Evt.imp2 e1 k fun n x y => stO _ x (stO _ rfl (stT rfl (stO _ y rfl)))
  | false =>
    rw [hl] at e1
    cases hf : farT t with
    | true =>
      rw [hf] at e2
      exact Evt.imp2 e1 (Evt.and e2 k) fun n x ⟨y, z⟩ => stO _ x (stO _ rfl (stF rfl (stO _ y (stO _ rfl (stT rfl (stO _ z rfl))))))
    | false =>
      rw [hf] at e2
      have e3 := r20_Check_ret (lb + 2) c hc hl
      by_cases h0 : checkE c = 0
      · have hg : Good c := ⟨⟨hc, hl⟩, checkE_0 h0⟩
        have ht := far_fits hf
        have w1 := cond_Why_ret (lb + 2) t ht c ⟨hc, hl⟩
        have w2 := r20_Why_ret (lb + 2) t ht c hg
        have h1 := cond_Holds_ret (lb + 2) t ht c hc
        have h2 := r20_Holds_ret (lb + 2) t ht c hg
        obtain ⟨nl, L, b, hw, hL⟩ := whyV_is t c hc hl
        rw [hw] at w1 w2
        have s := r17_Same_ret (lb + 2) nl nl L L hL
        rw [decT rfl] at s
        exact Evt.imp2 (Evt.and e1 (Evt.and e2 k)) (Evt.and (Evt.and e3 s) (Evt.and (Evt.and w1 w2) (Evt.and h1 h2))) fun n ⟨x, y, z⟩ ⟨⟨p0, p⟩, ⟨p1, p2⟩, p3, p4⟩ =>
          stO _ x (stO _ rfl (stF rfl (stO _ y (stO _ rfl (stF rfl (stO _ p0 (stO _ (asI_i ..) (stF (bneF h0) (stO _ p1 (stO _ rfl (stO _ rfl (stO _ rfl (stO _ rfl (stO _ p2 (stO _ rfl (stO _ rfl (stO _ rfl (stO _ rfl
            (stO _ p3 (stO _ p4 (stO _ rfl (stO _ rfl (stT (by simp) (stO _ rfl (stO _ rfl (stT (by simp) (stO _ p (stO _ rfl (stT rfl (stO _ z rfl))))))))))))))))))))))))))))))
      · exact Evt.imp2 (Evt.and e1 (Evt.and e2 k)) e3 fun n ⟨x, y, z⟩ p0 => stO _ x (stO _ rfl (stF rfl (stO _ y (stO _ rfl (stF rfl (stO _ p0 (stO _ (asI_i ..) (stT (bneT h0) (stO _ z rfl)))))))))
end Go.Proofs
