/- Chapter 20: CondChecks answers true on plain data. Conditions: as each says. -/
import Derived.Test.YtmandbflbfkagaaGreatDoorCf
import Derived.Test.YtmandbflbfkagaaGreatDoorHg
import Derived.Test.YtmandbflbfkagaaGreatDoorW20
namespace Go.Proofs
open Go.Am
variable (lb : Nat)
theorem condChecks_ret (a b : Cd) (ha : Fits a) (hb : Fits b) : Ret (lb + 2) F_l20_CondChecks [cdv a, cdv b] (.bool true) := by
  refine .top rfl (.eq (fun n => by rw [l20_CondChecks_eq]) ?_)
  have k := knows20_ok lb
  have e1 := l20_large_ret (lb + 2) a ha
  have e2 := l20_large_ret (lb + 2) b hb
  cases hla : lgC a with
  | true =>
    rw [hla] at e1
    exact Evt.imp2 e1 k fun n x y => stO _ x (stO _ rfl (stT rfl (stO _ y rfl)))
  | false =>
    rw [hla] at e1
    cases hlb : lgC b with
    | true =>
      rw [hlb] at e2
      exact Evt.imp2 e1 (Evt.and e2 k) fun n x ⟨y, z⟩ => stO _ x (stO _ rfl (stF rfl (stO _ y (stO _ rfl (stT rfl (stO _ z rfl))))))
    | false =>
      rw [hlb] at e2
      have c1 := cond_Check_ret (lb + 2) a ha hla
      have c2 := r20_Check_ret (lb + 2) a ha hla
      have s1 := cond_Size_ret (lb + 2) a ha
      have s2 := r20_Size_ret (lb + 2) a ha
      have m1 := cond_Same_ret (lb + 2) a b ⟨ha, hla⟩ ⟨hb, hlb⟩
      have m2 := r20_Same_ret (lb + 2) a b ⟨ha, hla⟩ ⟨hb, hlb⟩
      have m3 := cond_Same_ret (lb + 2) a a ⟨ha, hla⟩ ⟨ha, hla⟩
      rw [sameC_refl] at m3
      exact Evt.imp2 (Evt.and e1 (Evt.and e2 k)) (Evt.and (Evt.and c1 c2) (Evt.and (Evt.and s1 s2) (Evt.and m1 (Evt.and m2 m3)))) fun n ⟨x, y, z⟩ ⟨⟨p1, p2⟩, ⟨p3, p4⟩, p5, p6, p7⟩ =>
        stO _ x (stO _ rfl (stF rfl (stO _ y (stO _ rfl (stF rfl (stO _ p1 (stO _ p2 (stO _ (asI_i ..) (stO _ (asI_i ..) (stT (beqT rfl)
          (stO _ p3 (stO _ p4 (stO _ (asI_i ..) (stO _ (asI_i ..) (stT (beqT rfl) (stO _ p5 (stO _ p6 (stO _ rfl (stO _ rfl (stT (by simp) (stO _ p7 (stO _ rfl (stT rfl (stO _ z rfl))))))))))))))))))))))))
end Go.Proofs
