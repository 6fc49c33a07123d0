/- Chapter 21: RuleMixes answers true on plain data. Conditions: as each says. -/
import Derived.Test.YtmefepdgnkhagaaGreatDoorMA
import Derived.Test.YtmefepdgnkhagaaGreatDoorW21
namespace Go.Proofs
open Go.Am
variable (lb : Nat)
theorem ruleMixes_ret (a b : Ru) (ha : a.com.length ≤ 281474976710656) (hb : b.com.length ≤ 281474976710656) : Ret (lb + 2) F_l21_RuleMixes [ruv a, ruv b] (.bool true) := by
  refine .top rfl (.eq (fun n => by rw [l21_RuleMixes_eq, List.length_map, List.length_map]) ?_)
  have k := awake21_ok lb
  have e1 := rule_Mix_ret (lb + 2) a b ha hb
  have e2 := r21_Mix_ret (lb + 2) a b ha hb
  have e3 := rule_Mix_ret (lb + 2) b a hb ha
  rw [Bool.and_comm] at e3
  by_cases h1 : (a.com.length : Int) > 100
  · exact k.mono fun n x => stT (decT h1) (stO _ x rfl)
  by_cases h2 : (b.com.length : Int) > 100
  · exact k.mono fun n x => stF (decF h1) (stT (decT h2) (stO _ x rfl))
  exact Evt.imp2 (Evt.and e1 e2) (Evt.and e3 k) fun n ⟨x, y⟩ ⟨z, u⟩ => stF (decF h1) (stF (decF h2) (stO _ x (stO _ y (stO _ rfl (stO _ rfl (stT (by simp) (stO _ z (stO _ x (stO _ rfl (stO _ rfl (stT (by simp) (stO _ u rfl))))))))))))
end Go.Proofs
