/- What the functions of package text and of its reference answer: numbers. Conditions: as each says. -/
import Derived.Test.YtdcpdknginpohaaGreatDoorRc
set_option linter.unusedSimpArgs false
namespace Go.Proofs
open Go.Am
variable (lb : Nat)
theorem Qi3 {x : Int} (h0 : 0 ≤ x) (h1 : x < 18446744073709551616) : IntKind.wrap .u64 x = x := by
 unfold IntKind.wrap
 simp only [IntKind.bits, IntKind.signed]
 simp
 omega
theorem Qpu (z : Int) (h0 : -9223372036854775808 ≤ z) (h1 : z ≤ 9223372036854775807) : Ret lb QhG [.int .i64 z] (.str (Lib.itoa z)) := by
 refine .top rfl (.eq (fun n => by rw [Qqv]) ?_)
 refine .call (v := .str (Lib.itoa z)) (.lib rfl ?_) .done
 simp only [Qlr, if_pos (And.intro h0 h1), Quf h0 h1]
theorem Qsj : ∀ d, d < 10 → (([48, 49, 50, 51, 52, 53, 54, 55, 56, 57] : Bs).take (d + 1)).drop d = [UInt8.ofNat (48 + d)] := by decide +kernel
theorem Qk5 : ∀ (N u : Nat), u ≤ N → u < 18446744073709551616 → Ret lb QfH [.int .u64 (u : Int)] (.str (Lib.decDigits u)) := by
 intro N
 induction N with
 | zero =>
  intro u hu _
  have : u = 0 := by omega
  subst this
  refine .top rfl (.all fun n => ?_)
  rw [Qmf, Lib.decDigits, dif_pos (by decide)]
  rfl
 | succ N ih =>
  intro u hu h64
  refine .top rfl (.eq (fun n => by rw [Qmf]) ?_)
  by_cases h : u < 10
  ·simp only [decT (show (u : Int) < 10 by omega), cond_true, Qi3 (x := (u : Int) + 1) (by omega) (by omega)]
   refine .chk (decT ⟨by omega, by omega⟩) (.chk (decT ⟨by omega, by omega⟩) ?_)
   rw [Lib.decDigits, dif_pos h, show ((u : Int) + 1).toNat = u + 1 by omega, Int.toNat_natCast, Qsj u h]
   exact .done
  ·simp only [decF (show ¬ (u : Int) < 10 by omega), cond_false]
   have e1 : IntKind.wrap .u64 (Int.tdiv (u : Int) 10) = ((u / 10 : Nat) : Int) := by
    rw [show Int.tdiv (u : Int) 10 = ((u / 10 : Nat) : Int) from rfl, Qi3 (by omega) (by omega)]
   have e2 : Int.tmod (u : Int) 10 = ((u % 10 : Nat) : Int) := rfl
   have e3 : IntKind.wrap .u64 (((u % 10 : Nat) : Int) + 1) = ((u % 10 + 1 : Nat) : Int) := by rw [Qi3 (by omega) (by omega)]; omega
   simp only [e1, e2, e3]
   refine .call (ih (u / 10) (by omega) (by omega)) ?_
   refine .chk (decT ⟨by omega, by omega⟩) (.chk (decT ⟨by omega, by omega⟩) ?_)
   simp only [QaF, Qa4, Int.toNat_natCast, Qsj _ (show u % 10 < 10 by omega)]
   rw [Lib.decDigits.eq_def u, dif_neg h]
   refine .chk (decT ?_) .done
   have := QeO (z := ((u / 10 : Nat) : Int)) (by omega) (by omega)
   unfold Lib.itoa at this
   rw [if_neg (by omega), Int.toNat_natCast] at this
   simp only [List.length_cons, List.length_nil]
   omega
theorem Qfu (z : Int) (h0 : -9223372036854775808 ≤ z) (h1 : z ≤ 9223372036854775807) : Ret lb Qd1 [.int .i64 z] (.str (Lib.itoa z)) := by
 refine .top rfl (.eq (fun n => by rw [QrW]) ?_)
 unfold Lib.itoa
 by_cases h : z < 0
 ·simp only [decT h, cond_true, if_pos h, Qaz (x := z + 1) (by omega) (by omega), Qaz (x := 0 - (z + 1)) (by omega) (by omega), Qi3 (x := 0 - (z + 1)) (by omega) (by omega), Qi3 (x := 0 - (z + 1) + 1) (by omega) (by omega)]
  rw [show 0 - (z + 1) + 1 = (z.natAbs : Int) by omega]
  refine .call (Qk5 lb z.natAbs z.natAbs (Nat.le_refl _) (by omega)) ?_
  simp only [QaF, Qa4]
  refine .chk (decT ?_) .done
  have := QeO h0 h1
  unfold Lib.itoa at this
  rw [if_pos h] at this
  simp only [List.length_cons, List.length_nil] at this ⊢
  omega
 ·simp only [decF h, cond_false, if_neg h, Qi3 (x := z) (by omega) (by omega)]
  have := Qk5 lb z.toNat z.toNat (Nat.le_refl _) (by omega)
  rw [show ((z.toNat : Nat) : Int) = z by omega] at this
  exact .call this .done
end Go.Proofs
