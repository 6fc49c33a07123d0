/- Chapter 7: the laws FlightOrder and FlightSames on plain data. Conditions: as each says. -/
import Derived.Test.YtdcpdknginpohaaGreatDoorKA
import Derived.Test.YtdcpdknginpohaaGreatDoorGd
import Derived.Test.YtdcpdknginpohaaGreatDoorW07
set_option linter.unusedSimpArgs false
set_option linter.unusedVariables false
namespace Go.Proofs
open Go.Am
variable (lb : Nat)
def ArgP (p : Pc) : Prop := p.aps.length ≤ 281474976710656 ∧ p.dis.length ≤ 281474976710656 ∧ ∀ a ∈ p.aps, a.code.length ≤ 281474976710656 ∧ a.city.length ≤ 281474976710656 ∧ a.ctry.length ≤ 281474976710656
def ArgF (f : Fl) : Prop := f.car.length ≤ 281474976710656 ∧ f.legs.length ≤ 281474976710656 ∧ ∀ x ∈ f.legs, lgLen x ≤ 1000000000000000
theorem big_ret (p : Pc) (f : Fl) (hp : ArgP p) (hf : ArgF f) : Ret lb F_r07_Big [pcv p, flcv f] (.bool (bigB p f)) := r07_Big_ret lb p f hf.1 hf.2.2 hf.2.1 hp.1 hp.2.1
/-! FlightOrder -/
/-! FlightSames -/
instance : DecidableEq Lg := fun a b => by
  cases a; cases b
  simp only [Lg.mk.injEq]
  infer_instance
def lgB (x y : Lg) : Bool := (x.fro == y.fro) && ((x.to == y.to) && ((x.dep == y.dep) && ((x.arr == y.arr) && ((x.eq == y.eq) && true))))
def lgsB : List Lg → List Lg → Bool
  | [], [] => true
  | x :: a, y :: b => lgB x y && lgsB a b
  | _, _ => false
theorem lgsB_len : ∀ {a b : List Lg}, lgsB a b = true → a.length = b.length
  | [], [], _ => rfl
  | x :: a, y :: b, h => by
    simp only [lgsB, Bool.and_eq_true] at h
    simp [lgsB_len h.2]
  | [], y :: b, h => by cases h
  | x :: a, [], h => by cases h
theorem lgB_refl (x : Lg) : lgB x x = true := by simp [lgB]
theorem lgsB_refl : ∀ a : List Lg, lgsB a a = true
  | [] => rfl
  | x :: a => by simp [lgsB, lgB_refl, lgsB_refl a]
theorem sl_loop (f : Nat → Nat → Int → Option CV) (an bn : Bool) (a b : List Lg) (hl : a.length ≤ 1000) (he : a.length = b.length)
    (step : ∀ n k q x y, (q : Nat) < a.length → a[q]? = some x → b[q]? = some y → f n (k + 1) (q : Int) = (bif !lgB x y then some (.bool false) else f n k (IntKind.wrap .i64 ((q : Int) + 1)))) (stop : ∀ n k, f n (k + 1) (a.length : Int) = some (.bool true)) :
    Evt fun n => f n n 0 = some (.bool (lgsB a b)) := by
  have key : ∀ (t s q r : List Lg), q ++ t = a → r ++ s = b → q.length = r.length → t.length = s.length → ∀ n k, t.length < k → f n k (q.length : Int) = some (.bool (lgsB t s)) := by
    intro t
    induction t with
    | nil =>
      intro s q r hq hr h1 h2 n k hk
      obtain ⟨k, rfl⟩ : ∃ m, k = m + 1 := ⟨k - 1, by simp at hk; omega⟩
      have : q = a := by simpa using hq
      subst this
      have : s = [] := List.length_eq_zero_iff.1 (by simpa using h2.symm)
      subst this
      exact stop n k
    | cons x t ih =>
      intro s q r hq hr h1 h2 n k hk
      obtain ⟨k, rfl⟩ : ∃ m, k = m + 1 := ⟨k - 1, by simp at hk; omega⟩
      cases s with
      | nil => simp at h2
      | cons y s =>
        have hal : a.length = q.length + (t.length + 1) := by rw [← hq]; simp
        rw [step n k q.length x y (by omega) (by rw [← hq]; simp) (by rw [← hr, h1]; simp)]
        rw [wrap64 (by omega) (by omega), show (q.length : Int) + 1 = ((q ++ [x]).length : Int) by simp]
        rw [ih s (q ++ [x]) (r ++ [y]) (by rw [← hq]; simp) (by rw [← hr]; simp) (by simp [h1]) (by simpa using h2) n k (by simp at hk; omega)]
        rw [show lgsB (x :: t) (y :: s) = (lgB x y && lgsB t s) from rfl]
        cases lgB x y <;> rfl
  exact ⟨a.length + 1, fun n hn => key a b [] [] rfl rfl rfl he n n (by omega)⟩
theorem r07_SameLegs_ret (an bn : Bool) (a b : List Lg) (hl : a.length ≤ 1000) (hb : b.length ≤ 1000) : Ret lb F_r07_SameLegs [.list an (a.map lgcv), .list bn (b.map lgcv)] (.bool (lgsB a b)) := by
  by_cases he : a.length = b.length
  · refine .top rfl (.eq (fun n => by rw [r07_SameLegs_eq, bneF (by simp [he]), cond_false]) (sl_loop (fun n k i => r07_SameLegs_L1 lb n k an (a.map lgcv) bn (b.map lgcv) i) an bn a b hl he (fun n k q x y hq hx hy => ?_) fun n k => ?_))
    · have h1 : atL (a.map lgcv) (q : Int) = some (lgcv x) := atL_ok (by simp [hx])
      have h2 : atL (b.map lgcv) (q : Int) = some (lgcv y) := atL_ok (by simp [hy])
      show r07_SameLegs_L1 lb n (k + 1) an (a.map lgcv) bn (b.map lgcv) (q : Int) = _
      rw [r07_SameLegs_L1_succ, decT (by simp; omega), cond_true, h1, h2]
      rfl
    · show r07_SameLegs_L1 lb n (k + 1) an (a.map lgcv) bn (b.map lgcv) (a.length : Int) = _
      rw [r07_SameLegs_L1_succ, decF (by simp), cond_false, r07_SameLegs_J2_eq]
  · refine .top rfl (.all fun n => ?_)
    rw [r07_SameLegs_eq, bneT (by simp; omega), cond_true]
    cases hc : lgsB a b with
    | false => rfl
    | true => exact absurd (lgsB_len hc) he
def sameF (f g : Fl) : Bool := (f.car == g.car) && ((f.num == g.num) && (((f.fr == g.fr) && ((f.to == g.to) && ((f.days == g.days) && true))) && lgsB f.legs g.legs))
theorem r07_Same_ret (f g : Fl) (hl : f.legs.length ≤ 1000) (hb : g.legs.length ≤ 1000) : Ret lb F_r07_Same [flcv f, flcv g] (.bool (sameF f g)) := by
  refine .top rfl ((r07_SameLegs_ret lb f.ln g.ln f.legs g.legs hl hb).mono fun n hn => ?_)
  rw [r07_Same_eq, hn]
  unfold sameF
  cases (f.car == g.car) <;> cases (f.num == g.num) <;> cases ((f.fr == g.fr) && ((f.to == g.to) && ((f.days == g.days) && true))) <;> rfl
end Go.Proofs
