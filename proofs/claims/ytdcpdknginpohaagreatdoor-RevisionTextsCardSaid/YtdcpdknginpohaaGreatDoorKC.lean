/- Chapters 5 and 6 on plain data: what the reference's Check says of places; which flights and places are big. Conditions: as each says. -/
import Derived.Test.YtdcpdknginpohaaGreatDoorKB
import Derived.Test.YtdcpdknginpohaaGreatDoorGc
import Derived.Test.YtdcpdknginpohaaGreatDoorGd
import Derived.Test.YtdcpdknginpohaaGreatDoorW07
set_option linter.unusedSimpArgs false
namespace Go.Proofs
open Go.Am
variable (lb : Nat)
end Go.Proofs
set_option linter.unusedSimpArgs false
namespace Go.Proofs
open Go.Am
variable (lb : Nat)
def QcZ (x : Lg) : Nat := x.fro.length + x.to.length + x.eq.length
def bigB (p : Pc) (f : Fl) : Bool := decide (f.car.length + ((f.legs.take 20).map QcZ).sum > 400) || (decide (f.legs.length > 12) || (decide (p.aps.length > 20) || decide (p.dis.length > 40)))
theorem QtG (p : Pc) (f : Fl) (hc : f.car.length ≤ 281474976710656) (hx : ∀ x ∈ f.legs, QcZ x ≤ 1000000000000000) (hl : f.legs.length ≤ 281474976710656) (hp1 : p.aps.length ≤ 281474976710656) (hp2 : p.dis.length ≤ 281474976710656) : Ret lb QcK [pcv p, flcv f] (.bool (bigB p f)) := by
 refine .top rfl (.eq (fun n => by rw [Qu3]) ?_)
 have fin : ∀ (n : Nat) (i : Int) (q : List Lg), q = f.legs.take 20 → Qim lb n p.an (p.aps.map apcv) p.dn (p.dis.map dicv) f.car f.num f.fr f.to f.days f.ln (f.legs.map lgcv) ((f.car.length + (q.map QcZ).sum : Nat) : Int) i = some (.bool (bigB p f)) := by
  intro n i q hq
  subst hq
  rw [QrE]
  unfold bigB
  simp only [List.length_map]
  by_cases c1 : f.car.length + ((f.legs.take 20).map QcZ).sum > 400
  ·rw [decT c1, decT (by omega)]; rfl
  rw [decF c1, decF (by omega), cond_false, Bool.false_or]
  by_cases c2 : f.legs.length > 12
  ·rw [decT c2, decT (by omega)]; rfl
  rw [decF c2, decF (by omega), cond_false, Bool.false_or]
  by_cases c3 : p.aps.length > 20
  ·rw [decT c3, decT (by omega)]; rfl
  rw [decF c3, decF (by omega), cond_false, Bool.false_or]
  congr 2
  exact decide_eq_decide.2 (by omega)
 have key := QxF (enc := lgcv) (l := f.legs) (by omega) (P := fun q t n k => q.length ≤ 20 → (q.map QcZ).sum ≤ q.length * 1000000000000000 → r07_Big_L1 lb n k p.an (p.aps.map apcv) p.dn (p.dis.map dicv) f.car f.num f.fr f.to f.days f.ln (f.legs.map lgcv) ((f.car.length + (q.map QcZ).sum : Nat) : Int) (q.length : Int) = some (.bool (bigB p f))) (by
  refine .all fun n k hk _ => ?_
  rw [Qjs]
  refine stF (decF (by simp)) ?_
  exact fin n _ _ (by rw [List.take_of_length_le (by omega)])) (by
  intro q x t hq hlt hat hw hev
  refine hev.mono fun n hn k hk hq20 hs => ?_
  have hn := hn k hk
  have hxl := hx x (by rw [← hq]; simp)
  rw [Qjs]
  refine stT (decT hlt) ?_
  by_cases c : q.length < 20
  ·refine stT (decT (by omega)) (stO _ hat (stC rfl (stO _ rfl (stO _ rfl (stO _ hat (stC rfl (stO _ rfl (stO _ rfl (stO _ hat (stC rfl (stO _ rfl (stO _ rfl ?_))))))))))))
   have h20 : q.length * 1000000000000000 ≤ 20 * 1000000000000000 := Nat.mul_le_mul (by omega) (Nat.le_refl _)
   unfold QcZ at hxl
   rw [hw, Qag (x := ((f.car.length + (q.map QcZ).sum : Nat) : Int) + (x.fro.length : Int)) (by omega) (by omega), Qag (x := ((f.car.length + (q.map QcZ).sum : Nat) : Int) + (x.fro.length : Int) + (x.to.length : Int)) (by omega) (by omega), Qag (by omega) (by omega)]
   have hn := hn (by simp; omega) (by simp [QcZ]; omega)
   have e : ((f.car.length + ((q ++ [x]).map QcZ).sum : Nat) : Int) = ((f.car.length + (q.map QcZ).sum : Nat) : Int) + (x.fro.length : Int) + (x.to.length : Int) + (x.eq.length : Int) := by
    simp [QcZ]; omega
   rw [← e]
   exact hn
  ·refine stF (decF (by omega)) ?_
   exact fin n _ _ (by rw [← hq, List.take_append, List.take_of_length_le (by omega)]; simp; omega)) f.legs [] rfl
 refine (Evt.diag key).mono fun n hn => ?_
 simpa using hn (by simp) (by simp)
theorem QvT : ∀ {l : List Nat} {x : Nat}, x ∈ l → x ≤ l.sum
 | y :: l, x, h => by
  rw [List.sum_cons]
  rcases List.mem_cons.1 h with rfl | h
  ·omega
  ·have := QvT h; omega
theorem QuO {p : Pc} {f : Fl} (h : bigB p f = false) : f.car.length ≤ 400 ∧ (∀ x ∈ f.legs, x.fro.length ≤ 400 ∧ x.to.length ≤ 400 ∧ x.eq.length ≤ 400) ∧ f.legs.length ≤ 12 ∧ p.aps.length ≤ 20 ∧ p.dis.length ≤ 40 := by
 unfold bigB at h
 simp only [Bool.or_eq_false_iff, decide_eq_false_iff_not] at h
 obtain ⟨h1, h2, h3, h4⟩ := h
 rw [List.take_of_length_le (by omega)] at h1
 refine ⟨by omega, fun x hx => ?_, by omega, by omega, by omega⟩
 have : QcZ x ≤ (f.legs.map QcZ).sum := QvT (List.mem_map_of_mem hx)
 have e : QcZ x = x.fro.length + x.to.length + x.eq.length := rfl
 omega
end Go.Proofs
set_option linter.unusedSimpArgs false
set_option linter.unusedVariables false
namespace Go.Proofs
open Go.Am
variable (lb : Nat)
def ArgF (f : Fl) : Prop := f.car.length ≤ 281474976710656 ∧ f.legs.length ≤ 281474976710656 ∧ ∀ x ∈ f.legs, QcZ x ≤ 1000000000000000
instance : DecidableEq Lg := fun a b => by
 cases a; cases b
 simp only [Lg.mk.injEq]
 infer_instance
def lgB (x y : Lg) : Bool := (x.fro == y.fro) && ((x.to == y.to) && ((x.dep == y.dep) && ((x.arr == y.arr) && ((x.eq == y.eq) && true))))
def lgsB : List Lg → List Lg → Bool
 | [], [] => true
 | x :: a, y :: b => lgB x y && lgsB a b
 | _, _ => false
theorem Qtl : ∀ {a b : List Lg}, lgsB a b = true → a.length = b.length
 | [], [], _ => rfl
 | x :: a, y :: b, h => by
  simp only [lgsB, Bool.and_eq_true] at h
  simp [Qtl h.2]
 | [], y :: b, h => by cases h
 | x :: a, [], h => by cases h
theorem QwB (x : Lg) : lgB x x = true := by simp [lgB]
theorem Qmy : ∀ a : List Lg, lgsB a a = true
 | [] => rfl
 | x :: a => by simp [lgsB, QwB, Qmy a]
theorem Qx5 (f : Nat → Nat → Int → Option CV) (an bn : Bool) (a b : List Lg) (hl : a.length ≤ 1000) (he : a.length = b.length)
  (step : ∀ n k q x y, (q : Nat) < a.length → a[q]? = some x → b[q]? = some y → f n (k + 1) (q : Int) = (bif !lgB x y then some (.bool false) else f n k (IntKind.wrap .i64 ((q : Int) + 1)))) (stop : ∀ n k, f n (k + 1) (a.length : Int) = some (.bool true)) :
  Evt fun n => f n n 0 = some (.bool (lgsB a b)) := by
 have key : ∀ (t s q r : List Lg), q ++ t = a → r ++ s = b → q.length = r.length → t.length = s.length → ∀ n k, t.length < k → f n k (q.length : Int) = some (.bool (lgsB t s)) := by
  intro t
  induction t with
  | nil =>
   intro s q r hq hr h1 h2 n k hk
   obtain ⟨k, rfl⟩ : ∃ m, k = m + 1 := ⟨k - 1, by simp at hk; omega⟩
   have : q = a := by simpa using hq
   subst this
   have : s = [] := List.length_eq_zero_iff.1 (by simpa using h2.symm)
   subst this
   exact stop n k
  | cons x t ih =>
   intro s q r hq hr h1 h2 n k hk
   obtain ⟨k, rfl⟩ : ∃ m, k = m + 1 := ⟨k - 1, by simp at hk; omega⟩
   cases s with
   | nil => simp at h2
   | cons y s =>
    have hal : a.length = q.length + (t.length + 1) := by rw [← hq]; simp
    rw [step n k q.length x y (by omega) (by rw [← hq]; simp) (by rw [← hr, h1]; simp)]
    rw [Qag (by omega) (by omega), show (q.length : Int) + 1 = ((q ++ [x]).length : Int) by simp]
    rw [ih s (q ++ [x]) (r ++ [y]) (by rw [← hq]; simp) (by rw [← hr]; simp) (by simp [h1]) (by simpa using h2) n k (by simp at hk; omega)]
    rw [show lgsB (x :: t) (y :: s) = (lgB x y && lgsB t s) from rfl]
    cases lgB x y <;> rfl
 exact ⟨a.length + 1, fun n hn => key a b [] [] rfl rfl rfl he n n (by omega)⟩
theorem Qod (an bn : Bool) (a b : List Lg) (hl : a.length ≤ 1000) (hb : b.length ≤ 1000) : Ret lb Qbo [.list an (a.map lgcv), .list bn (b.map lgcv)] (.bool (lgsB a b)) := by
 by_cases he : a.length = b.length
 ·refine .top rfl (.eq (fun n => by rw [QjU, bneF (by simp [he]), cond_false]) (Qx5 (fun n k i => r07_SameLegs_L1 lb n k an (a.map lgcv) bn (b.map lgcv) i) an bn a b hl he (fun n k q x y hq hx hy => ?_) fun n k => ?_))
  ·have h1 : atL (a.map lgcv) (q : Int) = some (lgcv x) := Qet (by simp [hx])
   have h2 : atL (b.map lgcv) (q : Int) = some (lgcv y) := Qet (by simp [hy])
   show r07_SameLegs_L1 lb n (k + 1) an (a.map lgcv) bn (b.map lgcv) (q : Int) = _
   rw [Qgv, decT (by simp; omega), cond_true, h1, h2]
   rfl
  ·show r07_SameLegs_L1 lb n (k + 1) an (a.map lgcv) bn (b.map lgcv) (a.length : Int) = _
   rw [Qgv, decF (by simp), cond_false, Ql9]
 ·refine .top rfl (.all fun n => ?_)
  rw [QjU, bneT (by simp; omega), cond_true]
  cases hc : lgsB a b with
  | false => rfl
  | true => exact absurd (Qtl hc) he
def pc0 : Pc := ⟨true, [], true, []⟩
end Go.Proofs
