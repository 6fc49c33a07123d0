/- Chapter 20 on plain data: conditions, their sizes, levels and errors. Conditions: none; definitions and plain laws. -/
import Derived.Test.YtmpbijffaepkdaaGreatDoorRk
import Derived.Test.YtmpbijffaepkdaaGreatDoorDf
set_option linter.unusedVariables false
set_option linter.unusedSimpArgs false
namespace Go.Proofs
open Go.Am
inductive Cd where
 | mk (k : Int) (ln : Bool) (l : List Cd) (a b fr to days : Int) (tn : Bool) (t : List Bs)
namespace Cd
def k : Cd → Int | mk x .. => x
def ln : Cd → Bool | mk _ x .. => x
def l : Cd → List Cd | mk _ _ x .. => x
def a : Cd → Int | mk _ _ _ x .. => x
def b : Cd → Int | mk _ _ _ _ x .. => x
def fr : Cd → Int | mk _ _ _ _ _ x .. => x
def to : Cd → Int | mk _ _ _ _ _ _ x .. => x
def days : Cd → Int | mk _ _ _ _ _ _ _ x .. => x
def tn : Cd → Bool | mk _ _ _ _ _ _ _ _ x _ => x
def t : Cd → List Bs | mk _ _ _ _ _ _ _ _ _ x => x
end Cd
theorem Cd.ind {P : Cd → Prop} (h : ∀ c : Cd, (∀ x ∈ c.l, P x) → P c) (c : Cd) : P c :=
 Cd.rec (motive_1 := P) (motive_2 := fun l => ∀ x ∈ l, P x) (fun k ln l a b fr to days tn t ih => h (.mk k ln l a b fr to days tn t) ih) (fun x hx => by cases hx)
  (fun y r hy hr x hx => by
   rcases List.mem_cons.1 hx with rfl | hx
   ·exact hy
   ·exact hr x hx) c
mutual
def ccv : Cd → List CV
 | .mk k ln l a b fr to days tn t => [.int .i64 k, .list ln (ccvs l), .int .i64 a, .int .i64 b, .int .i64 fr, .int .i64 to, .int .i64 days, .list tn (scv t)]
def ccvs : List Cd → List (List CV)
 | [] => []
 | c :: r => ccv c :: ccvs r
end
theorem Qj1 : ∀ l : List Cd, ccvs l = l.map ccv
 | [] => rfl
 | c :: r => by rw [ccvs, Qj1 r]; rfl
theorem QjE (c : Cd) : ccv c = [.int .i64 c.k, .list c.ln (c.l.map ccv), .int .i64 c.a, .int .i64 c.b, .int .i64 c.fr, .int .i64 c.to, .int .i64 c.days, .list c.tn (scv c.t)] := by
 cases c with
 | mk k ln l a b fr to days tn t => rw [ccv, Qj1]; rfl
mutual
def Fits : Cd → Prop
 | .mk k ln l a b fr to days tn t => l.length ≤ 281474976710656 ∧ QhH l ∧ t.length ≤ 281474976710656 ∧ ∀ s ∈ t, s.length ≤ 281474976710656
def QhH : List Cd → Prop
 | [] => True
 | c :: r => Fits c ∧ QhH r
end
theorem Qi3 : ∀ l : List Cd, QhH l ↔ ∀ x ∈ l, Fits x
 | [] => by simp [QhH]
 | c :: r => by rw [QhH, Qi3 r]; simp
theorem QgJ (c : Cd) : Fits c ↔ c.l.length ≤ 281474976710656 ∧ (∀ x ∈ c.l, Fits x) ∧ c.t.length ≤ 281474976710656 ∧ ∀ s ∈ c.t, s.length ≤ 281474976710656 := by
 cases c
 rw [Fits, Qi3]
 rfl
end Go.Proofs
