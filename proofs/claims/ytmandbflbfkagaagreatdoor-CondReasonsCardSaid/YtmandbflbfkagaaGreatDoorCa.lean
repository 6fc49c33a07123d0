/- Chapter 20 on plain data: conditions, their sizes, levels and errors. Conditions: none; definitions and plain laws. -/
import Derived.Test.YtmandbflbfkagaaGreatDoorRk
import Derived.Test.YtmandbflbfkagaaGreatDoorDf
set_option linter.unusedVariables false
set_option linter.unusedSimpArgs false
namespace Go.Proofs
open Go.Am
/-- a condition -/
inductive Cd where
  | mk (k : Int) (ln : Bool) (l : List Cd) (a b fr to days : Int) (tn : Bool) (t : List Bs)
namespace Cd
def k : Cd → Int | mk x .. => x
def ln : Cd → Bool | mk _ x .. => x
def l : Cd → List Cd | mk _ _ x .. => x
def a : Cd → Int | mk _ _ _ x .. => x
def b : Cd → Int | mk _ _ _ _ x .. => x
def fr : Cd → Int | mk _ _ _ _ _ x .. => x
def to : Cd → Int | mk _ _ _ _ _ _ x .. => x
def days : Cd → Int | mk _ _ _ _ _ _ _ x .. => x
def tn : Cd → Bool | mk _ _ _ _ _ _ _ _ x _ => x
def t : Cd → List Bs | mk _ _ _ _ _ _ _ _ _ x => x
end Cd
/-- an induction over conditions -/
theorem Cd.ind {P : Cd → Prop} (h : ∀ c : Cd, (∀ x ∈ c.l, P x) → P c) (c : Cd) : P c :=
  Cd.rec (motive_1 := P) (motive_2 := fun l => ∀ x ∈ l, P x) (fun k ln l a b fr to days tn t ih => h (.mk k ln l a b fr to days tn t) ih) (fun x hx => by cases hx)
    (fun y r hy hr x hx => by
      rcases List.mem_cons.1 hx with rfl | hx
      · exact hy
      · exact hr x hx) c
mutual
def ccv : Cd → List CV
  | .mk k ln l a b fr to days tn t => [.int .i64 k, .list ln (ccvs l), .int .i64 a, .int .i64 b, .int .i64 fr, .int .i64 to, .int .i64 days, .list tn (scv t)]
def ccvs : List Cd → List (List CV)
  | [] => []
  | c :: r => ccv c :: ccvs r
end
theorem ccvs_map : ∀ l : List Cd, ccvs l = l.map ccv
  | [] => rfl
  | c :: r => by rw [ccvs, ccvs_map r]; rfl
theorem ccv_eq (c : Cd) : ccv c = [.int .i64 c.k, .list c.ln (c.l.map ccv), .int .i64 c.a, .int .i64 c.b, .int .i64 c.fr, .int .i64 c.to, .int .i64 c.days, .list c.tn (scv c.t)] := by
  cases c with
  | mk k ln l a b fr to days tn t => rw [ccv, ccvs_map]; rfl
abbrev w64 (x : Int) : Int := IntKind.wrap .i64 x
/-! sizes and levels, as the machine reckons -/
mutual
def levC : Cd → Int
  | .mk _ _ l .. => w64 (levs 0 l + 1)
def levs : Int → List Cd → Int
  | n, [] => n
  | n, c :: r => levs (if levC c > n then levC c else n) r
end
mutual
def sizC : Cd → Int
  | .mk _ _ l .. => sizs 1 l
def sizs : Int → List Cd → Int
  | n, [] => n
  | n, c :: r => sizs (w64 (n + sizC c)) r
end
theorem levC_eq (c : Cd) : levC c = w64 (levs 0 c.l + 1) := by cases c; rw [levC]; rfl
theorem sizC_eq (c : Cd) : sizC c = sizs 1 c.l := by cases c; rw [sizC]; rfl
/- the number of parts -/
mutual
def tsz : Cd → Nat
  | .mk _ _ l .. => 1 + tszs l
def tszs : List Cd → Nat
  | [] => 0
  | c :: r => tsz c + tszs r
end
theorem tsz_eq (c : Cd) : tsz c = 1 + tszs c.l := by cases c; rw [tsz]; rfl
/-- the bytes of the first texts -/
def txtLen (t : List Bs) : Int := ((t.take 200).map fun s => (s.length : Int)).sum
/- is a condition too large for the laws? -/
mutual
def lgC : Cd → Bool
  | .mk k ln l a b fr to days tn t => if sizC (.mk k ln l a b fr to days tn t) > 300 then true else if lgs l then true else decide ((t.length : Int) + txtLen t > 400)
def lgs : List Cd → Bool
  | [] => false
  | c :: r => if lgC c then true else lgs r
end
theorem lgC_eq (c : Cd) : lgC c = if sizC c > 300 then true else if lgs c.l then true else decide ((c.t.length : Int) + txtLen c.t > 400) := by cases c; rw [lgC]; rfl
/- lists are as long as memory allows -/
mutual
def Fits : Cd → Prop
  | .mk k ln l a b fr to days tn t => l.length ≤ 281474976710656 ∧ FitsL l ∧ t.length ≤ 281474976710656 ∧ ∀ s ∈ t, s.length ≤ 281474976710656
def FitsL : List Cd → Prop
  | [] => True
  | c :: r => Fits c ∧ FitsL r
end
theorem fitsL_all : ∀ l : List Cd, FitsL l ↔ ∀ x ∈ l, Fits x
  | [] => by simp [FitsL]
  | c :: r => by rw [FitsL, fitsL_all r]; simp
theorem fits_eq (c : Cd) : Fits c ↔ c.l.length ≤ 281474976710656 ∧ (∀ x ∈ c.l, Fits x) ∧ c.t.length ≤ 281474976710656 ∧ ∀ s ∈ c.t, s.length ≤ 281474976710656 := by
  cases c
  rw [Fits, fitsL_all]
  rfl
theorem lgs_false : ∀ {l : List Cd}, lgs l = false → ∀ x ∈ l, lgC x = false
  | [], _, _, h => by cases h
  | c :: r, h, x, hx => by
    rw [lgs] at h
    split at h
    · cases h
    · rename_i q
      rcases List.mem_cons.1 hx with rfl | hx
      · simpa using q
      · exact lgs_false h x hx
theorem sizs_tsz : ∀ (l : List Cd) (n : Int) (B : Nat), 0 ≤ n → (∀ x ∈ l, sizC x = tsz x ∧ tsz x ≤ 300) → n + 300 * l.length ≤ 9223372036854775807 → sizs n l = n + tszs l
  | [], n, B, _, _, _ => by rw [sizs, tszs]; simp
  | c :: r, n, B, h0, h, hn => by
    obtain ⟨h1, h2⟩ := h c (by simp)
    simp only [List.length_cons] at hn
    rw [sizs, tszs, h1, w64, wrap64 (by omega) (by omega), sizs_tsz r (n + tsz c) B (by omega) (fun x hx => h x (by simp [hx])) (by omega)]
    omega
/-- what is not too large has at most 300 parts -/
theorem small_size : ∀ c : Cd, Fits c → lgC c = false → sizC c = tsz c ∧ tsz c ≤ 300 := by
  refine Cd.ind fun c ih hf h => ?_
  obtain ⟨f1, f2, _, _⟩ := (fits_eq c).1 hf
  rw [lgC_eq] at h
  split at h
  · cases h
  · rename_i q1
    split at h
    · cases h
    · rename_i q2
      have hl := lgs_false (by simpa using q2)
      have := sizs_tsz c.l 1 0 (by omega) (fun x hx => ih x hx (f2 x hx) (hl x hx)) (by omega)
      have e1 : sizC c = (tsz c : Int) := by rw [sizC_eq, this, tsz_eq]; omega
      exact ⟨e1, by omega⟩
theorem small_sub {c : Cd} (h : lgC c = false) : ∀ x ∈ c.l, lgC x = false := by
  rw [lgC_eq] at h
  split at h
  · cases h
  · split at h
    · cases h
    · rename_i q
      exact lgs_false (by simpa using q)
theorem small_txt {c : Cd} (h : lgC c = false) : (c.t.length : Int) + txtLen c.t ≤ 400 := by
  rw [lgC_eq] at h
  split at h
  · cases h
  · split at h
    · cases h
    · simpa using h
theorem tszs_mem : ∀ {l : List Cd} {x : Cd}, x ∈ l → tsz x ≤ tszs l
  | [], _, h => by cases h
  | c :: r, x, h => by
    rw [tszs]
    rcases List.mem_cons.1 h with rfl | h
    · omega
    · have := tszs_mem h
      omega
theorem tsz_pos (c : Cd) : 1 ≤ tsz c := by rw [tsz_eq]; omega
theorem tszs_len : ∀ l : List Cd, l.length ≤ tszs l
  | [] => by simp [tszs]
  | c :: r => by
    have := tszs_len r
    have := tsz_pos c
    rw [tszs, List.length_cons]
    omega
end Go.Proofs
