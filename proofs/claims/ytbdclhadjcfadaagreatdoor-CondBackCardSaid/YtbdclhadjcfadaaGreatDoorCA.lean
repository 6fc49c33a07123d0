/- Chapter 20 on plain data: conditions, their sizes, levels and errors. Conditions: none; definitions and plain laws. -/
import Derived.Test.YtbdclhadjcfadaaGreatDoorRk
import Derived.Test.YtbdclhadjcfadaaGreatDoorDf
import Derived.Test.YtbdclhadjcfadaaGreatDoorHa
import Derived.Test.YtbdclhadjcfadaaGreatDoorHB
import Derived.Test.YtbdclhadjcfadaaGreatDoorRA
import Derived.Test.YtbdclhadjcfadaaGreatDoorHb
import Derived.Test.YtbdclhadjcfadaaGreatDoorKA
set_option linter.unusedVariables false
set_option linter.unusedSimpArgs false
namespace Go.Proofs
open Go.Am
inductive Cd where
 | mk (k : Int) (ln : Bool) (l : List Cd) (a b fr to days : Int) (tn : Bool) (t : List Bs)
namespace Cd
def k : Cd → Int | mk x .. => x
def ln : Cd → Bool | mk _ x .. => x
def l : Cd → List Cd | mk _ _ x .. => x
def a : Cd → Int | mk _ _ _ x .. => x
def b : Cd → Int | mk _ _ _ _ x .. => x
def fr : Cd → Int | mk _ _ _ _ _ x .. => x
def to : Cd → Int | mk _ _ _ _ _ _ x .. => x
def days : Cd → Int | mk _ _ _ _ _ _ _ x .. => x
def tn : Cd → Bool | mk _ _ _ _ _ _ _ _ x _ => x
def t : Cd → List Bs | mk _ _ _ _ _ _ _ _ _ x => x
end Cd
theorem Cd.ind {P : Cd → Prop} (h : ∀ c : Cd, (∀ x ∈ c.l, P x) → P c) (c : Cd) : P c :=
 Cd.rec (motive_1 := P) (motive_2 := fun l => ∀ x ∈ l, P x) (fun k ln l a b fr to days tn t ih => h (.mk k ln l a b fr to days tn t) ih) (fun x hx => by cases hx)
  (fun y r hy hr x hx => by
   rcases List.mem_cons.1 hx with rfl | hx
   ·exact hy
   ·exact hr x hx) c
mutual
def ccv : Cd → List CV
 | .mk k ln l a b fr to days tn t => [.int .i64 k, .list ln (ccvs l), .int .i64 a, .int .i64 b, .int .i64 fr, .int .i64 to, .int .i64 days, .list tn (scv t)]
def ccvs : List Cd → List (List CV)
 | [] => []
 | c :: r => ccv c :: ccvs r
end
theorem QqI : ∀ l : List Cd, ccvs l = l.map ccv
 | [] => rfl
 | c :: r => by rw [ccvs, QqI r]; rfl
theorem QhK (c : Cd) : ccv c = [.int .i64 c.k, .list c.ln (c.l.map ccv), .int .i64 c.a, .int .i64 c.b, .int .i64 c.fr, .int .i64 c.to, .int .i64 c.days, .list c.tn (scv c.t)] := by
 cases c with
 | mk k ln l a b fr to days tn t => rw [ccv, QqI]; rfl
abbrev w64 (x : Int) : Int := IntKind.wrap .i64 x
mutual
def levC : Cd → Int
 | .mk _ _ l .. => w64 (levs 0 l + 1)
def levs : Int → List Cd → Int
 | n, [] => n
 | n, c :: r => levs (if levC c > n then levC c else n) r
end
mutual
def sizC : Cd → Int
 | .mk _ _ l .. => sizs 1 l
def sizs : Int → List Cd → Int
 | n, [] => n
 | n, c :: r => sizs (w64 (n + sizC c)) r
end
theorem Qn7 (c : Cd) : levC c = w64 (levs 0 c.l + 1) := by cases c; rw [levC]; rfl
theorem Qhz (c : Cd) : sizC c = sizs 1 c.l := by cases c; rw [sizC]; rfl
mutual
def tsz : Cd → Nat
 | .mk _ _ l .. => 1 + tszs l
def tszs : List Cd → Nat
 | [] => 0
 | c :: r => tsz c + tszs r
end
theorem QeT (c : Cd) : tsz c = 1 + tszs c.l := by cases c; rw [tsz]; rfl
def QkH (t : List Bs) : Int := ((t.take 200).map fun s => (s.length : Int)).sum
mutual
def lgC : Cd → Bool
 | .mk k ln l a b fr to days tn t => if sizC (.mk k ln l a b fr to days tn t) > 300 then true else if lgs l then true else decide ((t.length : Int) + QkH t > 400)
def lgs : List Cd → Bool
 | [] => false
 | c :: r => if lgC c then true else lgs r
end
theorem Qnz (c : Cd) : lgC c = if sizC c > 300 then true else if lgs c.l then true else decide ((c.t.length : Int) + QkH c.t > 400) := by cases c; rw [lgC]; rfl
mutual
def Fits : Cd → Prop
 | .mk k ln l a b fr to days tn t => l.length ≤ 281474976710656 ∧ QnY l ∧ t.length ≤ 281474976710656 ∧ ∀ s ∈ t, s.length ≤ 281474976710656
def QnY : List Cd → Prop
 | [] => True
 | c :: r => Fits c ∧ QnY r
end
theorem QoR : ∀ l : List Cd, QnY l ↔ ∀ x ∈ l, Fits x
 | [] => by simp [QnY]
 | c :: r => by rw [QnY, QoR r]; simp
theorem QhA (c : Cd) : Fits c ↔ c.l.length ≤ 281474976710656 ∧ (∀ x ∈ c.l, Fits x) ∧ c.t.length ≤ 281474976710656 ∧ ∀ s ∈ c.t, s.length ≤ 281474976710656 := by
 cases c
 rw [Fits, QoR]
 rfl
theorem QkY : ∀ {l : List Cd}, lgs l = false → ∀ x ∈ l, lgC x = false
 | [], _, _, h => by cases h
 | c :: r, h, x, hx => by
  rw [lgs] at h
  split at h
  ·cases h
  ·rename_i q
   rcases List.mem_cons.1 hx with rfl | hx
   ·simpa using q
   ·exact QkY h x hx
theorem Qqc : ∀ (l : List Cd) (n : Int) (B : Nat), 0 ≤ n → (∀ x ∈ l, sizC x = tsz x ∧ tsz x ≤ 300) → n + 300 * l.length ≤ 9223372036854775807 → sizs n l = n + tszs l
 | [], n, B, _, _, _ => by rw [sizs, tszs]; simp
 | c :: r, n, B, h0, h, hn => by
  obtain ⟨h1, h2⟩ := h c (by simp)
  simp only [List.length_cons] at hn
  rw [sizs, tszs, h1, w64, Qat (by omega) (by omega), Qqc r (n + tsz c) B (by omega) (fun x hx => h x (by simp [hx])) (by omega)]
  omega
theorem Qj3 : ∀ c : Cd, Fits c → lgC c = false → sizC c = tsz c ∧ tsz c ≤ 300 := by
 refine Cd.ind fun c ih hf h => ?_
 obtain ⟨f1, f2, _, _⟩ := (QhA c).1 hf
 rw [Qnz] at h
 split at h
 ·cases h
 ·rename_i q1
  split at h
  ·cases h
  ·rename_i q2
   have hl := QkY (by simpa using q2)
   have := Qqc c.l 1 0 (by omega) (fun x hx => ih x hx (f2 x hx) (hl x hx)) (by omega)
   have e1 : sizC c = (tsz c : Int) := by rw [Qhz, this, QeT]; omega
   exact ⟨e1, by omega⟩
theorem QtG {c : Cd} (h : lgC c = false) : ∀ x ∈ c.l, lgC x = false := by
 rw [Qnz] at h
 split at h
 ·cases h
 ·split at h
  ·cases h
  ·rename_i q
   exact QkY (by simpa using q)
theorem QtN {c : Cd} (h : lgC c = false) : (c.t.length : Int) + QkH c.t ≤ 400 := by
 rw [Qnz] at h
 split at h
 ·cases h
 ·split at h
  ·cases h
  ·simpa using h
theorem Qmx : ∀ {l : List Cd} {x : Cd}, x ∈ l → tsz x ≤ tszs l
 | [], _, h => by cases h
 | c :: r, x, h => by
  rw [tszs]
  rcases List.mem_cons.1 h with rfl | h
  ·omega
  ·have := Qmx h
   omega
theorem Qv1 (c : Cd) : 1 ≤ tsz c := by rw [QeT]; omega
theorem QhW : ∀ l : List Cd, l.length ≤ tszs l
 | [] => by simp [tszs]
 | c :: r => by
  have := QhW r
  have := Qv1 c
  rw [tszs, List.length_cons]
  omega
end Go.Proofs
set_option linter.unusedVariables false
set_option linter.unusedSimpArgs false
namespace Go.Proofs
open Go.Am
variable (lb : Nat)
abbrev cdv (c : Cd) : CV := .agg [.int .i64 c.k, .list c.ln (c.l.map ccv), .int .i64 c.a, .int .i64 c.b, .int .i64 c.fr, .int .i64 c.to, .int .i64 c.days, .list c.tn (scv c.t)]
theorem Qgx {l : List Cd} {i : Nat} {x : Cd} (h : l[i]? = some x) : atL (l.map ccv) (i : Int) = some [.int .i64 x.k, .list x.ln (x.l.map ccv), .int .i64 x.a, .int .i64 x.b, .int .i64 x.fr, .int .i64 x.to, .int .i64 x.days, .list x.tn (scv x.t)] := by
 rw [← QhK]
 exact QqY (by simp [h])
theorem Qjq {f : FuncId} {v : Cd → CV} {G : Cd → Prop} (hG : ∀ c, G c → ∀ x ∈ c.l, G x) (h : ∀ c, G c → (Evt fun n => ∀ x ∈ c.l, C lb n f [cdv x] = some (v x)) → Ret lb f [cdv c] (v c)) : ∀ c, G c → Ret lb f [cdv c] (v c) :=
 Cd.ind fun c ih hg => h c hg (Evt.fin _ fun x hx => ih x hx (hG c hg x hx))
theorem Qf7 : ∀ c : Cd, Fits c → ∀ x ∈ c.l, Fits x := fun c h => ((QhA c).1 h).2.1
theorem QjU {c : Cd} (h : Fits c) : c.l.length ≤ 281474976710656 := ((QhA c).1 h).1
theorem Qil {c : Cd} (h : Fits c) : c.t.length ≤ 281474976710656 ∧ ∀ s ∈ c.t, s.length ≤ 281474976710656 := ((QhA c).1 h).2.2
theorem Qnn : ∀ c : Cd, Fits c → Ret lb Qa8 [cdv c] (.int .i64 (levC c)) := by
 refine Qjq lb Qf7 fun c hf hs => .top rfl (.eq (fun n => by rw [Qod]) ?_)
 have hl := QjU hf
 have hh : ∀ n, (∀ x ∈ c.l, C lb n Qa8 [cdv x] = some (.int .i64 (levC x))) → ∀ t p, p ++ t = c.l → ∀ k, t.length < k → ∀ m, cond_levels_L1 lb n k c.k c.ln (c.l.map ccv) c.a c.b c.fr c.to c.days c.tn (scv c.t) m (p.length : Int) = some (.int .i64 (w64 (levs m t + 1))) := by
  intro n hs t
  induction t with
  | nil =>
   intro p hp k hk m
   obtain ⟨k, rfl⟩ : ∃ j, k = j + 1 := ⟨k - 1, by simp at hk; omega⟩
   have hpl : p = c.l := by simpa using hp
   rw [Qf4]
   refine stF (decF (by rw [hpl, List.length_map]; omega)) ?_
   rw [QlX, levs]
  | cons x t ih =>
   intro p hp k hk m
   obtain ⟨k, rfl⟩ : ∃ j, k = j + 1 := ⟨k - 1, by simp at hk; omega⟩
   have hpl : c.l.length = p.length + (t.length + 1) := by rw [← hp]; simp
   have hat := Qgx (l := c.l) (i := p.length) (x := x) (by rw [← hp]; simp)
   rw [Qf4]
   refine stT (decT (by rw [List.length_map]; omega)) (stO _ hat (stC rfl (stO _ rfl (stO _ rfl (stO _ rfl (stO _ rfl (stO _ rfl (stO _ rfl (stO _ rfl (stO _ rfl (stO _ (hs x (by rw [← hp]; simp)) (stO _ (Qas ..) ?_))))))))))))
   rw [Qat (by omega) (by omega), show (p.length : Int) + 1 = ((p ++ [x]).length : Int) by simp, levs]
   exact ih (p ++ [x]) (by rw [← hp]; simp) k (by simp at hk; omega) _
 rw [Qn7]
 exact Evt.imp2 hs (Evt.ge (c.l.length + 1)) fun n a hn => hh n a c.l [] rfl n (by omega) 0
theorem QpE : ∀ c : Cd, Fits c → Ret lb Qbr [cdv c] (.int .i64 (sizC c)) := by
 refine Qjq lb Qf7 fun c hf hs => .top rfl (.eq (fun n => by rw [Qqp]) ?_)
 have hl := QjU hf
 have hh : ∀ n, (∀ x ∈ c.l, C lb n Qbr [cdv x] = some (.int .i64 (sizC x))) → ∀ t p, p ++ t = c.l → ∀ k, t.length < k → ∀ m, QfB lb n k c.k c.ln (c.l.map ccv) c.a c.b c.fr c.to c.days c.tn (scv c.t) m (p.length : Int) = some (.int .i64 (sizs m t)) := by
  intro n hs t
  induction t with
  | nil =>
   intro p hp k hk m
   obtain ⟨k, rfl⟩ : ∃ j, k = j + 1 := ⟨k - 1, by simp at hk; omega⟩
   have hpl : p = c.l := by simpa using hp
   rw [Qhe]
   refine stF (decF (by rw [hpl, List.length_map]; omega)) ?_
   rw [Qnp, sizs]
  | cons x t ih =>
   intro p hp k hk m
   obtain ⟨k, rfl⟩ : ∃ j, k = j + 1 := ⟨k - 1, by simp at hk; omega⟩
   have hpl : c.l.length = p.length + (t.length + 1) := by rw [← hp]; simp
   have hat := Qgx (l := c.l) (i := p.length) (x := x) (by rw [← hp]; simp)
   rw [Qhe]
   refine stT (decT (by rw [List.length_map]; omega)) (stO _ hat (stC rfl (stO _ rfl (stO _ rfl (stO _ rfl (stO _ rfl (stO _ rfl (stO _ rfl (stO _ rfl (stO _ rfl (stO _ (hs x (by rw [← hp]; simp)) (stO _ (Qas ..) ?_))))))))))))
   rw [Qat (x := (p.length : Int) + 1) (by omega) (by omega), show (p.length : Int) + 1 = ((p ++ [x]).length : Int) by simp, sizs]
   exact ih (p ++ [x]) (by rw [← hp]; simp) k (by simp at hk; omega) _
 rw [Qhz]
 exact Evt.imp2 hs (Evt.ge (c.l.length + 1)) fun n a hn => hh n a c.l [] rfl n (by omega) 1
theorem Qq1 : ∀ c : Cd, Fits c → Ret lb Qbw [cdv c] (.int .i64 (sizC c)) := by
 refine Qjq lb Qf7 fun c hf hs => .top rfl (.eq (fun n => by rw [QrT]) ?_)
 have hl := QjU hf
 have hh : ∀ n, (∀ x ∈ c.l, C lb n Qbw [cdv x] = some (.int .i64 (sizC x))) → ∀ t p, p ++ t = c.l → ∀ k, t.length < k → ∀ m, Qgy lb n k c.k c.ln (c.l.map ccv) c.a c.b c.fr c.to c.days c.tn (scv c.t) m (p.length : Int) = some (.int .i64 (sizs m t)) := by
  intro n hs t
  induction t with
  | nil =>
   intro p hp k hk m
   obtain ⟨k, rfl⟩ : ∃ j, k = j + 1 := ⟨k - 1, by simp at hk; omega⟩
   have hpl : p = c.l := by simpa using hp
   rw [QhH]
   refine stF (decF (by rw [hpl, List.length_map]; omega)) ?_
   rw [Qom, sizs]
  | cons x t ih =>
   intro p hp k hk m
   obtain ⟨k, rfl⟩ : ∃ j, k = j + 1 := ⟨k - 1, by simp at hk; omega⟩
   have hpl : c.l.length = p.length + (t.length + 1) := by rw [← hp]; simp
   have hat := Qgx (l := c.l) (i := p.length) (x := x) (by rw [← hp]; simp)
   rw [QhH]
   refine stT (decT (by rw [List.length_map]; omega)) (stO _ hat (stC rfl (stO _ rfl (stO _ rfl (stO _ rfl (stO _ rfl (stO _ rfl (stO _ rfl (stO _ rfl (stO _ rfl (stO _ (hs x (by rw [← hp]; simp)) (stO _ (Qas ..) ?_))))))))))))
   rw [Qat (x := (p.length : Int) + 1) (by omega) (by omega), show (p.length : Int) + 1 = ((p ++ [x]).length : Int) by simp, sizs]
   exact ih (p ++ [x]) (by rw [← hp]; simp) k (by simp at hk; omega) _
 rw [Qhz]
 exact Evt.imp2 hs (Evt.ge (c.l.length + 1)) fun n a hn => hh n a c.l [] rfl n (by omega) 1
theorem Qi4 {t : List Bs} {i : Nat} {s : Bs} (h : t[i]? = some s) : atL (scv t) (i : Int) = some [.str s] := QqY (QwA h)
def QeL (t : List Bs) : Int := (t.map fun s => (s.length : Int)).sum
theorem Qtq (t : List Bs) : 0 ≤ QeL t := by
 induction t with
 | nil => simp [QeL]
 | cons x t ih => simp only [QeL, List.map_cons, List.sum_cons] at ih ⊢; omega
theorem QrC (c : Cd) (hf : Fits c) (i51 : Int) (n : Nat) : ∀ (r : Nat) (t p : List Bs), p ++ t = c.t → p.length + r = 200 → ∀ k, r < k → ∀ m : Int, 0 ≤ m → m ≤ 281474976710656 * (p.length + 2) →
  QfQ lb n k c.k c.ln (c.l.map ccv) c.a c.b c.fr c.to c.days c.tn (scv c.t) i51 m (p.length : Int) = some (.bool (decide (m + QeL (t.take r) > 400))) := by
 obtain ⟨f1, f2⟩ := Qil hf
 intro r
 induction r with
 | zero =>
  intro t p hp hr k hk m h0 h1
  obtain ⟨k, rfl⟩ : ∃ j, k = j + 1 := ⟨k - 1, by omega⟩
  rw [Qhc]
  have e : QeL (t.take 0) = 0 := rfl
  rw [e, Int.add_zero]
  by_cases hlt : (p.length : Int) < ((scv c.t).length : Int)
  ·refine stT (decT hlt) (stF (decF (by omega)) ?_)
   rw [QfM]
  ·refine stF (decF hlt) ?_
   rw [QfM]
 | succ r ih =>
  intro t p hp hr k hk m h0 h1
  obtain ⟨k, rfl⟩ : ∃ j, k = j + 1 := ⟨k - 1, by omega⟩
  rw [Qhc]
  cases t with
  | nil =>
   have hpl : p = c.t := by simpa using hp
   refine stF (decF (by rw [hpl, Qau]; omega)) ?_
   rw [QfM]
   simp [QeL]
  | cons s t =>
   have hpl : c.t.length = p.length + (t.length + 1) := by rw [← hp]; simp
   have hs := f2 s (by rw [← hp]; simp)
   refine stT (decT (by rw [Qau]; omega)) (stT (decT (by omega)) (stO _ (Qi4 (s := s) (by rw [← hp]; simp)) (stC rfl (stO _ rfl (stO _ rfl ?_)))))
   rw [Qat (x := m + (s.length : Int)) (by omega) (by omega), Qat (by omega) (by omega), show (p.length : Int) + 1 = ((p ++ [s]).length : Int) by simp]
   rw [ih t (p ++ [s]) (by rw [← hp]; simp) (by simp; omega) k (by omega) (m + (s.length : Int)) (by omega) (by simp only [List.length_append, List.length_cons, List.length_nil]; omega)]
   have e : QeL ((s :: t).take (r + 1)) = (s.length : Int) + QeL (t.take r) := by simp [QeL]
   rw [e]
   refine congrArg (fun b => some (CV.bool b)) (decide_eq_decide.2 ?_)
   omega
theorem Qpt : ∀ c : Cd, Fits c → Ret lb QaO [cdv c] (.bool (lgC c)) := by
 refine Qjq lb Qf7 fun c hf hs => .top rfl (.eq (fun n => by rw [Qqq]) ?_)
 have hl := QjU hf
 obtain ⟨f1, f2⟩ := Qil hf
 have e0 := Qq1 lb c hf
 rw [Qnz]
 by_cases q : sizC c > 300
 ·rw [if_pos q]
  exact e0.mono fun n a => stO _ a (stO _ (Qas ..) (stT (decT q) rfl))
 rw [if_neg q]
 have hh : ∀ n, 300 ≤ n → (∀ x ∈ c.l, C lb n QaO [cdv x] = some (.bool (lgC x))) → ∀ t p, p ++ t = c.l → ∀ k, t.length < k →
   QfJ lb n k c.k c.ln (c.l.map ccv) c.a c.b c.fr c.to c.days c.tn (scv c.t) (p.length : Int) = some (.bool (if lgs t = true then true else decide ((c.t.length : Int) + QkH c.t > 400))) := by
  intro n hn hs t
  induction t with
  | nil =>
   intro p hp k hk
   obtain ⟨k, rfl⟩ : ∃ j, k = j + 1 := ⟨k - 1, by simp at hk; omega⟩
   have hpl : p = c.l := by simpa using hp
   rw [Qhd]
   refine stF (decF (by rw [hpl, List.length_map]; omega)) ?_
   rw [QnO, Qau, if_neg (by simp [lgs])]
   exact QrC lb c hf _ n 200 c.t [] rfl rfl n (by omega) _ (by omega) (by simp; omega)
  | cons x t ih =>
   intro p hp k hk
   obtain ⟨k, rfl⟩ : ∃ j, k = j + 1 := ⟨k - 1, by simp at hk; omega⟩
   have hpl : c.l.length = p.length + (t.length + 1) := by rw [← hp]; simp
   have hat := Qgx (l := c.l) (i := p.length) (x := x) (by rw [← hp]; simp)
   rw [Qhd]
   refine stT (decT (by rw [List.length_map]; omega)) (stO _ hat (stC rfl (stO _ rfl (stO _ rfl (stO _ rfl (stO _ rfl (stO _ rfl (stO _ rfl (stO _ rfl (stO _ rfl (stO _ (hs x (by rw [← hp]; simp)) (stO _ rfl ?_))))))))))))
   rw [lgs]
   cases hx : lgC x with
   | true => exact stT rfl rfl
   | false =>
    refine stF rfl ?_
    rw [Qat (by omega) (by omega), show (p.length : Int) + 1 = ((p ++ [x]).length : Int) by simp]
    exact ih (p ++ [x]) (by rw [← hp]; simp) k (by simp at hk; omega)
 exact Evt.imp2 e0 (Evt.and hs (Evt.ge (c.l.length + 301))) fun n a ⟨b, hn⟩ => stO _ a (stO _ (Qas ..) (stF (decF q) (hh n (by omega) b c.l [] rfl n (by omega))))
structure Tp where
 ty : Bs
 sale : Int
 day : Int
 min : Int
 stops : Int
 tr : Int
 cn : Bool
 car : List Bs
 nn : Bool
 nums : List Int
 vn : Bool
 vias : List Bs
abbrev tpv (t : Tp) : CV := .agg [.str t.ty, .int .i64 t.sale, .int .i64 t.day, .int .i64 t.min, .int .i64 t.stops, .int .i64 t.tr, .list t.cn (scv t.car), .list t.nn (t.nums.map fun z => [CV.int .i64 z]), .list t.vn (scv t.vias)]
end Go.Proofs
set_option linter.unusedVariables false
set_option linter.unusedSimpArgs false
namespace Go.Proofs
open Go.Am
variable (lb : Nat)
def Qh7 (i : Nat) (x : Bs) : List Bs → Int
 | [] => -1
 | y :: t => if x = y then (i : Int) else Qh7 (i + 1) x t
theorem Qp4 (x : Bs) : ∀ (l : List Bs) (i : Nat), (0 ≤ Qh7 i x l) ↔ x ∈ l
 | [], i => by simp [Qh7]
 | y :: t, i => by
  unfold Qh7
  by_cases h : x = y
  ·simp [h]
  ·rw [if_neg h, Qp4 x t (i + 1)]
   simp [h]
theorem QpM (an : Bool) (l : List Bs) (x : Bs) (hl : l.length ≤ 281474976710656) : Ret lb QaH [.list an (scv l), .str x] (.int .i64 (Qh7 0 x l)) := by
 refine .top rfl (.eq (fun n => by rw [QiE]) ?_)
 refine Evt.diag (m := l.length) (Qvz (enc := fun s => [CV.str s]) (l := l) (by omega) (P := fun p t n k => QcC lb n k an (scv l) x (p.length : Int) = some (.int .i64 (Qh7 p.length x t))) ?_ ?_ l [] rfl)
 ·refine .all fun n k => ?_
  rw [QdN]
  refine stF (decF (by rw [Qau]; omega)) ?_
  rw [Qhm]
  rfl
 ·intro p y t hp hlt hat hw hev
  refine hev.mono fun n hn k hk => ?_
  rw [QdN]
  refine stT (decT hlt) (stO _ hat (stC rfl (stO _ rfl (stO _ rfl ?_))))
  unfold Qh7
  by_cases h : x = y
  ·refine stT (by simp [h]) ?_
   rw [if_pos h]
  ·refine stF (by simp [h]) ?_
   rw [if_neg h, hw, hn k hk]
   simp
theorem Qfh (an : Bool) (l : List Bs) (x : Bs) (hl : l.length ≤ 281474976710656) : Ret lb QaE [.list an (scv l), .str x] (.bool (decide (x ∈ l))) := by
 refine .top rfl (.eq (fun n => by rw [Qhp]) ?_)
 refine .call (QpM lb an l x hl) (.all fun n => stO _ (Qas ..) ?_)
 rw [show decide (Qh7 0 x l ≥ 0) = decide (x ∈ l) from decide_eq_decide.2 (Qp4 x l 0)]
def QcQ (ok : Bs → Bool) : List Bs → List Bs → Int
 | _, [] => 0
 | p, s :: r => if ok s = false then 5 else if s ∈ p then 6 else QcQ ok (p ++ [s]) r
theorem QmY {α : Type} {p t l : List α} (h : p ++ t = l) : (l.take ((p.length : Int)).toNat).drop 0 = p := by
 rw [Int.toNat_natCast, ← h]
 simp
def paxB (s : Bs) : Bool := Qhk s 3 3
theorem QkU (s : Bs) (hs : s.length ≤ 281474976710656) : Ret lb QaJ [.str s] (.bool (paxB s)) := by
 refine .top rfl (.eq (fun n => by rw [QlY]) ?_)
 exact (Qkd lb s 3 3 hs).mono fun n a => stO _ a rfl
theorem QiT (an : Bool) (l : List Bs) (hl : l.length ≤ 281474976710656) (hs : ∀ s ∈ l, s.length ≤ 281474976710656) :
  Ret lb Qam [.list an (scv l), .fn QaT] (.int .i64 (if l = [] then 2 else QcQ Qc9 [] l)) := by
 refine .top rfl (.eq (fun n => by rw [Qha]) ?_)
 by_cases h0 : l = []
 ·subst h0
  exact .all fun n => stT rfl rfl
 rw [if_neg h0]
 have hp := List.length_pos_iff.2 h0
 have e1 : Evt fun n => ∀ s ∈ l, C lb n QaT [.str s] = some (.bool (Qc9 s)) := Evt.fin _ fun s h => QmP lb s (hs s h)
 have e2 : Evt fun n => ∀ q ∈ (List.range (l.length + 1)).map (fun i => l.take i), ∀ s ∈ l, C lb n QaE [.list an (scv q), .str s] = some (.bool (decide (s ∈ q))) := Evt.fin _ fun q hq => Evt.fin _ fun s h => Qfh lb an q s (by
  obtain ⟨i, _, rfl⟩ := List.mem_map.1 hq
  simp; omega)
 have hh : ∀ n, (∀ s ∈ l, C lb n QaT [.str s] = some (.bool (Qc9 s))) → (∀ q ∈ (List.range (l.length + 1)).map (fun i => l.take i), ∀ s ∈ l, C lb n QaE [.list an (scv q), .str s] = some (.bool (decide (s ∈ q)))) →
   ∀ t p, p ++ t = l → ∀ k, t.length < k → cond_codes_text_Carrier_L1 lb n k an (scv l) (p.length : Int) = some (.int .i64 (QcQ Qc9 p t)) := by
  intro n a1 a2 t
  induction t with
  | nil =>
   intro p hp k hk
   obtain ⟨k, rfl⟩ : ∃ j, k = j + 1 := ⟨k - 1, by simp at hk; omega⟩
   have hpl : p = l := by simpa using hp
   rw [Qdo]
   refine stF (decF (by rw [hpl, Qau]; omega)) ?_
   rw [QfZ]
   rfl
  | cons x t ih =>
   intro p hp k hk
   obtain ⟨k, rfl⟩ : ∃ j, k = j + 1 := ⟨k - 1, by simp at hk; omega⟩
   have hpl : l.length = p.length + (t.length + 1) := by rw [← hp]; simp
   have hx : x ∈ l := by rw [← hp]; simp
   have hq : p ∈ (List.range (l.length + 1)).map (fun i => l.take i) := List.mem_map.2 ⟨p.length, List.mem_range.2 (by omega), by rw [← hp]; simp⟩
   have hsc : ((scv l).take ((p.length : Int)).toNat).drop 0 = scv p := by rw [← Qau p]; exact QmY (t := scv (x :: t)) (by rw [← Qn4, hp])
   rw [Qdo]
   refine stT (decT (by rw [Qau]; omega)) (stO _ (Qi4 (s := x) (by rw [← hp]; simp)) (stC rfl (stO _ rfl (stO _ (a1 x hx) (stO _ rfl ?_)))))
   unfold QcQ
   cases hb : Qc9 x with
   | false => exact stT rfl rfl
   | true =>
    refine stF rfl (stC (Qd6 l) (stC (decT (by rw [Qau]; omega)) ?_))
    rw [hsc]
    refine stO _ (a2 p hq x hx) (stO _ rfl ?_)
    rw [if_neg (by simp)]
    by_cases hm : x ∈ p
    ·rw [if_pos hm]
     exact stT (decT hm) rfl
    ·rw [if_neg hm]
     refine stF (decF hm) ?_
     rw [Qat (by omega) (by omega), show (p.length : Int) + 1 = ((p ++ [x]).length : Int) by simp]
     exact ih (p ++ [x]) (by rw [← hp]; simp) k (by simp at hk; omega)
 exact Evt.imp2 e1 (Evt.and e2 (Evt.ge (l.length + 1))) fun n a ⟨b, hn⟩ => stF (beqF (by rw [Qau]; omega)) (hh n a b l [] rfl n (by omega))
theorem QiJ (an : Bool) (l : List Bs) (hl : l.length ≤ 281474976710656) (hs : ∀ s ∈ l, s.length ≤ 281474976710656) :
  Ret lb Qam [.list an (scv l), .fn QaS] (.int .i64 (if l = [] then 2 else QcQ Qdc [] l)) := by
 refine .top rfl (.eq (fun n => by rw [Qg9]) ?_)
 by_cases h0 : l = []
 ·subst h0
  exact .all fun n => stT rfl rfl
 rw [if_neg h0]
 have hp := List.length_pos_iff.2 h0
 have e1 : Evt fun n => ∀ s ∈ l, C lb n QaS [.str s] = some (.bool (Qdc s)) := Evt.fin _ fun s h => QmU lb s (hs s h)
 have e2 : Evt fun n => ∀ q ∈ (List.range (l.length + 1)).map (fun i => l.take i), ∀ s ∈ l, C lb n QaE [.list an (scv q), .str s] = some (.bool (decide (s ∈ q))) := Evt.fin _ fun q hq => Evt.fin _ fun s h => Qfh lb an q s (by
  obtain ⟨i, _, rfl⟩ := List.mem_map.1 hq
  simp; omega)
 have hh : ∀ n, (∀ s ∈ l, C lb n QaS [.str s] = some (.bool (Qdc s))) → (∀ q ∈ (List.range (l.length + 1)).map (fun i => l.take i), ∀ s ∈ l, C lb n QaE [.list an (scv q), .str s] = some (.bool (decide (s ∈ q)))) →
   ∀ t p, p ++ t = l → ∀ k, t.length < k → QbQ lb n k an (scv l) (p.length : Int) = some (.int .i64 (QcQ Qdc p t)) := by
  intro n a1 a2 t
  induction t with
  | nil =>
   intro p hp k hk
   obtain ⟨k, rfl⟩ : ∃ j, k = j + 1 := ⟨k - 1, by simp at hk; omega⟩
   have hpl : p = l := by simpa using hp
   rw [Qdn]
   refine stF (decF (by rw [hpl, Qau]; omega)) ?_
   rw [QfX]
   rfl
  | cons x t ih =>
   intro p hp k hk
   obtain ⟨k, rfl⟩ : ∃ j, k = j + 1 := ⟨k - 1, by simp at hk; omega⟩
   have hpl : l.length = p.length + (t.length + 1) := by rw [← hp]; simp
   have hx : x ∈ l := by rw [← hp]; simp
   have hq : p ∈ (List.range (l.length + 1)).map (fun i => l.take i) := List.mem_map.2 ⟨p.length, List.mem_range.2 (by omega), by rw [← hp]; simp⟩
   have hsc : ((scv l).take ((p.length : Int)).toNat).drop 0 = scv p := by rw [← Qau p]; exact QmY (t := scv (x :: t)) (by rw [← Qn4, hp])
   rw [Qdn]
   refine stT (decT (by rw [Qau]; omega)) (stO _ (Qi4 (s := x) (by rw [← hp]; simp)) (stC rfl (stO _ rfl (stO _ (a1 x hx) (stO _ rfl ?_)))))
   unfold QcQ
   cases hb : Qdc x with
   | false => exact stT rfl rfl
   | true =>
    refine stF rfl (stC (Qd6 l) (stC (decT (by rw [Qau]; omega)) ?_))
    rw [hsc]
    refine stO _ (a2 p hq x hx) (stO _ rfl ?_)
    rw [if_neg (by simp)]
    by_cases hm : x ∈ p
    ·rw [if_pos hm]
     exact stT (decT hm) rfl
    ·rw [if_neg hm]
     refine stF (decF hm) ?_
     rw [Qat (by omega) (by omega), show (p.length : Int) + 1 = ((p ++ [x]).length : Int) by simp]
     exact ih (p ++ [x]) (by rw [← hp]; simp) k (by simp at hk; omega)
 exact Evt.imp2 e1 (Evt.and e2 (Evt.ge (l.length + 1))) fun n a ⟨b, hn⟩ => stF (beqF (by rw [Qau]; omega)) (hh n a b l [] rfl n (by omega))
theorem QhL (an : Bool) (l : List Bs) (hl : l.length ≤ 281474976710656) (hs : ∀ s ∈ l, s.length ≤ 281474976710656) :
  Ret lb Qam [.list an (scv l), .fn QaJ] (.int .i64 (if l = [] then 2 else QcQ paxB [] l)) := by
 refine .top rfl (.eq (fun n => by rw [Qf8]) ?_)
 by_cases h0 : l = []
 ·subst h0
  exact .all fun n => stT rfl rfl
 rw [if_neg h0]
 have hp := List.length_pos_iff.2 h0
 have e1 : Evt fun n => ∀ s ∈ l, C lb n QaJ [.str s] = some (.bool (paxB s)) := Evt.fin _ fun s h => QkU lb s (hs s h)
 have e2 : Evt fun n => ∀ q ∈ (List.range (l.length + 1)).map (fun i => l.take i), ∀ s ∈ l, C lb n QaE [.list an (scv q), .str s] = some (.bool (decide (s ∈ q))) := Evt.fin _ fun q hq => Evt.fin _ fun s h => Qfh lb an q s (by
  obtain ⟨i, _, rfl⟩ := List.mem_map.1 hq
  simp; omega)
 have hh : ∀ n, (∀ s ∈ l, C lb n QaJ [.str s] = some (.bool (paxB s))) → (∀ q ∈ (List.range (l.length + 1)).map (fun i => l.take i), ∀ s ∈ l, C lb n QaE [.list an (scv q), .str s] = some (.bool (decide (s ∈ q)))) →
   ∀ t p, p ++ t = l → ∀ k, t.length < k → QbF lb n k an (scv l) (p.length : Int) = some (.int .i64 (QcQ paxB p t)) := by
  intro n a1 a2 t
  induction t with
  | nil =>
   intro p hp k hk
   obtain ⟨k, rfl⟩ : ∃ j, k = j + 1 := ⟨k - 1, by simp at hk; omega⟩
   have hpl : p = l := by simpa using hp
   rw [QcX]
   refine stF (decF (by rw [hpl, Qau]; omega)) ?_
   rw [Qfx]
   rfl
  | cons x t ih =>
   intro p hp k hk
   obtain ⟨k, rfl⟩ : ∃ j, k = j + 1 := ⟨k - 1, by simp at hk; omega⟩
   have hpl : l.length = p.length + (t.length + 1) := by rw [← hp]; simp
   have hx : x ∈ l := by rw [← hp]; simp
   have hq : p ∈ (List.range (l.length + 1)).map (fun i => l.take i) := List.mem_map.2 ⟨p.length, List.mem_range.2 (by omega), by rw [← hp]; simp⟩
   have hsc : ((scv l).take ((p.length : Int)).toNat).drop 0 = scv p := by rw [← Qau p]; exact QmY (t := scv (x :: t)) (by rw [← Qn4, hp])
   rw [QcX]
   refine stT (decT (by rw [Qau]; omega)) (stO _ (Qi4 (s := x) (by rw [← hp]; simp)) (stC rfl (stO _ rfl (stO _ (a1 x hx) (stO _ rfl ?_)))))
   unfold QcQ
   cases hb : paxB x with
   | false => exact stT rfl rfl
   | true =>
    refine stF rfl (stC (Qd6 l) (stC (decT (by rw [Qau]; omega)) ?_))
    rw [hsc]
    refine stO _ (a2 p hq x hx) (stO _ rfl ?_)
    rw [if_neg (by simp)]
    by_cases hm : x ∈ p
    ·rw [if_pos hm]
     exact stT (decT hm) rfl
    ·rw [if_neg hm]
     refine stF (decF hm) ?_
     rw [Qat (by omega) (by omega), show (p.length : Int) + 1 = ((p ++ [x]).length : Int) by simp]
     exact ih (p ++ [x]) (by rw [← hp]; simp) k (by simp at hk; omega)
 exact Evt.imp2 e1 (Evt.and e2 (Evt.ge (l.length + 1))) fun n a ⟨b, hn⟩ => stF (beqF (by rw [Qau]; omega)) (hh n a b l [] rfl n (by omega))
end Go.Proofs
set_option linter.unusedVariables false
set_option linter.unusedSimpArgs false
namespace Go.Proofs
open Go.Am
variable (lb : Nat)
def isl (k : Int) : Bool := (k == 2) || ((k == 3) || (k == 4))
def isp (k : Int) : Bool := (k == 5) || (k == 6)
def isc (k : Int) : Bool := (k == 11) || ((k == 13) || (k == 14))
def nums (k : Int) : Int := if k = 8 ∨ k = 12 then 2 else if k = 7 ∨ k = 9 ∨ k = 10 then 1 else 0
def Qbj (k : Int) (A B P T L : Bool) : Bool := ((!isl k) && L) || (((!isc k) && T) || (((!isp k) && P) || ((decide (nums k < 1) && A) || (decide (nums k < 2) && B))))
def perN (c : Cd) : Bool := !((c.fr == 0) && ((c.to == 0) && ((c.days == 0) && true)))
def Qa2 (c : Cd) : Bool := Qbj c.k (c.a != 0) (c.b != 0) (perN c) (decide ((c.t.length : Int) > 0)) (decide ((c.l.length : Int) > 0))
def QbI (c : Cd) : Bool :=
 if c.k = 2 ∨ c.k = 3 then decide (c.l.length = 0) else if c.k = 4 then decide (c.l.length ≠ 1) else if c.k = 7 then decide (c.a < 0 ∨ c.a ≥ 36525) else
 if c.k = 8 then decide (c.a < 0 ∨ c.a ≥ 1440 ∨ c.b < 0 ∨ c.b ≥ 1440) else if c.k = 9 ∨ c.k = 10 then decide (c.a < 0 ∨ c.a > 6) else
 if c.k = 12 then decide (c.a < 1 ∨ c.a > c.b ∨ c.b > 9999) else false
def QlD (k : Int) (s : Bs) : Bool := if k = 11 then Qc9 s else if k = 13 then Qdc s else paxB s
def Qb8 (c : Cd) : Int := if c.t = [] then 2 else QcQ (QlD c.k) [] c.t
def Qdl (c : Cd) : Int :=
 if c.k < 1 ∨ c.k > 14 then 8 else if Qa2 c = true then 3 else if QbI c = true then 2 else if isp c.k = true then perE c.fr c.to c.days else if isc c.k = true then Qb8 c else 0
def Qbn {β : Type} (r : Option β) : List Bool → Option β → Option β
 | [], x => x
 | b :: l, x => bif b then r else Qbn r l x
theorem QmH {β : Type} (r x : Option β) : ∀ l : List Bool, Qbn r l x = if l.any id = true then r else x
 | [] => rfl
 | true :: l => rfl
 | false :: l => by
  show Qbn r l x = _
  rw [QmH r x l]
  rfl
theorem QcN {E W : List Bool} {x : Option CV} {c : Cd} {v : Int} (h0 : ¬ (c.k < 1 ∨ c.k > 14)) (hE : E.any id = Qa2 c) (hW : Qa2 c = false → W.any id = QbI c) (hx : x = some (.int .i64 v))
  (hv : v = if isp c.k = true then perE c.fr c.to c.days else if isc c.k = true then Qb8 c else 0) : Qbn (some (.int .i64 3)) E (Qbn (some (.int .i64 2)) W x) = some (.int .i64 (Qdl c)) := by
 rw [QmH, QmH, hE]
 unfold Qdl
 rw [if_neg h0]
 cases he : Qa2 c with
 | true => rw [if_pos rfl, if_pos rfl]
 | false =>
  simp only [Bool.false_eq_true, if_false]
  rw [hW he]
  cases hw : QbI c with
  | true => rw [if_pos rfl, if_pos rfl]
  | false =>
   simp only [Bool.false_eq_true, if_false]
   rw [hx, hv]
theorem Qu9 (c : Cd) (hf : Fits c) (hl : c.l.length ≤ 127) : Ret lb Qb1 [cdv c] (.int .i64 (Qdl c)) := by
 refine .top rfl (.eq (fun n => by rw [Qp7, QlO]) ?_)
 obtain ⟨f1, f2⟩ := Qil hf
 have e5 := Qfk lb c.fr c.to c.days
 have e11 := QiT lb c.tn c.t f1 f2
 have e13 := QiJ lb c.tn c.t f1 f2
 have oz := QhL lb c.tn c.t f1 f2
 refine Evt.imp2 (Evt.and e5 e11) (Evt.and e13 oz) fun n ⟨a5, a11⟩ ⟨a13, a14⟩ => ?_
 by_cases k1 : c.k = 1
 ·refine stT (beqT k1) ((Ql1 ..).trans (Eq.trans (show _ = Qbn (some (.int .i64 3)) [(c.a != 0), (c.b != 0), (!((c.fr == 0) && ((c.to == 0) && ((c.days == 0) && true)))), (decide (((scv c.t).length : Int) > 0)), (decide (((c.l.map ccv).length : Int) > 0))] (Qbn (some (.int .i64 2)) [(decide (((c.l.map ccv).length : Int) < 0)), (decide (((c.l.map ccv).length : Int) > 0))] (some (.int .i64 0))) from rfl) ?_))
  simp only [List.length_map, Qau]
  refine QcN (v := 0) (by omega) ?_ (fun he => ?_) (rfl) ?_
  ·unfold Qa2
   rw [k1]
   show [c.a != 0, c.b != 0, perN c, decide ((c.t.length : Int) > 0), decide ((c.l.length : Int) > 0)].any id = _
   exact (by decide : ∀ A B P T L : Bool, [A, B, P, T, L].any id = Qbj 1 A B P T L) _ _ _ _ _
  ·have hz : c.l.length = 0 := by
    unfold Qa2 at he
    rw [k1] at he
    have := (by decide : ∀ A B P T L : Bool, Qbj 1 A B P T L = false → L = false) _ _ _ _ _ he
    simpa using this
   unfold QbI
   simp only [k1]
   refine Bool.eq_iff_iff.2 ?_
   simp
   try first | omega | (rw [← List.length_eq_zero_iff]; omega)
  ·rw [k1]
   first | rfl | (unfold Qb8; rw [k1]; rfl)
 refine stF (beqF k1) ?_
 by_cases k2 : c.k = 2
 ·refine stT (beqT k2) ((QlP ..).trans (Eq.trans (show _ = Qbn (some (.int .i64 3)) [(c.a != 0), (c.b != 0), (!((c.fr == 0) && ((c.to == 0) && ((c.days == 0) && true)))), (decide (((scv c.t).length : Int) > 0))] (Qbn (some (.int .i64 2)) [(decide (((c.l.map ccv).length : Int) < 1)), (decide (((c.l.map ccv).length : Int) > 128))] (some (.int .i64 0))) from rfl) ?_))
  simp only [List.length_map, Qau]
  refine QcN (v := 0) (by omega) ?_ (fun he => ?_) (rfl) ?_
  ·unfold Qa2
   rw [k2]
   show [c.a != 0, c.b != 0, perN c, decide ((c.t.length : Int) > 0)].any id = _
   exact (by decide : ∀ A B P T L : Bool, [A, B, P, T].any id = Qbj 2 A B P T L) _ _ _ _ _
  ·unfold QbI
   simp only [k2]
   refine Bool.eq_iff_iff.2 ?_
   simp
   try first | omega | (rw [← List.length_eq_zero_iff]; omega)
  ·rw [k2]
   first | rfl | (unfold Qb8; rw [k2]; rfl)
 refine stF (beqF k2) ?_
 by_cases k3 : c.k = 3
 ·refine stT (beqT k3) ((QlQ ..).trans (Eq.trans (show _ = Qbn (some (.int .i64 3)) [(c.a != 0), (c.b != 0), (!((c.fr == 0) && ((c.to == 0) && ((c.days == 0) && true)))), (decide (((scv c.t).length : Int) > 0))] (Qbn (some (.int .i64 2)) [(decide (((c.l.map ccv).length : Int) < 1)), (decide (((c.l.map ccv).length : Int) > 128))] (some (.int .i64 0))) from rfl) ?_))
  simp only [List.length_map, Qau]
  refine QcN (v := 0) (by omega) ?_ (fun he => ?_) (rfl) ?_
  ·unfold Qa2
   rw [k3]
   show [c.a != 0, c.b != 0, perN c, decide ((c.t.length : Int) > 0)].any id = _
   exact (by decide : ∀ A B P T L : Bool, [A, B, P, T].any id = Qbj 3 A B P T L) _ _ _ _ _
  ·unfold QbI
   simp only [k3]
   refine Bool.eq_iff_iff.2 ?_
   simp
   try first | omega | (rw [← List.length_eq_zero_iff]; omega)
  ·rw [k3]
   first | rfl | (unfold Qb8; rw [k3]; rfl)
 refine stF (beqF k3) ?_
 by_cases k4 : c.k = 4
 ·refine stT (beqT k4) ((QlU ..).trans (Eq.trans (show _ = Qbn (some (.int .i64 3)) [(c.a != 0), (c.b != 0), (!((c.fr == 0) && ((c.to == 0) && ((c.days == 0) && true)))), (decide (((scv c.t).length : Int) > 0))] (Qbn (some (.int .i64 2)) [(decide (((c.l.map ccv).length : Int) < 1)), (decide (((c.l.map ccv).length : Int) > 1))] (some (.int .i64 0))) from rfl) ?_))
  simp only [List.length_map, Qau]
  refine QcN (v := 0) (by omega) ?_ (fun he => ?_) (rfl) ?_
  ·unfold Qa2
   rw [k4]
   show [c.a != 0, c.b != 0, perN c, decide ((c.t.length : Int) > 0)].any id = _
   exact (by decide : ∀ A B P T L : Bool, [A, B, P, T].any id = Qbj 4 A B P T L) _ _ _ _ _
  ·unfold QbI
   simp only [k4]
   refine Bool.eq_iff_iff.2 ?_
   simp
   try first | omega | (rw [← List.length_eq_zero_iff]; omega)
  ·rw [k4]
   first | rfl | (unfold Qb8; rw [k4]; rfl)
 refine stF (beqF k4) ?_
 by_cases k5 : c.k = 5
 ·refine stT (beqT k5) ((Ql0 ..).trans (Eq.trans (show _ = Qbn (some (.int .i64 3)) [(c.a != 0), (c.b != 0), (decide (((scv c.t).length : Int) > 0)), (decide (((c.l.map ccv).length : Int) > 0))] (Qbn (some (.int .i64 2)) [(decide (((c.l.map ccv).length : Int) < 0)), (decide (((c.l.map ccv).length : Int) > 0))] (optO (C lb n QbT [.agg [.int .i64 c.fr, .int .i64 c.to, .int .i64 c.days]]) fun r => some r)) from rfl) ?_))
  simp only [List.length_map, Qau]
  refine QcN (v := perE c.fr c.to c.days) (by omega) ?_ (fun he => ?_) (stO _ a5 rfl) ?_
  ·unfold Qa2
   rw [k5]
   show [c.a != 0, c.b != 0, decide ((c.t.length : Int) > 0), decide ((c.l.length : Int) > 0)].any id = _
   exact (by decide : ∀ A B P T L : Bool, [A, B, T, L].any id = Qbj 5 A B P T L) _ _ _ _ _
  ·have hz : c.l.length = 0 := by
    unfold Qa2 at he
    rw [k5] at he
    have := (by decide : ∀ A B P T L : Bool, Qbj 5 A B P T L = false → L = false) _ _ _ _ _ he
    simpa using this
   unfold QbI
   simp only [k5]
   refine Bool.eq_iff_iff.2 ?_
   simp
   try first | omega | (rw [← List.length_eq_zero_iff]; omega)
  ·rw [k5]
   first | rfl | (unfold Qb8; rw [k5]; rfl)
 refine stF (beqF k5) ?_
 by_cases k6 : c.k = 6
 ·refine stT (beqT k6) ((QlK ..).trans (Eq.trans (show _ = Qbn (some (.int .i64 3)) [(c.a != 0), (c.b != 0), (decide (((scv c.t).length : Int) > 0)), (decide (((c.l.map ccv).length : Int) > 0))] (Qbn (some (.int .i64 2)) [(decide (((c.l.map ccv).length : Int) < 0)), (decide (((c.l.map ccv).length : Int) > 0))] (optO (C lb n QbT [.agg [.int .i64 c.fr, .int .i64 c.to, .int .i64 c.days]]) fun r => some r)) from rfl) ?_))
  simp only [List.length_map, Qau]
  refine QcN (v := perE c.fr c.to c.days) (by omega) ?_ (fun he => ?_) (stO _ a5 rfl) ?_
  ·unfold Qa2
   rw [k6]
   show [c.a != 0, c.b != 0, decide ((c.t.length : Int) > 0), decide ((c.l.length : Int) > 0)].any id = _
   exact (by decide : ∀ A B P T L : Bool, [A, B, T, L].any id = Qbj 6 A B P T L) _ _ _ _ _
  ·have hz : c.l.length = 0 := by
    unfold Qa2 at he
    rw [k6] at he
    have := (by decide : ∀ A B P T L : Bool, Qbj 6 A B P T L = false → L = false) _ _ _ _ _ he
    simpa using this
   unfold QbI
   simp only [k6]
   refine Bool.eq_iff_iff.2 ?_
   simp
   try first | omega | (rw [← List.length_eq_zero_iff]; omega)
  ·rw [k6]
   first | rfl | (unfold Qb8; rw [k6]; rfl)
 refine stF (beqF k6) ?_
 by_cases k7 : c.k = 7
 ·refine stT (beqT k7) ((QlZ ..).trans (Eq.trans (show _ = Qbn (some (.int .i64 3)) [(c.b != 0), (!((c.fr == 0) && ((c.to == 0) && ((c.days == 0) && true)))), (decide (((scv c.t).length : Int) > 0)), (decide (((c.l.map ccv).length : Int) > 0))] (Qbn (some (.int .i64 2)) [(decide (((c.l.map ccv).length : Int) < 0)), (decide (((c.l.map ccv).length : Int) > 0)), (decide (c.a < 0)), (decide (c.a > 36524))] (some (.int .i64 0))) from rfl) ?_))
  simp only [List.length_map, Qau]
  refine QcN (v := 0) (by omega) ?_ (fun he => ?_) (rfl) ?_
  ·unfold Qa2
   rw [k7]
   show [c.b != 0, perN c, decide ((c.t.length : Int) > 0), decide ((c.l.length : Int) > 0)].any id = _
   exact (by decide : ∀ A B P T L : Bool, [B, P, T, L].any id = Qbj 7 A B P T L) _ _ _ _ _
  ·have hz : c.l.length = 0 := by
    unfold Qa2 at he
    rw [k7] at he
    have := (by decide : ∀ A B P T L : Bool, Qbj 7 A B P T L = false → L = false) _ _ _ _ _ he
    simpa using this
   unfold QbI
   simp only [k7]
   refine Bool.eq_iff_iff.2 ?_
   simp
   try first | omega | (rw [← List.length_eq_zero_iff]; omega)
  ·rw [k7]
   first | rfl | (unfold Qb8; rw [k7]; rfl)
 refine stF (beqF k7) ?_
 by_cases k8 : c.k = 8
 ·refine stT (beqT k8) ((QlM ..).trans (Eq.trans (show _ = Qbn (some (.int .i64 3)) [(!((c.fr == 0) && ((c.to == 0) && ((c.days == 0) && true)))), (decide (((scv c.t).length : Int) > 0)), (decide (((c.l.map ccv).length : Int) > 0))] (Qbn (some (.int .i64 2)) [(decide (((c.l.map ccv).length : Int) < 0)), (decide (((c.l.map ccv).length : Int) > 0)), (decide (c.a < 0)), (decide (c.a > 1439)), (decide (c.b < 0)), (decide (c.b > 1439))] (some (.int .i64 0))) from rfl) ?_))
  simp only [List.length_map, Qau]
  refine QcN (v := 0) (by omega) ?_ (fun he => ?_) (rfl) ?_
  ·unfold Qa2
   rw [k8]
   show [perN c, decide ((c.t.length : Int) > 0), decide ((c.l.length : Int) > 0)].any id = _
   exact (by decide : ∀ A B P T L : Bool, [P, T, L].any id = Qbj 8 A B P T L) _ _ _ _ _
  ·have hz : c.l.length = 0 := by
    unfold Qa2 at he
    rw [k8] at he
    have := (by decide : ∀ A B P T L : Bool, Qbj 8 A B P T L = false → L = false) _ _ _ _ _ he
    simpa using this
   unfold QbI
   simp only [k8]
   refine Bool.eq_iff_iff.2 ?_
   simp
   try first | omega | (rw [← List.length_eq_zero_iff]; omega)
  ·rw [k8]
   first | rfl | (unfold Qb8; rw [k8]; rfl)
 refine stF (beqF k8) ?_
 by_cases k9 : c.k = 9
 ·refine stT (beqT k9) ((QlS ..).trans (Eq.trans (show _ = Qbn (some (.int .i64 3)) [(c.b != 0), (!((c.fr == 0) && ((c.to == 0) && ((c.days == 0) && true)))), (decide (((scv c.t).length : Int) > 0)), (decide (((c.l.map ccv).length : Int) > 0))] (Qbn (some (.int .i64 2)) [(decide (((c.l.map ccv).length : Int) < 0)), (decide (((c.l.map ccv).length : Int) > 0)), (decide (c.a < 0)), (decide (c.a > 6))] (some (.int .i64 0))) from rfl) ?_))
  simp only [List.length_map, Qau]
  refine QcN (v := 0) (by omega) ?_ (fun he => ?_) (rfl) ?_
  ·unfold Qa2
   rw [k9]
   show [c.b != 0, perN c, decide ((c.t.length : Int) > 0), decide ((c.l.length : Int) > 0)].any id = _
   exact (by decide : ∀ A B P T L : Bool, [B, P, T, L].any id = Qbj 9 A B P T L) _ _ _ _ _
  ·have hz : c.l.length = 0 := by
    unfold Qa2 at he
    rw [k9] at he
    have := (by decide : ∀ A B P T L : Bool, Qbj 9 A B P T L = false → L = false) _ _ _ _ _ he
    simpa using this
   unfold QbI
   simp only [k9]
   refine Bool.eq_iff_iff.2 ?_
   simp
   try first | omega | (rw [← List.length_eq_zero_iff]; omega)
  ·rw [k9]
   first | rfl | (unfold Qb8; rw [k9]; rfl)
 refine stF (beqF k9) ?_
 by_cases jN : c.k = 10
 ·refine stT (beqT jN) ((QlJ ..).trans (Eq.trans (show _ = Qbn (some (.int .i64 3)) [(c.b != 0), (!((c.fr == 0) && ((c.to == 0) && ((c.days == 0) && true)))), (decide (((scv c.t).length : Int) > 0)), (decide (((c.l.map ccv).length : Int) > 0))] (Qbn (some (.int .i64 2)) [(decide (((c.l.map ccv).length : Int) < 0)), (decide (((c.l.map ccv).length : Int) > 0)), (decide (c.a < 0)), (decide (c.a > 6))] (some (.int .i64 0))) from rfl) ?_))
  simp only [List.length_map, Qau]
  refine QcN (v := 0) (by omega) ?_ (fun he => ?_) (rfl) ?_
  ·unfold Qa2
   rw [jN]
   show [c.b != 0, perN c, decide ((c.t.length : Int) > 0), decide ((c.l.length : Int) > 0)].any id = _
   exact (by decide : ∀ A B P T L : Bool, [B, P, T, L].any id = Qbj 10 A B P T L) _ _ _ _ _
  ·have hz : c.l.length = 0 := by
    unfold Qa2 at he
    rw [jN] at he
    have := (by decide : ∀ A B P T L : Bool, Qbj 10 A B P T L = false → L = false) _ _ _ _ _ he
    simpa using this
   unfold QbI
   simp only [jN]
   refine Bool.eq_iff_iff.2 ?_
   simp
   try first | omega | (rw [← List.length_eq_zero_iff]; omega)
  ·rw [jN]
   first | rfl | (unfold Qb8; rw [jN]; rfl)
 refine stF (beqF jN) ?_
 by_cases wq : c.k = 11
 ·refine stT (beqT wq) ((QkV ..).trans (Eq.trans (show _ = Qbn (some (.int .i64 3)) [(c.a != 0), (c.b != 0), (!((c.fr == 0) && ((c.to == 0) && ((c.days == 0) && true)))), (decide (((c.l.map ccv).length : Int) > 0))] (Qbn (some (.int .i64 2)) [(decide (((c.l.map ccv).length : Int) < 0)), (decide (((c.l.map ccv).length : Int) > 0))] (optO (C lb n Qam [.list c.tn (scv c.t), .fn QaT]) fun r => some r)) from rfl) ?_))
  simp only [List.length_map, Qau]
  refine QcN (v := if c.t = [] then 2 else QcQ Qc9 [] c.t) (by omega) ?_ (fun he => ?_) (stO _ a11 rfl) ?_
  ·unfold Qa2
   rw [wq]
   show [c.a != 0, c.b != 0, perN c, decide ((c.l.length : Int) > 0)].any id = _
   exact (by decide : ∀ A B P T L : Bool, [A, B, P, L].any id = Qbj 11 A B P T L) _ _ _ _ _
  ·have hz : c.l.length = 0 := by
    unfold Qa2 at he
    rw [wq] at he
    have := (by decide : ∀ A B P T L : Bool, Qbj 11 A B P T L = false → L = false) _ _ _ _ _ he
    simpa using this
   unfold QbI
   simp only [wq]
   refine Bool.eq_iff_iff.2 ?_
   simp
   try first | omega | (rw [← List.length_eq_zero_iff]; omega)
  ·rw [wq]
   first | rfl | (unfold Qb8; rw [wq]; rfl)
 refine stF (beqF wq) ?_
 by_cases jY : c.k = 12
 ·refine stT (beqT jY) ((Qlc ..).trans (Eq.trans (show _ = Qbn (some (.int .i64 3)) [(!((c.fr == 0) && ((c.to == 0) && ((c.days == 0) && true)))), (decide (((scv c.t).length : Int) > 0)), (decide (((c.l.map ccv).length : Int) > 0))] (Qbn (some (.int .i64 2)) [(decide (((c.l.map ccv).length : Int) < 0)), (decide (((c.l.map ccv).length : Int) > 0)), (decide (c.a < 0)), (decide (c.a > 9999)), (decide (c.b < 0)), (decide (c.b > 9999)), (decide (c.a < 1)), (decide (c.a > c.b))] (some (.int .i64 0))) from rfl) ?_))
  simp only [List.length_map, Qau]
  refine QcN (v := 0) (by omega) ?_ (fun he => ?_) (rfl) ?_
  ·unfold Qa2
   rw [jY]
   show [perN c, decide ((c.t.length : Int) > 0), decide ((c.l.length : Int) > 0)].any id = _
   exact (by decide : ∀ A B P T L : Bool, [P, T, L].any id = Qbj 12 A B P T L) _ _ _ _ _
  ·have hz : c.l.length = 0 := by
    unfold Qa2 at he
    rw [jY] at he
    have := (by decide : ∀ A B P T L : Bool, Qbj 12 A B P T L = false → L = false) _ _ _ _ _ he
    simpa using this
   unfold QbI
   simp only [jY]
   refine Bool.eq_iff_iff.2 ?_
   simp
   try first | omega | (rw [← List.length_eq_zero_iff]; omega)
  ·rw [jY]
   first | rfl | (unfold Qb8; rw [jY]; rfl)
 refine stF (beqF jY) ?_
 by_cases k13 : c.k = 13
 ·refine stT (beqT k13) ((Qla ..).trans (Eq.trans (show _ = Qbn (some (.int .i64 3)) [(c.a != 0), (c.b != 0), (!((c.fr == 0) && ((c.to == 0) && ((c.days == 0) && true)))), (decide (((c.l.map ccv).length : Int) > 0))] (Qbn (some (.int .i64 2)) [(decide (((c.l.map ccv).length : Int) < 0)), (decide (((c.l.map ccv).length : Int) > 0))] (optO (C lb n Qam [.list c.tn (scv c.t), .fn QaS]) fun r => some r)) from rfl) ?_))
  simp only [List.length_map, Qau]
  refine QcN (v := if c.t = [] then 2 else QcQ Qdc [] c.t) (by omega) ?_ (fun he => ?_) (stO _ a13 rfl) ?_
  ·unfold Qa2
   rw [k13]
   show [c.a != 0, c.b != 0, perN c, decide ((c.l.length : Int) > 0)].any id = _
   exact (by decide : ∀ A B P T L : Bool, [A, B, P, L].any id = Qbj 13 A B P T L) _ _ _ _ _
  ·have hz : c.l.length = 0 := by
    unfold Qa2 at he
    rw [k13] at he
    have := (by decide : ∀ A B P T L : Bool, Qbj 13 A B P T L = false → L = false) _ _ _ _ _ he
    simpa using this
   unfold QbI
   simp only [k13]
   refine Bool.eq_iff_iff.2 ?_
   simp
   try first | omega | (rw [← List.length_eq_zero_iff]; omega)
  ·rw [k13]
   first | rfl | (unfold Qb8; rw [k13]; rfl)
 refine stF (beqF k13) ?_
 by_cases k14 : c.k = 14
 ·refine stT (beqT k14) ((Qll ..).trans (Eq.trans (show _ = Qbn (some (.int .i64 3)) [(c.a != 0), (c.b != 0), (!((c.fr == 0) && ((c.to == 0) && ((c.days == 0) && true)))), (decide (((c.l.map ccv).length : Int) > 0))] (Qbn (some (.int .i64 2)) [(decide (((c.l.map ccv).length : Int) < 0)), (decide (((c.l.map ccv).length : Int) > 0))] (optO (C lb n Qam [.list c.tn (scv c.t), .fn QaJ]) fun r => some r)) from rfl) ?_))
  simp only [List.length_map, Qau]
  refine QcN (v := if c.t = [] then 2 else QcQ paxB [] c.t) (by omega) ?_ (fun he => ?_) (stO _ a14 rfl) ?_
  ·unfold Qa2
   rw [k14]
   show [c.a != 0, c.b != 0, perN c, decide ((c.l.length : Int) > 0)].any id = _
   exact (by decide : ∀ A B P T L : Bool, [A, B, P, L].any id = Qbj 14 A B P T L) _ _ _ _ _
  ·have hz : c.l.length = 0 := by
    unfold Qa2 at he
    rw [k14] at he
    have := (by decide : ∀ A B P T L : Bool, Qbj 14 A B P T L = false → L = false) _ _ _ _ _ he
    simpa using this
   unfold QbI
   simp only [k14]
   refine Bool.eq_iff_iff.2 ?_
   simp
   try first | omega | (rw [← List.length_eq_zero_iff]; omega)
  ·rw [k14]
   first | rfl | (unfold Qb8; rw [k14]; rfl)
 refine stF (beqF k14) ?_
 refine (QkT ..).trans ?_
 unfold Qdl
 rw [if_pos (by omega)]
end Go.Proofs
set_option linter.unusedVariables false
set_option linter.unusedSimpArgs false
namespace Go.Proofs
open Go.Am
variable (lb : Nat)
end Go.Proofs
set_option linter.unusedVariables false
set_option linter.unusedSimpArgs false
namespace Go.Proofs
open Go.Am
variable (lb : Nat)
mutual
def parE : Cd → Int
 | .mk k ln l a b fr to days tn t => if Qdl (.mk k ln l a b fr to days tn t) ≠ 0 then Qdl (.mk k ln l a b fr to days tn t) else Qe3 l
def Qe3 : List Cd → Int
 | [] => 0
 | c :: r => if parE c ≠ 0 then parE c else Qe3 r
end
theorem QlC (c : Cd) : parE c = if Qdl c ≠ 0 then Qdl c else Qe3 c.l := by cases c; rw [parE]; rfl
def Few (c : Cd) : Prop := Fits c ∧ tsz c ≤ 128
theorem QvP : ∀ c : Cd, Few c → ∀ x ∈ c.l, Few x := fun c h x hx => by
 have h1 := Qmx hx
 have h2 := h.2
 rw [QeT] at h2
 exact ⟨Qf7 c h.1 x hx, by omega⟩
theorem QvJ {c : Cd} (h : Few c) : c.l.length ≤ 127 := by
 have h1 := QhW c.l
 have h2 := h.2
 rw [QeT] at h2
 omega
theorem Qox : ∀ c : Cd, Few c → Ret lb Qbi [cdv c] (.int .i64 (parE c)) := by
 refine Qjq lb QvP fun c hf hs => .top rfl (.eq (fun n => by rw [Qpv]) ?_)
 have hl := QvJ hf
 have e0 := Qu9 lb c hf.1 hl
 rw [QlC]
 by_cases h0 : Qdl c ≠ 0
 ·rw [if_pos h0]
  exact e0.mono fun n a => stO _ a (stO _ (Qas ..) (stT (bneT h0) rfl))
 rw [if_neg h0]
 have hh : ∀ n, (∀ x ∈ c.l, C lb n Qbi [cdv x] = some (.int .i64 (parE x))) → ∀ t p, p ++ t = c.l → ∀ k, t.length < k → ∀ r, Qe5 lb n k c.k c.ln (c.l.map ccv) c.a c.b c.fr c.to c.days c.tn (scv c.t) r (p.length : Int) = some (.int .i64 (Qe3 t)) := by
  intro n hs t
  induction t with
  | nil =>
   intro p hp k hk r
   obtain ⟨k, rfl⟩ : ∃ j, k = j + 1 := ⟨k - 1, by simp at hk; omega⟩
   have hpl : p = c.l := by simpa using hp
   rw [QgY]
   refine stF (decF (by rw [hpl, List.length_map]; omega)) ?_
   rw [Qm3, Qe3]
  | cons x t ih =>
   intro p hp k hk r
   obtain ⟨k, rfl⟩ : ∃ j, k = j + 1 := ⟨k - 1, by simp at hk; omega⟩
   have hpl : c.l.length = p.length + (t.length + 1) := by rw [← hp]; simp
   have hat := Qgx (l := c.l) (i := p.length) (x := x) (by rw [← hp]; simp)
   rw [QgY]
   refine stT (decT (by rw [List.length_map]; omega)) (stO _ hat (stC rfl (stO _ rfl (stO _ rfl (stO _ rfl (stO _ rfl (stO _ rfl (stO _ rfl (stO _ rfl (stO _ rfl (stO _ (hs x (by rw [← hp]; simp)) (stO _ (Qas ..) ?_))))))))))))
   rw [Qe3]
   by_cases hx : parE x ≠ 0
   ·rw [if_pos hx]
    exact stT (bneT hx) rfl
   ·rw [if_neg hx]
    refine stF (bneF (Classical.byContradiction hx)) ?_
    rw [Qat (by omega) (by omega), show (p.length : Int) + 1 = ((p ++ [x]).length : Int) by simp]
    exact ih (p ++ [x]) (by rw [← hp]; simp) k (by simp at hk; omega) _
 exact Evt.imp2 e0 (Evt.and hs (Evt.ge (c.l.length + 1))) fun n a ⟨b, hn⟩ => stO _ a (stO _ (Qas ..) (stF (bneF (Classical.byContradiction h0)) (hh n b c.l [] rfl n (by omega) _)))
def Qcn (c : Cd) : Int := if levC c > 8 then 4 else if sizC c > 128 then 4 else parE c
mutual
def Qbt : Cd → Cd → Bool
 | .mk k ln l a b fr to days tn t, d => (k == d.k) && ((a == d.a) && ((b == d.b) && (((fr == d.fr) && ((to == d.to) && ((days == d.days) && true))) && (decide (t = d.t) && Qa1 l d.l))))
def Qa1 : List Cd → List Cd → Bool
 | [], r => r.isEmpty
 | x :: l, r => match r with
  | [] => false
  | y :: r => Qbt x y && Qa1 l r
end
theorem Qqt (c d : Cd) : Qbt c d = ((c.k == d.k) && ((c.a == d.a) && ((c.b == d.b) && (((c.fr == d.fr) && ((c.to == d.to) && ((c.days == d.days) && true))) && (decide (c.t = d.t) && Qa1 c.l d.l))))) := by cases c; rw [Qbt]; rfl
theorem QjZ : ∀ {l r : List Cd}, Qa1 l r = true → l.length = r.length
 | [], r, h => by
  rw [Qa1] at h
  cases r with
  | nil => rfl
  | cons y r => cases h
 | x :: l, [], h => by rw [Qa1] at h; cases h
 | x :: l, y :: r, h => by
  rw [Qa1, Bool.and_eq_true] at h
  simp [QjZ h.2]
def Mod (c : Cd) : Prop := Fits c ∧ lgC c = false
theorem Qwb : ∀ c : Cd, Mod c → ∀ x ∈ c.l, Mod x := fun c h x hx => ⟨Qf7 c h.1 x hx, QtG h.2 x hx⟩
theorem Qxj {c : Cd} (h : Mod c) : c.t.length ≤ 400 := by
 have h1 := QtN h.2
 have h2 := Qtq (c.t.take 200)
 unfold QeL at h2
 unfold QkH at h1
 omega
theorem Qxa {c : Cd} (h : Mod c) : c.l.length ≤ 300 := by
 have h1 := (Qj3 c h.1 h.2).2
 have h2 := QhW c.l
 rw [QeT] at h1
 omega
theorem QpU (an bn : Bool) (a b : List Bs) (ha : a.length ≤ 1000000000) : Ret lb QaI [.list an (scv a), .list bn (scv b)] (.bool (decide (a = b))) := by
 refine .top rfl (.eq (fun n => by rw [QiS]) ?_)
 by_cases h' : a.length ≠ b.length
 ·have hne : ¬ a = b := fun e => h' (by rw [e])
  rw [decF hne]
  exact .all fun n => stT (bneT (by rw [Qau, Qau]; omega)) rfl
 have h := Classical.byContradiction h'
 have hh : ∀ n t u p q, p ++ t = a → q ++ u = b → p.length = q.length → ∀ k, t.length < k → Qcx lb n k an (scv a) bn (scv b) (p.length : Int) = some (.bool (decide (t = u))) := by
  intro n t
  induction t with
  | nil =>
   intro u p q hp hq hpq k hk
   obtain ⟨k, rfl⟩ : ∃ j, k = j + 1 := ⟨k - 1, by simp at hk; omega⟩
   have hpl : p = a := by simpa using hp
   have hu : u = [] := by
    have : b.length = q.length + u.length := by rw [← hq]; simp
    rw [hpl] at hpq
    exact List.length_eq_zero_iff.1 (by omega)
   subst hu
   rw [QdM]
   refine stF (decF (by rw [hpl, Qau]; omega)) ?_
   rw [Qhi]
   rfl
  | cons x t ih =>
   intro u p q hp hq hpq k hk
   obtain ⟨k, rfl⟩ : ∃ j, k = j + 1 := ⟨k - 1, by simp at hk; omega⟩
   have hpl : a.length = p.length + (t.length + 1) := by rw [← hp]; simp
   have hql : b.length = q.length + u.length := by rw [← hq]; simp
   cases u with
   | nil => simp at hql; omega
   | cons y u =>
    have hat := Qi4 (t := a) (i := p.length) (s := x) (by rw [← hp]; simp)
    have hbt := Qi4 (t := b) (i := p.length) (s := y) (by rw [← hq, hpq]; simp)
    rw [QdM]
    refine stT (decT (by rw [Qau]; omega)) (stO _ hat (stC rfl (stO _ rfl (stO _ hbt (stC rfl (stO _ rfl (stO _ rfl (stO _ rfl ?_))))))))
    by_cases hxy : x = y
    ·refine stF (by simp [hxy]) ?_
     rw [Qat (by omega) (by omega), show (p.length : Int) + 1 = ((p ++ [x]).length : Int) by simp]
     rw [ih u (p ++ [x]) (q ++ [y]) (by rw [← hp]; simp) (by rw [← hq]; simp) (by simp [hpq]) k (by simp at hk; omega)]
     rw [show decide (x :: t = y :: u) = decide (t = u) from decide_eq_decide.2 (by simp [hxy])]
    ·exact stT (by simp [hxy]) (by rw [decF (by simp [hxy])])
 exact (Evt.ge (a.length + 1)).mono fun n hn => stF (bneF (by rw [Qau, Qau]; omega)) (hh n a b [] [] rfl rfl rfl n (by omega))
theorem Qoa (an bn : Bool) (a b : List Cd) (ha : a.length ≤ 1000000000) (hs : Evt fun n => ∀ x ∈ a, ∀ y ∈ b, C lb n QbL [cdv x, cdv y] = some (.bool (Qbt x y))) :
  Ret lb Qag [.list an (a.map ccv), .list bn (b.map ccv), .fn QbL] (.bool (Qa1 a b)) := by
 refine .top rfl (.eq (fun n => by rw [Qct]) ?_)
 by_cases h' : a.length ≠ b.length
 ·have : Qa1 a b = false := eq_false_of_ne_true fun e => h' (QjZ e)
  rw [this]
  exact .all fun n => stT (bneT (by rw [List.length_map, List.length_map]; omega)) rfl
 have h := Classical.byContradiction h'
 have hh : ∀ n, (∀ x ∈ a, ∀ y ∈ b, C lb n QbL [cdv x, cdv y] = some (.bool (Qbt x y))) → ∀ t u p q, p ++ t = a → q ++ u = b → p.length = q.length → ∀ k, t.length < k → QaF lb n k an (a.map ccv) bn (b.map ccv) (p.length : Int) = some (.bool (Qa1 t u)) := by
  intro n hs t
  induction t with
  | nil =>
   intro u p q hp hq hpq k hk
   obtain ⟨k, rfl⟩ : ∃ j, k = j + 1 := ⟨k - 1, by simp at hk; omega⟩
   have hpl : p = a := by simpa using hp
   have hu : u = [] := by
    have : b.length = q.length + u.length := by rw [← hq]; simp
    rw [hpl] at hpq
    exact List.length_eq_zero_iff.1 (by omega)
   subst hu
   rw [Qbc]
   refine stF (decF (by rw [hpl, List.length_map]; omega)) ?_
   rw [Qcg, Qa1]
   rfl
  | cons x t ih =>
   intro u p q hp hq hpq k hk
   obtain ⟨k, rfl⟩ : ∃ j, k = j + 1 := ⟨k - 1, by simp at hk; omega⟩
   have hpl : a.length = p.length + (t.length + 1) := by rw [← hp]; simp
   have hql : b.length = q.length + u.length := by rw [← hq]; simp
   cases u with
   | nil => simp at hql; omega
   | cons y u =>
    have hat := Qgx (l := a) (i := p.length) (x := x) (by rw [← hp]; simp)
    have hbt := Qgx (l := b) (i := p.length) (x := y) (by rw [← hq, hpq]; simp)
    rw [Qbc]
    refine stT (decT (by rw [List.length_map]; omega)) (stO _ hat (stC rfl (stO _ rfl (stO _ rfl (stO _ rfl (stO _ rfl (stO _ rfl (stO _ rfl (stO _ rfl (stO _ rfl (stO _ hbt (stC rfl (stO _ rfl (stO _ rfl (stO _ rfl (stO _ rfl (stO _ rfl (stO _ rfl (stO _ rfl (stO _ rfl (stO _ (hs x (by rw [← hp]; simp) y (by rw [← hq]; simp)) (stO _ rfl ?_))))))))))))))))))))))
    rw [Qa1]
    cases hxy : Qbt x y with
    | false => exact stT rfl rfl
    | true =>
     refine stF rfl ?_
     rw [Qat (by omega) (by omega), show (p.length : Int) + 1 = ((p ++ [x]).length : Int) by simp]
     exact ih u (p ++ [x]) (q ++ [y]) (by rw [← hp]; simp) (by rw [← hq]; simp) (by simp [hpq]) k (by simp at hk; omega)
 exact Evt.imp2 hs (Evt.ge (a.length + 1)) fun n y hn => stF (bneF (by rw [List.length_map, List.length_map]; omega)) (hh n y a b [] [] rfl rfl rfl n (by omega))
end Go.Proofs
set_option linter.unusedVariables false
set_option linter.unusedSimpArgs false
namespace Go.Proofs
open Go.Am
variable (lb : Nat)
end Go.Proofs
set_option linter.unusedVariables false
set_option linter.unusedSimpArgs false
namespace Go.Proofs
open Go.Am
variable (lb : Nat)
theorem QrZ : ∀ {l : List Cd}, Qe3 l = 0 → ∀ x ∈ l, parE x = 0
 | [], _, x, hx => by cases hx
 | c :: r, h, x, hx => by
  rw [Qe3] at h
  split at h
  ·rename_i q; exact absurd h q
  ·rename_i q
   rcases List.mem_cons.1 hx with rfl | hx
   ·exact Classical.byContradiction q
   ·exact QrZ h x hx
theorem Qdt {c : Cd} (h : parE c = 0) : Qdl c = 0 ∧ ∀ x ∈ c.l, parE x = 0 := by
 rw [QlC] at h
 split at h
 ·rename_i q; exact absurd h q
 ·rename_i q
  exact ⟨Classical.byContradiction q, QrZ h⟩
theorem Qfq {c : Cd} (h : Qdl c = 0) : 1 ≤ c.k ∧ c.k ≤ 14 ∧ Qa2 c = false ∧ QbI c = false := by
 unfold Qdl at h
 split at h
 ·cases h
 split at h
 ·cases h
 split at h
 ·cases h
 ·rename_i h1 h2 h3
  exact ⟨by omega, by omega, by simpa using h2, by simpa using h3⟩
end Go.Proofs
