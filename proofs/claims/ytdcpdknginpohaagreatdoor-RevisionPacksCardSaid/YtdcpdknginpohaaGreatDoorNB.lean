/- Chapter 10 on plain data: the stable sort of a few flights by their first days (printed by mkns.py). Conditions: as each says. -/
import Derived.Test.YtdcpdknginpohaaGreatDoorVs
import Derived.Test.YtdcpdknginpohaaGreatDoorKB
import Derived.Test.YtdcpdknginpohaaGreatDoorNA
import Derived.Test.YtdcpdknginpohaaGreatDoorNh
import Derived.Test.YtdcpdknginpohaaGreatDoorKC
import Derived.Test.YtdcpdknginpohaaGreatDoorVd
import Derived.Test.YtdcpdknginpohaaGreatDoorW10
set_option linter.unusedSimpArgs false
set_option linter.unusedVariables false
set_option maxRecDepth 100000
namespace Go.Proofs
open Go.Am
variable (lb : Nat)
def flE (f : Fl) : List CV := [.str f.car, .int .i64 f.num, .int .i64 f.fr, .int .i64 f.to, .int .i64 f.days, .list f.ln (f.legs.map lgcv)]
end Go.Proofs
set_option linter.unusedSimpArgs false
set_option linter.unusedVariables false
namespace Go.Proofs
open Go.Am
variable (lb : Nat)
def Qbe (f : Fl) (x : P3) : Fl := { f with fr := x.1, to := x.2.1, days := x.2.2 }
def wF (f : Fl) (r : Rv) : List P3 := QuI f.fr f.to f.days r.fr r.to r.days
def Qwi (f : Fl) (r : Rv) : List Fl := (wF f r).map (Qbe f)
end Go.Proofs
set_option linter.unusedSimpArgs false
set_option linter.unusedVariables false
set_option maxRecDepth 100000
namespace Go.Proofs
open Go.Am
variable (lb : Nat)
end Go.Proofs
set_option linter.unusedSimpArgs false
set_option linter.unusedVariables false
namespace Go.Proofs
open Go.Am
variable (lb : Nat)
structure OkF (f : Fl) : Prop where
 ln : f.ln = false
 ne : f.legs ≠ []
 len : f.legs.length ≤ 100
 car : f.car.length ≤ 281474976710656
 eq : ∀ x ∈ f.legs, x.eq.length ≤ 281474976710656
def qOf (f : Fl) (r : Rv) : P3 := (Qu2 f r).getD (0, 0, 0)
theorem Qdv {l u t : List Fl} {f : Fl} (h : u ++ f :: t = l) : (l.map flE)[u.length]? = some (flE f) := by rw [← h]; simp
end Go.Proofs
set_option linter.unusedSimpArgs false
set_option linter.unusedVariables false
namespace Go.Proofs
open Go.Am
variable (lb : Nat)
def QpM (g : Fl) : Prop := g.car.length ≤ 281474976710656 ∧ ∀ x ∈ g.legs, x.eq.length ≤ 281474976710656
end Go.Proofs
set_option linter.unusedSimpArgs false
set_option linter.unusedVariables false
namespace Go.Proofs
open Go.Am
end Go.Proofs
set_option linter.unusedSimpArgs false
set_option linter.unusedVariables false
namespace Go.Proofs
open Go.Am
variable (lb : Nat)
def Qvf : Bs := [102, 108, 105, 103, 104, 116, 32]
def atS (i : Nat) : Bs := Qvf ++ Lib.itoa (i : Int)
def ownE (i : Nat) (e : Ft) : Ft := (e.1, (atS i ++ [32]) ++ e.2)
def ft8 (p : Pc) (i : Nat) (tw : Bool) (f : Fl) : List Ft := (QaL p f).map (ownE i) ++ if tw then [(6, atS i)] else []
def Qdu (p : Pc) : List Fl → List Fl → List Ft
 | _, [] => []
 | q, f :: t => ft8 p q.length (q.any (Qb1 · f)) f ++ Qdu p (q ++ [f]) t
theorem Qov {f : Fl} {e : Ft} (h : e ∈ QdO f) : e.2.length ≤ 100 := by
 unfold QdO at h
 simp only [List.mem_append] at h
 rcases h with (h | h) | h
 ·split at h
  ·simp at h
  ·simp at h; rw [h]; decide
 ·split at h
  ·simp at h
  ·simp at h; rw [h]; decide
 ·split at h
  ·simp at h; rw [h]; show wPeriod.length ≤ 100; decide
  ·simp at h
theorem QmE {p : Pc} {e : Ft} : ∀ (t q : List Lg), q.length + t.length ≤ 1000 → e ∈ Qa8 p q t → e.2.length ≤ 100
 | [], q, _, h => by simp [Qa8] at h
 | x :: t, q, hq, h => by
  unfold Qa8 at h
  rcases List.mem_append.1 h with h | h
  ·obtain ⟨z, hz, rfl⟩ := List.mem_map.1 h
   have := QdS (z := (q.length : Int)) (by omega) (by simp at hq; omega)
   have : wLeg.length = 4 := rfl
   simp; omega
  ·exact QmE t _ (by simp at hq ⊢; omega) h
theorem QoR {p : Pc} {l : List Lg} {e : Ft} : ∀ (r : List Int), e ∈ QcV p l r → e.2.length ≤ 100
 | [], h => by simp [QcV] at h
 | d :: r, h => by
  unfold QcV at h
  split at h
  ·exact QoR r h
  ·simp at h; rw [h]
   have : wDay.length = 4 := rfl
   have := QoE d
   simp; omega
theorem QsN {p : Pc} {f : Fl} {e : Ft} (h : e ∈ QaL p f) : e.2.length ≤ 100 := by
 unfold QaL at h
 split at h
 ·unfold QfT at h
  rcases List.mem_append.1 h with h | h
  ·exact Qov h
  ·split at h
   ·simp at h; rw [h]; decide
   ·simp at h
 ·split at h
  ·exact QoR _ h
  ·rcases List.mem_append.1 h with h | h
   ·exact Qov h
   ·exact QmE _ _ (by simp; omega) h
theorem QoP (p : Pc) (l : List Lg) : ∀ (D : List Int), (QcV p l D).length ≤ 1
 | [] => by simp [QcV]
 | d :: D => by
  have := QoP p l D
  unfold QcV; split <;> simp [this]
theorem Qjl (p : Pc) (f : Fl) : (QaL p f).length ≤ 50 := by
 unfold QaL
 have hg := Qj5 f
 split
 ·unfold QfT; rw [List.length_append]
  have : (if (decide ((f.legs.length : Int) < 1) || decide ((f.legs.length : Int) > 6)) then [(4, QsK)] else [] : List Ft).length ≤ 1 := by split <;> simp
  omega
 ·split
  ·have := QoP p f.legs (Qan f.fr f.to f.days); omega
  ·rw [List.length_append]; have := Qjw p f.legs []; omega
theorem Qvb (p : Pc) (i : Nat) (tw : Bool) (f : Fl) : (ft8 p i tw f).length ≤ 51 := by
 have := Qjl p f
 unfold ft8
 cases tw <;> simp <;> omega
theorem QuY (n k0 : Nat) (p : Pc) (bn : Bool) (L : List (List CV)) (i : Nat) (hi : i ≤ 1000) (f : Fl) (jX : CV) (H : List Ft) (hH : H.length ≤ 900000) : ∀ (t u : List Ft) (k : Nat), u ++ t = QaL p f → t.length < k →
  Qfi lb n k k0 p.an (p.aps.map apcv) p.dn (p.dis.map dicv) bn L (i : Int) (Lib.itoa (i : Int)) (QcN (QaL p f)) jX (flE f) (.str f.car) (.int .i64 f.num) (.int .i64 f.fr) (.int .i64 f.to) (.int .i64 f.days) (.list f.ln (f.legs.map lgcv)) (H ++ u.map (ownE i)).isEmpty ((H ++ u.map (ownE i)).map Qa0) (u.length : Int) =
   QgZ lb n k0 p.an (p.aps.map apcv) p.dn (p.dis.map dicv) bn L (i : Int) (Lib.itoa (i : Int)) (QcN (QaL p f)) jX (flE f) (.str f.car) (.int .i64 f.num) (.int .i64 f.fr) (.int .i64 f.to) (.int .i64 f.days) (.list f.ln (f.legs.map lgcv)) (H ++ (QaL p f).map (ownE i)).isEmpty ((H ++ (QaL p f).map (ownE i)).map Qa0) ((QaL p f).length : Int)
 | [], u, k, h, hk => by
  obtain ⟨k, rfl⟩ : ∃ m, k = m + 1 := ⟨k - 1, by simp at hk; omega⟩
  have hu : u = QaL p f := by simpa using h
  rw [QgC, hu]
  exact stO _ rfl (stF (decF (by simp)) rfl)
 | e :: t, u, k, h, hk => by
  obtain ⟨k, rfl⟩ : ∃ m, k = m + 1 := ⟨k - 1, by simp at hk; omega⟩
  have hc := Qjl p f
  have hl : (QaL p f).length = u.length + (t.length + 1) := by rw [← h]; simp
  have hs := QsN (p := p) (f := f) (e := e) (by rw [← h]; simp)
  have hit := QdS (z := (i : Int)) (by omega) (by omega)
  have hw1 : IntKind.wrap .i64 ((u.length : Int) + 1) = ((u ++ [e]).length : Int) := by rw [Qaz (by omega) (by omega)]; simp
  have hg : ((QaL p f).map Qa0)[u.length]? = some (Qa0 e) := by rw [← h]; simp
  have ih := QuY n k0 p bn L i hi f jX H hH t (u ++ [e]) k (by rw [← h]; simp) (by simp at hk; omega)
  have e2 : H ++ (u ++ [e]).map (ownE i) = (H ++ u.map (ownE i)) ++ [ownE i e] := by simp
  rw [e2, List.map_append (l₁ := H ++ u.map (ownE i)) (l₂ := [ownE i e]), ← QcF (H ++ u.map (ownE i)) (ownE i e) (H ++ u.map (ownE i)).isEmpty] at ih
  rw [QgC, hw1]
  refine stO _ rfl (stT (decT (by simp; omega)) (stO _ rfl (stO _ (QaI hg) (stC rfl (stO _ rfl (stC (decT (by simp; omega)) (stO _ rfl (stO _ (QaI hg) (stC rfl (stO _ rfl (stO _ rfl (stC (decT (by simp; omega)) (stC rfl (stC (Qb9 (by simp; omega) (by omega)) ih))))))))))))))
theorem Qu5 (p : Pc) (bn : Bool) (l : List Fl) (q : List Fl) (f : Fl) (t0 : List Fl) (hq : q ++ f :: t0 = l) (hql : q.length ≤ 1000) (b : Bool) (H : List (List CV)) (s140 : Bs) (jE jX : CV) (wo : Int) (c141 : List CV) (x1 x2 x3 x4 x5 x6 : CV) : ∀ (t u : List Fl), u ++ t = q → Evt fun n => ∀ k k0, t.length < k →
  QdZ lb n k k0 p.an (p.aps.map apcv) p.dn (p.dis.map dicv) bn (l.map flE) b H (q.length : Int) s140 jE wo jX c141 x1 x2 x3 x4 x5 x6 (.bool (u.any (Qb1 · f))) (u.length : Int) =
   Qht lb n k0 p.an (p.aps.map apcv) p.dn (p.dis.map dicv) bn (l.map flE) b H (q.length : Int) s140 jE wo jX c141 x1 x2 x3 x4 x5 x6 (.bool (q.any (Qb1 · f))) (q.length : Int)
 | [], u, h => by
  refine .all fun n k k0 hk => ?_
  obtain ⟨k, rfl⟩ : ∃ m, k = m + 1 := ⟨k - 1, by simp at hk; omega⟩
  have hu : u = q := by simpa using h
  rw [QgE, hu]
  exact stF (decF (by simp)) rfl
 | x :: t, u, h => by
  have hl : q.length = u.length + (t.length + 1) := by rw [← h]; simp
  have hw1 : IntKind.wrap .i64 ((u.length : Int) + 1) = ((u ++ [x]).length : Int) := by rw [Qaz (by omega) (by omega)]; simp
  have hx : (l.map flE)[u.length]? = some (flE x) := by rw [← hq, ← h]; simp
  refine Evt.imp2 (Qpq lb x f) (Qu5 p bn l q f t0 hq hql b H s140 jE jX wo c141 x1 x2 x3 x4 x5 x6 t (u ++ [x]) (by rw [← h]; simp)) fun n hm hi k k0 hk => ?_
  obtain ⟨k, rfl⟩ : ∃ m, k = m + 1 := ⟨k - 1, by simp at hk; omega⟩
  have hi := hi k k0 (by simp at hk; omega)
  rw [QgE, hw1]
  refine stT (decT (by omega)) (stO _ (QaH _) ?_)
  cases ha : u.any (Qb1 · f) with
  | true =>
   have e : (u ++ [x]).any (Qb1 · f) = true := by rw [List.any_append, ha]; rfl
   rw [e] at hi
   exact stT rfl hi
  | false =>
   have e : (u ++ [x]).any (Qb1 · f) = Qb1 x f := by rw [List.any_append, ha]; simp
   rw [e] at hi
   exact stF rfl (stO _ (QaI hx) (stC rfl (stO _ rfl (stO _ rfl (stO _ rfl (stO _ rfl (stO _ rfl (stO _ rfl (stO _ (QaI (Qdv hq)) (stC rfl (stO _ rfl (stO _ rfl (stO _ rfl (stO _ rfl (stO _ rfl (stO _ rfl (stO _ hm hi)))))))))))))))))
theorem QuV (p : Pc) (hp : Qd1 p) (bn : Bool) (l : List Fl) (hl : ∀ f ∈ l, QpM f) (hll : l.length ≤ 1000) : ∀ (t q : List Fl) (H : List Ft), q ++ t = l → H.length ≤ 51 * q.length → Evt fun n => ∀ k, t.length < k →
  Qfe lb n k p.an (p.aps.map apcv) p.dn (p.dis.map dicv) bn (l.map flE) H.isEmpty (H.map Qa0) (q.length : Int) = some (QcN (H ++ Qdu p q t))
 | [], q, H, h, hH => by
  refine .all fun n k hk => ?_
  obtain ⟨k, rfl⟩ : ∃ m, k = m + 1 := ⟨k - 1, by simp at hk; omega⟩
  have hu : q = l := by simpa using h
  rw [Qgw, hu]
  refine stF (decF (by simp)) ?_
  rw [Qm1]
  simp [Qdu, QcN]
 | f :: t, q, H, h, hH => by
  have hlen : l.length = q.length + (t.length + 1) := by rw [← h]; simp
  have hw1 : IntKind.wrap .i64 ((q.length : Int) + 1) = ((q ++ [f]).length : Int) := by rw [Qaz (by omega) (by omega)]; simp
  obtain ⟨g1, g2⟩ := hl f (by rw [← h]; simp)
  have hf8 := Qvb p q.length (q.any (Qb1 · f)) f
  have hc := Qjl p f
  have hit := QdS (z := (q.length : Int)) (by omega) (by omega)
  have q4 := Qu5 lb p bn l q f t h (by omega) (H ++ (QaL p f).map (ownE q.length)).isEmpty ((H ++ (QaL p f).map (ownE q.length)).map Qa0) (Lib.itoa (q.length : Int)) (QcN (QaL p f)) (.str (Lib.itoa (q.length : Int))) ((QaL p f).length : Int) (flE f) (.str f.car) (.int .i64 f.num) (.int .i64 f.fr) (.int .i64 f.to) (.int .i64 f.days) (.list f.ln (f.legs.map lgcv)) q [] rfl
  refine Evt.imp2 ((QdL lb (q.length : Int) (by omega) (by omega)).and ((Qo9 lb p hp f (by omega) (fun x hx => by have := g2 x hx; omega)).and (Evt.ge 1100))) (Evt.and q4 (QuV p hp bn l hl hll t (q ++ [f]) (H ++ ft8 p q.length (q.any (Qb1 · f)) f) (by rw [← h]; simp) (by simp; omega))) fun n ⟨a1, a2, a3⟩ ⟨a4, hi⟩ k hk => ?_
  obtain ⟨k, rfl⟩ : ∃ m, k = m + 1 := ⟨k - 1, by simp at hk; omega⟩
  have hi := hi k (by simp at hk; omega)
  have a4 := a4 n k (by omega)
  have z := QuY lb n k p bn (l.map flE) q.length (by omega) f (.str (Lib.itoa (q.length : Int))) H (by omega) (QaL p f) [] n rfl (by omega)
  rw [List.map_nil, List.append_nil] at z
  rw [Qgw]
  refine stT (decT (by simp; omega)) (stO _ a1 (stO _ rfl (stC (decT (by simp; omega)) (stO _ (QaI (Qdv h)) (stC rfl (stO _ rfl (stO _ rfl (stO _ rfl (stO _ rfl (stO _ rfl (stO _ rfl (stO _ a2 (z.trans ?_)))))))))))))
  rw [QmN]
  refine a4.trans ?_
  rw [Qnn]
  refine stO _ (QaH _) ?_
  have e9 : Qdu p q (f :: t) = ft8 p q.length (q.any (Qb1 · f)) f ++ Qdu p (q ++ [f]) t := rfl
  rw [e9, ← List.append_assoc]
  cases ha : q.any (Qb1 · f) with
  | true =>
   rw [ha] at hi
   have e : H ++ ft8 p q.length true f = (H ++ (QaL p f).map (ownE q.length)) ++ [(6, atS q.length)] := by simp [ft8]
   rw [e] at hi ⊢
   rw [List.map_append (l₁ := H ++ (QaL p f).map (ownE q.length)) (l₂ := [(6, atS q.length)]), ← QcF (H ++ (QaL p f).map (ownE q.length)) (6, atS q.length) (H ++ (QaL p f).map (ownE q.length)).isEmpty] at hi
   refine stT rfl (stC (Qb9 (by simp; omega) (by omega)) ?_)
   rw [QhM, hw1]
   exact hi
  | false =>
   rw [ha] at hi
   have e : H ++ ft8 p q.length false f = H ++ (QaL p f).map (ownE q.length) := by simp [ft8]
   rw [e] at hi ⊢
   refine stF rfl ?_
   rw [QhM, hw1]
   exact hi
theorem QjF (p : Pc) (hp : Qd1 p) (bn : Bool) (l : List Fl) (hl : ∀ f ∈ l, QpM f) (hll : l.length ≤ 1000) : Ret lb Qaa [pcv p, .list bn (l.map flE)] (QcN (Qdu p [] l)) := by
 refine .top rfl ((Evt.diag (QuV lb p hp bn l hl hll l [] [] rfl (by simp))).mono fun n h => ?_)
 rw [Qp0]
 exact h
theorem Qo4 {p : Pc} : ∀ {t q : List Fl}, Qdu p q t = [] → (∀ f ∈ t, QaL p f = []) 
 | [], q, _ => by simp
 | f :: t, q, h => by
  unfold Qdu at h
  obtain ⟨h1, h2⟩ := List.append_eq_nil_iff.1 h
  intro g hg
  rcases List.mem_cons.1 hg with rfl | hg
  ·unfold ft8 at h1
   obtain ⟨h3, _⟩ := List.append_eq_nil_iff.1 h1
   exact List.map_eq_nil_iff.1 h3
  ·exact Qo4 h2 g hg
end Go.Proofs
set_option linter.unusedSimpArgs false
set_option linter.unusedVariables false
namespace Go.Proofs
open Go.Am
variable (lb : Nat)
def ArgL (l : List Fl) : Prop := l.length ≤ 281474976710656 ∧ ∀ f ∈ l, ArgF f ∧ (f.ln = true → f.legs = [])
def ArgR (r : Rv) : Prop := r.car.length ≤ 281474976710656 ∧ r.legs.length ≤ 281474976710656 ∧ (∀ x ∈ r.legs, Qcj x ≤ 1000000000000000) ∧ (r.ln = true → r.legs = [])
def Qhs (p : Pc) (l : List Fl) : Bool := decide (l.length > 12) || (decide (p.aps.length > 20) || (decide (p.dis.length > 40) || l.any (bigB p)))
theorem Qtg (p : Pc) (hp : ArgP p) (bn : Bool) (l : List Fl) (hl : ∀ f ∈ l, ArgF f) (hll : l.length ≤ 1000) : ∀ (t u : List Fl), u ++ t = l → Evt fun n => ∀ k, t.length < k →
  r10_Big_L1 lb n k p.an (p.aps.map apcv) p.dn (p.dis.map dicv) bn (l.map flE) (u.length : Int) = some (.bool (t.any (bigB p)))
 | [], u, h => by
  refine .all fun n k hk => ?_
  obtain ⟨k, rfl⟩ : ∃ m, k = m + 1 := ⟨k - 1, by simp at hk; omega⟩
  have hu : u = l := by simpa using h
  rw [QhJ, hu]
  refine stF (decF (by simp)) ?_
  rw [Qpe]
  rfl
 | f :: t, u, h => by
  have hlen : l.length = u.length + (t.length + 1) := by rw [← h]; simp
  have hw1 : IntKind.wrap .i64 ((u.length : Int) + 1) = ((u ++ [f]).length : Int) := by rw [Qaz (by omega) (by omega)]; simp
  refine Evt.imp2 (Qvo lb p f hp (hl f (by rw [← h]; simp))) (Qtg p hp bn l hl hll t (u ++ [f]) (by rw [← h]; simp)) fun n hm hi k hk => ?_
  obtain ⟨k, rfl⟩ : ∃ m, k = m + 1 := ⟨k - 1, by simp at hk; omega⟩
  have hi := hi k (by simp at hk; omega)
  rw [QhJ, hw1]
  refine stT (decT (by simp; omega)) (stO _ (QaI (Qdv h)) (stC rfl (stO _ rfl (stO _ rfl (stO _ rfl (stO _ rfl (stO _ rfl (stO _ rfl (stO _ hm (stO _ (QaH _) ?_))))))))))
  rw [List.any_cons]
  cases bigB p f with
  | true => exact stT rfl rfl
  | false => exact stF rfl (by simpa using hi)
theorem Qf3 (p : Pc) (hp : ArgP p) (bn : Bool) (l : List Fl) (hl : ArgL l) : Ret lb QbU [pcv p, .list bn (l.map flE)] (.bool (Qhs p l)) := by
 unfold Qhs
 by_cases h1 : l.length > 12
 ·refine .top rfl (.all fun n => ?_)
  rw [QgP, decT h1]
  exact stT (decT (by simp; omega)) rfl
 ·by_cases h2 : p.aps.length > 20
  ·refine .top rfl (.all fun n => ?_)
   rw [QgP, decF h1, decT h2]
   exact stF (decF (by simp; omega)) (stT (decT (by simp; omega)) rfl)
  ·by_cases h3 : p.dis.length > 40
   ·refine .top rfl (.all fun n => ?_)
    rw [QgP, decF h1, decF h2, decT h3]
    exact stF (decF (by simp; omega)) (stF (decF (by simp; omega)) (stT (decT (by simp; omega)) rfl))
   ·refine .top rfl ((Evt.diag (Qtg lb p hp bn l (fun f hf => (hl.2 f hf).1) (by omega) l [] rfl)).mono fun n h => ?_)
    rw [QgP, decF h1, decF h2, decF h3]
    exact stF (decF (by simp; omega)) (stF (decF (by simp; omega)) (stF (decF (by simp; omega)) h))
def QiO (p : Pc) (l : List Fl) : Bool := !Qhs p l && ((QfG p).isEmpty && (Qdu p [] l).isEmpty)
theorem Qhy {p : Pc} {l : List Fl} (h : Qhs p l = false) : l.length ≤ 12 ∧ p.aps.length ≤ 20 ∧ p.dis.length ≤ 40 ∧ ∀ f ∈ l, bigB p f = false := by
 unfold Qhs at h
 simp only [Bool.or_eq_false_iff, decide_eq_false_iff_not] at h
 obtain ⟨h1, h2, h3, h4⟩ := h
 refine ⟨by omega, by omega, by omega, fun f hf => ?_⟩
 have := List.any_eq_false.1 h4 f hf
 simpa using this
theorem Qsh (F : List Ft) : (((F.map Qa0).length : Int) == 0) = F.isEmpty := by cases F with
 | nil => rfl
 | cons e F => exact beqF (by simp; omega)
theorem Qps (p : Pc) (hp : ArgP p) (bn : Bool) (l : List Fl) (hl : ArgL l) : Ret lb Qig [pcv p, .list bn (l.map flE)] (.bool (QiO p l)) := by
 unfold QiO
 cases hB : Qhs p l with
 | true =>
  refine .top rfl ((Qf3 lb p hp bn l hl).mono fun n h => ?_)
  rw [Qhv]
  exact stO _ h (stO _ rfl (stF (by rw [hB]; rfl) rfl))
 | false =>
  obtain ⟨b1, b2, b3, b4⟩ := Qhy hB
  have hP := Qpw lb p (by omega) (by omega) hp.2.2
  cases hF : (QfG p).isEmpty with
  | false =>
   refine .top rfl (Evt.imp2 (Qf3 lb p hp bn l hl) hP fun n h h2 => ?_)
   rw [Qhv]
   exact stO _ h (stO _ rfl (stT (by rw [hB]; rfl) (stO _ h2 (stO _ rfl (stF (by rw [Qsh, hF]) rfl)))))
  | true =>
   have hS := Qi4 (p := p) (by omega) (by simpa using hF)
   have h8 := QjF lb p hS bn l (fun f hf => by
    obtain ⟨c1, c2, _⟩ := Qjh (b4 f hf)
    exact ⟨by omega, fun x hx => by have := (c2 x hx).2.2; omega⟩) (by omega)
   refine .top rfl (Evt.imp2 (Qf3 lb p hp bn l hl) (Evt.and hP h8) fun n h ⟨h2, h3⟩ => ?_)
   rw [Qhv]
   refine stO _ h (stO _ rfl (stT (by rw [hB]; rfl) (stO _ h2 (stO _ rfl (stT (by rw [Qsh, hF]) (stO _ h3 (stO _ rfl ?_)))))))
   rw [Qsh]; rfl
theorem QuH {p : Pc} {l : List Fl} (hl : ArgL l) (h : QiO p l = true) : Qd1 p ∧ (∀ f ∈ l, OkF f) ∧ l.length ≤ 12 ∧ ∀ f ∈ l, QaL p f = [] := by
 unfold QiO at h
 simp only [Bool.and_eq_true, Bool.not_eq_true', List.isEmpty_iff] at h
 obtain ⟨h1, h2, h3⟩ := h
 obtain ⟨b1, b2, b3, b4⟩ := Qhy h1
 have hc := Qo4 h3
 refine ⟨Qi4 (p := p) (by omega) h2, fun f hf => ?_, b1, hc⟩
 obtain ⟨c1, c2, c3, _⟩ := Qjh (b4 f hf)
 obtain ⟨k1, k2, _⟩ := QgL (hc f hf)
 have hne : f.legs ≠ [] := fun e => by rw [e] at k2; simp at k2
 exact ⟨by cases hb : f.ln with | false => rfl | true => exact absurd ((hl.2 f hf).2 hb) hne, hne, by omega, by omega, fun x hx => by have := (c2 x hx).2.2; omega⟩
theorem QtR (a b : Bool) (l : List Fl) (hl : ∀ f ∈ l, f.legs.length ≤ 1000) (hll : l.length ≤ 1000000) : ∀ (t u : List Fl), u ++ t = l → Evt fun n => ∀ k, t.length < k →
  Qec lb n k a (l.map flE) b (l.map flE) (u.length : Int) = some (.bool true)
 | [], u, h => by
  refine .all fun n k hk => ?_
  obtain ⟨k, rfl⟩ : ∃ m, k = m + 1 := ⟨k - 1, by simp at hk; omega⟩
  have hu : u = l := by simpa using h
  rw [Qfy, hu]
  refine stF (decF (by simp)) ?_
  rw [Qll]
 | f :: t, u, h => by
  have hlen : l.length = u.length + (t.length + 1) := by rw [← h]; simp
  have hw1 : IntKind.wrap .i64 ((u.length : Int) + 1) = ((u ++ [f]).length : Int) := by rw [Qaz (by omega) (by omega)]; simp
  have hf := hl f (by rw [← h]; simp)
  refine Evt.imp2 (Qqj lb f f hf hf) (QtR a b l hl hll t (u ++ [f]) (by rw [← h]; simp)) fun n hm hi k hk => ?_
  obtain ⟨k, rfl⟩ : ∃ m, k = m + 1 := ⟨k - 1, by simp at hk; omega⟩
  have hi := hi k (by simp at hk; omega)
  have hs : QhK f f = true := by simp [QhK, QkG]
  rw [hs] at hm
  rw [Qfy, hw1]
  exact stT (decT (by simp; omega)) (stO _ (QaI (Qdv h)) (stC rfl (stO _ rfl (stO _ rfl (stO _ rfl (stO _ rfl (stO _ rfl (stO _ rfl (stO _ (QaI (Qdv h)) (stC rfl (stO _ rfl (stO _ rfl (stO _ rfl (stO _ rfl (stO _ rfl (stO _ rfl (stO _ hm (stO _ rfl (stF rfl hi)))))))))))))))))))
theorem Qp5 (a b : Bool) (l : List Fl) (hl : ∀ f ∈ l, f.legs.length ≤ 1000) (hll : l.length ≤ 1000000) : Ret lb Qba [.list a (l.map flE), .list b (l.map flE)] (.bool true) := by
 refine .top rfl ((Evt.diag (QtR lb a b l hl hll l [] rfl)).mono fun n h => ?_)
 rw [Qob]
 exact stF (bneF rfl) h
end Go.Proofs
set_option linter.unusedSimpArgs false
set_option linter.unusedVariables false
namespace Go.Proofs
open Go.Am
variable (lb : Nat)
def rvE (r : Rv) : List CV := [.int .i64 r.kind, .str r.car, .int .i64 r.num, .int .i64 r.fr, .int .i64 r.to, .int .i64 r.days, .int .i64 r.min, .str r.eq, .list r.ln (r.legs.map lgcv)]
end Go.Proofs
