/- Chapter 10 on plain data: the stable sort of a few flights by their first days (printed by mkns.py). Conditions: as each says. -/
import Derived.Test.YtdcpdknginpohaaGreatDoorVs
import Derived.Test.YtdcpdknginpohaaGreatDoorKB
import Derived.Test.YtdcpdknginpohaaGreatDoorNA
import Derived.Test.YtdcpdknginpohaaGreatDoorNh
import Derived.Test.YtdcpdknginpohaaGreatDoorKC
import Derived.Test.YtdcpdknginpohaaGreatDoorVd
import Derived.Test.YtdcpdknginpohaaGreatDoorW10
set_option linter.unusedSimpArgs false
set_option linter.unusedVariables false
set_option maxRecDepth 100000
namespace Go.Proofs
open Go.Am
variable (lb : Nat)
def flE (f : Fl) : List CV := [.str f.car, .int .i64 f.num, .int .i64 f.fr, .int .i64 f.to, .int .i64 f.days, .list f.ln (f.legs.map lgcv)]
end Go.Proofs
set_option linter.unusedSimpArgs false
set_option linter.unusedVariables false
namespace Go.Proofs
open Go.Am
variable (lb : Nat)
end Go.Proofs
set_option linter.unusedSimpArgs false
set_option linter.unusedVariables false
set_option maxRecDepth 100000
namespace Go.Proofs
open Go.Am
variable (lb : Nat)
end Go.Proofs
set_option linter.unusedSimpArgs false
set_option linter.unusedVariables false
namespace Go.Proofs
open Go.Am
variable (lb : Nat)
structure OkF (f : Fl) : Prop where
 ln : f.ln = false
 ne : f.legs ≠ []
 len : f.legs.length ≤ 100
 car : f.car.length ≤ 281474976710656
 eq : ∀ x ∈ f.legs, x.eq.length ≤ 281474976710656
theorem QjF {l u t : List Fl} {f : Fl} (h : u ++ f :: t = l) : (l.map flE)[u.length]? = some (flE f) := by rw [← h]; simp
end Go.Proofs
set_option linter.unusedSimpArgs false
set_option linter.unusedVariables false
namespace Go.Proofs
open Go.Am
variable (lb : Nat)
def QtA (g : Fl) : Prop := g.car.length ≤ 281474976710656 ∧ ∀ x ∈ g.legs, x.eq.length ≤ 281474976710656
end Go.Proofs
set_option linter.unusedSimpArgs false
set_option linter.unusedVariables false
namespace Go.Proofs
open Go.Am
end Go.Proofs
set_option linter.unusedSimpArgs false
set_option linter.unusedVariables false
namespace Go.Proofs
open Go.Am
variable (lb : Nat)
def QtX : Bs := [102, 108, 105, 103, 104, 116, 32]
def atS (i : Nat) : Bs := QtX ++ Lib.itoa (i : Int)
def ownE (i : Nat) (e : Ft) : Ft := (e.1, (atS i ++ [32]) ++ e.2)
def ft8 (p : Pc) (i : Nat) (tw : Bool) (f : Fl) : List Ft := (QaZ p f).map (ownE i) ++ if tw then [(6, atS i)] else []
def Qga (p : Pc) : List Fl → List Fl → List Ft
 | _, [] => []
 | q, f :: t => ft8 p q.length (q.any (QcX · f)) f ++ Qga p (q ++ [f]) t
theorem QnS {f : Fl} {e : Ft} (h : e ∈ QeP f) : e.2.length ≤ 100 := by
 unfold QeP at h
 simp only [List.mem_append] at h
 rcases h with (h | h) | h
 ·split at h
  ·simp at h
  ·simp at h; rw [h]; decide
 ·split at h
  ·simp at h
  ·simp at h; rw [h]; decide
 ·split at h
  ·simp at h; rw [h]; show wPeriod.length ≤ 100; decide
  ·simp at h
theorem QlP {p : Pc} {e : Ft} : ∀ (t q : List Lg), q.length + t.length ≤ 1000 → e ∈ Qa8 p q t → e.2.length ≤ 100
 | [], q, _, h => by simp [Qa8] at h
 | x :: t, q, hq, h => by
  unfold Qa8 at h
  rcases List.mem_append.1 h with h | h
  ·obtain ⟨z, hz, rfl⟩ := List.mem_map.1 h
   have := QdI (z := (q.length : Int)) (by omega) (by simp at hq; omega)
   have : wLeg.length = 4 := rfl
   simp; omega
  ·exact QlP t _ (by simp at hq ⊢; omega) h
theorem Qn3 {p : Pc} {l : List Lg} {e : Ft} : ∀ (r : List Int), e ∈ Qc6 p l r → e.2.length ≤ 100
 | [], h => by simp [Qc6] at h
 | d :: r, h => by
  unfold Qc6 at h
  split at h
  ·exact Qn3 r h
  ·simp at h; rw [h]
   have : wDay.length = 4 := rfl
   have := Qn5 d
   simp; omega
theorem Qq7 {p : Pc} {f : Fl} {e : Ft} (h : e ∈ QaZ p f) : e.2.length ≤ 100 := by
 unfold QaZ at h
 split at h
 ·unfold Qft at h
  rcases List.mem_append.1 h with h | h
  ·exact QnS h
  ·split at h
   ·simp at h; rw [h]; decide
   ·simp at h
 ·split at h
  ·exact Qn3 _ h
  ·rcases List.mem_append.1 h with h | h
   ·exact QnS h
   ·exact QlP _ _ (by simp; omega) h
theorem QnE (p : Pc) (l : List Lg) : ∀ (D : List Int), (Qc6 p l D).length ≤ 1
 | [] => by simp [Qc6]
 | d :: D => by
  have := QnE p l D
  unfold Qc6; split <;> simp [this]
theorem Qiw (p : Pc) (f : Fl) : (QaZ p f).length ≤ 50 := by
 unfold QaZ
 have hg := QjI f
 split
 ·unfold Qft; rw [List.length_append]
  have : (if (decide ((f.legs.length : Int) < 1) || decide ((f.legs.length : Int) > 6)) then [(4, QrC)] else [] : List Ft).length ≤ 1 := by split <;> simp
  omega
 ·split
  ·have := QnE p f.legs (QaA f.fr f.to f.days); omega
  ·rw [List.length_append]; have := QiK p f.legs []; omega
theorem Qt1 (p : Pc) (i : Nat) (tw : Bool) (f : Fl) : (ft8 p i tw f).length ≤ 51 := by
 have := Qiw p f
 unfold ft8
 cases tw <;> simp <;> omega
theorem Qti (n k0 : Nat) (p : Pc) (bn : Bool) (L : List (List CV)) (i : Nat) (hi : i ≤ 1000) (f : Fl) (j2 : CV) (H : List Ft) (hH : H.length ≤ 900000) : ∀ (t u : List Ft) (k : Nat), u ++ t = QaZ p f → t.length < k →
  QeQ lb n k k0 p.an (p.aps.map apcv) p.dn (p.dis.map dicv) bn L (i : Int) (Lib.itoa (i : Int)) (QcC (QaZ p f)) j2 (flE f) (.str f.car) (.int .i64 f.num) (.int .i64 f.fr) (.int .i64 f.to) (.int .i64 f.days) (.list f.ln (f.legs.map lgcv)) (H ++ u.map (ownE i)).isEmpty ((H ++ u.map (ownE i)).map Qa1) (u.length : Int) =
   QgO lb n k0 p.an (p.aps.map apcv) p.dn (p.dis.map dicv) bn L (i : Int) (Lib.itoa (i : Int)) (QcC (QaZ p f)) j2 (flE f) (.str f.car) (.int .i64 f.num) (.int .i64 f.fr) (.int .i64 f.to) (.int .i64 f.days) (.list f.ln (f.legs.map lgcv)) (H ++ (QaZ p f).map (ownE i)).isEmpty ((H ++ (QaZ p f).map (ownE i)).map Qa1) ((QaZ p f).length : Int)
 | [], u, k, h, hk => by
  obtain ⟨k, rfl⟩ : ∃ m, k = m + 1 := ⟨k - 1, by simp at hk; omega⟩
  have hu : u = QaZ p f := by simpa using h
  rw [QfZ, hu]
  exact stO _ rfl (stF (decF (by simp)) rfl)
 | e :: t, u, k, h, hk => by
  obtain ⟨k, rfl⟩ : ∃ m, k = m + 1 := ⟨k - 1, by simp at hk; omega⟩
  have hc := Qiw p f
  have hl : (QaZ p f).length = u.length + (t.length + 1) := by rw [← h]; simp
  have hs := Qq7 (p := p) (f := f) (e := e) (by rw [← h]; simp)
  have hit := QdI (z := (i : Int)) (by omega) (by omega)
  have hw1 : IntKind.wrap .i64 ((u.length : Int) + 1) = ((u ++ [e]).length : Int) := by rw [QaF (by omega) (by omega)]; simp
  have hg : ((QaZ p f).map Qa1)[u.length]? = some (Qa1 e) := by rw [← h]; simp
  have ih := Qti n k0 p bn L i hi f j2 H hH t (u ++ [e]) k (by rw [← h]; simp) (by simp at hk; omega)
  have e2 : H ++ (u ++ [e]).map (ownE i) = (H ++ u.map (ownE i)) ++ [ownE i e] := by simp
  rw [e2, List.map_append (l₁ := H ++ u.map (ownE i)) (l₂ := [ownE i e]), ← Qbv (H ++ u.map (ownE i)) (ownE i e) (H ++ u.map (ownE i)).isEmpty] at ih
  rw [QfZ, hw1]
  refine stO _ rfl (stT (decT (by simp; omega)) (stO _ rfl (stO _ (QaO hg) (stC rfl (stO _ rfl (stC (decT (by simp; omega)) (stO _ rfl (stO _ (QaO hg) (stC rfl (stO _ rfl (stO _ rfl (stC (decT (by simp; omega)) (stC rfl (stC (QbN (by simp; omega) (by omega)) ih))))))))))))))
theorem Qto (p : Pc) (bn : Bool) (l : List Fl) (q : List Fl) (f : Fl) (t0 : List Fl) (hq : q ++ f :: t0 = l) (hql : q.length ≤ 1000) (b : Bool) (H : List (List CV)) (s140 : Bs) (jN j2 : CV) (wv : Int) (c141 : List CV) (x1 x2 x3 x4 x5 x6 : CV) : ∀ (t u : List Fl), u ++ t = q → Evt fun n => ∀ k k0, t.length < k →
  QdJ lb n k k0 p.an (p.aps.map apcv) p.dn (p.dis.map dicv) bn (l.map flE) b H (q.length : Int) s140 jN wv j2 c141 x1 x2 x3 x4 x5 x6 (.bool (u.any (QcX · f))) (u.length : Int) =
   Qgx lb n k0 p.an (p.aps.map apcv) p.dn (p.dis.map dicv) bn (l.map flE) b H (q.length : Int) s140 jN wv j2 c141 x1 x2 x3 x4 x5 x6 (.bool (q.any (QcX · f))) (q.length : Int)
 | [], u, h => by
  refine .all fun n k k0 hk => ?_
  obtain ⟨k, rfl⟩ : ∃ m, k = m + 1 := ⟨k - 1, by simp at hk; omega⟩
  have hu : u = q := by simpa using h
  rw [Qf1, hu]
  exact stF (decF (by simp)) rfl
 | x :: t, u, h => by
  have hl : q.length = u.length + (t.length + 1) := by rw [← h]; simp
  have hw1 : IntKind.wrap .i64 ((u.length : Int) + 1) = ((u ++ [x]).length : Int) := by rw [QaF (by omega) (by omega)]; simp
  have hx : (l.map flE)[u.length]? = some (flE x) := by rw [← hq, ← h]; simp
  refine Evt.imp2 (Qou lb x f) (Qto p bn l q f t0 hq hql b H s140 jN j2 wv c141 x1 x2 x3 x4 x5 x6 t (u ++ [x]) (by rw [← h]; simp)) fun n hm hi k k0 hk => ?_
  obtain ⟨k, rfl⟩ : ∃ m, k = m + 1 := ⟨k - 1, by simp at hk; omega⟩
  have hi := hi k k0 (by simp at hk; omega)
  rw [Qf1, hw1]
  refine stT (decT (by omega)) (stO _ (QaI _) ?_)
  cases ha : u.any (QcX · f) with
  | true =>
   have e : (u ++ [x]).any (QcX · f) = true := by rw [List.any_append, ha]; rfl
   rw [e] at hi
   exact stT rfl hi
  | false =>
   have e : (u ++ [x]).any (QcX · f) = QcX x f := by rw [List.any_append, ha]; simp
   rw [e] at hi
   exact stF rfl (stO _ (QaO hx) (stC rfl (stO _ rfl (stO _ rfl (stO _ rfl (stO _ rfl (stO _ rfl (stO _ rfl (stO _ (QaO (QjF hq)) (stC rfl (stO _ rfl (stO _ rfl (stO _ rfl (stO _ rfl (stO _ rfl (stO _ rfl (stO _ hm hi)))))))))))))))))
theorem Qtp (p : Pc) (hp : QbP p) (bn : Bool) (l : List Fl) (hl : ∀ f ∈ l, QtA f) (hll : l.length ≤ 1000) : ∀ (t q : List Fl) (H : List Ft), q ++ t = l → H.length ≤ 51 * q.length → Evt fun n => ∀ k, t.length < k →
  QeV lb n k p.an (p.aps.map apcv) p.dn (p.dis.map dicv) bn (l.map flE) H.isEmpty (H.map Qa1) (q.length : Int) = some (QcC (H ++ Qga p q t))
 | [], q, H, h, hH => by
  refine .all fun n k hk => ?_
  obtain ⟨k, rfl⟩ : ∃ m, k = m + 1 := ⟨k - 1, by simp at hk; omega⟩
  have hu : q = l := by simpa using h
  rw [Qf3, hu]
  refine stF (decF (by simp)) ?_
  rw [QmJ]
  simp [Qga, QcC]
 | f :: t, q, H, h, hH => by
  have hlen : l.length = q.length + (t.length + 1) := by rw [← h]; simp
  have hw1 : IntKind.wrap .i64 ((q.length : Int) + 1) = ((q ++ [f]).length : Int) := by rw [QaF (by omega) (by omega)]; simp
  obtain ⟨g1, g2⟩ := hl f (by rw [← h]; simp)
  have hf8 := Qt1 p q.length (q.any (QcX · f)) f
  have hc := Qiw p f
  have hit := QdI (z := (q.length : Int)) (by omega) (by omega)
  have q4 := Qto lb p bn l q f t h (by omega) (H ++ (QaZ p f).map (ownE q.length)).isEmpty ((H ++ (QaZ p f).map (ownE q.length)).map Qa1) (Lib.itoa (q.length : Int)) (QcC (QaZ p f)) (.str (Lib.itoa (q.length : Int))) ((QaZ p f).length : Int) (flE f) (.str f.car) (.int .i64 f.num) (.int .i64 f.fr) (.int .i64 f.to) (.int .i64 f.days) (.list f.ln (f.legs.map lgcv)) q [] rfl
  refine Evt.imp2 ((Qdq lb (q.length : Int) (by omega) (by omega)).and ((Qoq lb p hp f (by omega) (fun x hx => by have := g2 x hx; omega)).and (Evt.ge 1100))) (Evt.and q4 (Qtp p hp bn l hl hll t (q ++ [f]) (H ++ ft8 p q.length (q.any (QcX · f)) f) (by rw [← h]; simp) (by simp; omega))) fun n ⟨a1, a2, a3⟩ ⟨a4, hi⟩ k hk => ?_
  obtain ⟨k, rfl⟩ : ∃ m, k = m + 1 := ⟨k - 1, by simp at hk; omega⟩
  have hi := hi k (by simp at hk; omega)
  have a4 := a4 n k (by omega)
  have z := Qti lb n k p bn (l.map flE) q.length (by omega) f (.str (Lib.itoa (q.length : Int))) H (by omega) (QaZ p f) [] n rfl (by omega)
  rw [List.map_nil, List.append_nil] at z
  rw [Qf3]
  refine stT (decT (by simp; omega)) (stO _ a1 (stO _ rfl (stC (decT (by simp; omega)) (stO _ (QaO (QjF h)) (stC rfl (stO _ rfl (stO _ rfl (stO _ rfl (stO _ rfl (stO _ rfl (stO _ rfl (stO _ a2 (z.trans ?_)))))))))))))
  rw [Ql8]
  refine a4.trans ?_
  rw [QmL]
  refine stO _ (QaI _) ?_
  have e9 : Qga p q (f :: t) = ft8 p q.length (q.any (QcX · f)) f ++ Qga p (q ++ [f]) t := rfl
  rw [e9, ← List.append_assoc]
  cases ha : q.any (QcX · f) with
  | true =>
   rw [ha] at hi
   have e : H ++ ft8 p q.length true f = (H ++ (QaZ p f).map (ownE q.length)) ++ [(6, atS q.length)] := by simp [ft8]
   rw [e] at hi ⊢
   rw [List.map_append (l₁ := H ++ (QaZ p f).map (ownE q.length)) (l₂ := [(6, atS q.length)]), ← Qbv (H ++ (QaZ p f).map (ownE q.length)) (6, atS q.length) (H ++ (QaZ p f).map (ownE q.length)).isEmpty] at hi
   refine stT rfl (stC (QbN (by simp; omega) (by omega)) ?_)
   rw [Qg0, hw1]
   exact hi
  | false =>
   rw [ha] at hi
   have e : H ++ ft8 p q.length false f = H ++ (QaZ p f).map (ownE q.length) := by simp [ft8]
   rw [e] at hi ⊢
   refine stF rfl ?_
   rw [Qg0, hw1]
   exact hi
theorem QoA (p : Pc) (hp : QbP p) (bn : Bool) (l : List Fl) (hl : ∀ f ∈ l, QtA f) (hll : l.length ≤ 1000) : Ret lb Qaa [pcv p, .list bn (l.map flE)] (QcC (Qga p [] l)) := by
 refine .top rfl ((Evt.diag (Qtp lb p hp bn l hl hll l [] [] rfl (by simp))).mono fun n h => ?_)
 rw [QpD]
 exact h
theorem QnW {p : Pc} : ∀ {t q : List Fl}, Qga p q t = [] → (∀ f ∈ t, QaZ p f = []) 
 | [], q, _ => by simp
 | f :: t, q, h => by
  unfold Qga at h
  obtain ⟨h1, h2⟩ := List.append_eq_nil_iff.1 h
  intro g hg
  rcases List.mem_cons.1 hg with rfl | hg
  ·unfold ft8 at h1
   obtain ⟨h3, _⟩ := List.append_eq_nil_iff.1 h1
   exact List.map_eq_nil_iff.1 h3
  ·exact QnW h2 g hg
end Go.Proofs
set_option linter.unusedSimpArgs false
set_option linter.unusedVariables false
namespace Go.Proofs
open Go.Am
variable (lb : Nat)
def ArgL (l : List Fl) : Prop := l.length ≤ 281474976710656 ∧ ∀ f ∈ l, ArgF f ∧ (f.ln = true → f.legs = [])
def ArgR (r : Rv) : Prop := r.car.length ≤ 281474976710656 ∧ r.legs.length ≤ 281474976710656 ∧ (∀ x ∈ r.legs, Qb9 x ≤ 1000000000000000) ∧ (r.ln = true → r.legs = [])
def QhM (p : Pc) (l : List Fl) : Bool := decide (l.length > 12) || (decide (p.aps.length > 20) || (decide (p.dis.length > 40) || l.any (bigB p)))
theorem QsC (p : Pc) (hp : ArgP p) (bn : Bool) (l : List Fl) (hl : ∀ f ∈ l, ArgF f) (hll : l.length ≤ 1000) : ∀ (t u : List Fl), u ++ t = l → Evt fun n => ∀ k, t.length < k →
  r10_Big_L1 lb n k p.an (p.aps.map apcv) p.dn (p.dis.map dicv) bn (l.map flE) (u.length : Int) = some (.bool (t.any (bigB p)))
 | [], u, h => by
  refine .all fun n k hk => ?_
  obtain ⟨k, rfl⟩ : ∃ m, k = m + 1 := ⟨k - 1, by simp at hk; omega⟩
  have hu : u = l := by simpa using h
  rw [Qg2, hu]
  refine stF (decF (by simp)) ?_
  rw [Qoc]
  rfl
 | f :: t, u, h => by
  have hlen : l.length = u.length + (t.length + 1) := by rw [← h]; simp
  have hw1 : IntKind.wrap .i64 ((u.length : Int) + 1) = ((u ++ [f]).length : Int) := by rw [QaF (by omega) (by omega)]; simp
  refine Evt.imp2 (Qt8 lb p f hp (hl f (by rw [← h]; simp))) (QsC p hp bn l hl hll t (u ++ [f]) (by rw [← h]; simp)) fun n hm hi k hk => ?_
  obtain ⟨k, rfl⟩ : ∃ m, k = m + 1 := ⟨k - 1, by simp at hk; omega⟩
  have hi := hi k (by simp at hk; omega)
  rw [Qg2, hw1]
  refine stT (decT (by simp; omega)) (stO _ (QaO (QjF h)) (stC rfl (stO _ rfl (stO _ rfl (stO _ rfl (stO _ rfl (stO _ rfl (stO _ rfl (stO _ hm (stO _ (QaI _) ?_))))))))))
  rw [List.any_cons]
  cases bigB p f with
  | true => exact stT rfl rfl
  | false => exact stF rfl (by simpa using hi)
theorem QhG (p : Pc) (hp : ArgP p) (bn : Bool) (l : List Fl) (hl : ArgL l) : Ret lb Qb2 [pcv p, .list bn (l.map flE)] (.bool (QhM p l)) := by
 unfold QhM
 by_cases h1 : l.length > 12
 ·refine .top rfl (.all fun n => ?_)
  rw [Qgk, decT h1]
  exact stT (decT (by simp; omega)) rfl
 ·by_cases h2 : p.aps.length > 20
  ·refine .top rfl (.all fun n => ?_)
   rw [Qgk, decF h1, decT h2]
   exact stF (decF (by simp; omega)) (stT (decT (by simp; omega)) rfl)
  ·by_cases h3 : p.dis.length > 40
   ·refine .top rfl (.all fun n => ?_)
    rw [Qgk, decF h1, decF h2, decT h3]
    exact stF (decF (by simp; omega)) (stF (decF (by simp; omega)) (stT (decT (by simp; omega)) rfl))
   ·refine .top rfl ((Evt.diag (QsC lb p hp bn l (fun f hf => (hl.2 f hf).1) (by omega) l [] rfl)).mono fun n h => ?_)
    rw [Qgk, decF h1, decF h2, decF h3]
    exact stF (decF (by simp; omega)) (stF (decF (by simp; omega)) (stF (decF (by simp; omega)) h))
def QjQ (p : Pc) (l : List Fl) : Bool := !QhM p l && ((Qfp p).isEmpty && (Qga p [] l).isEmpty)
theorem QjN {p : Pc} {l : List Fl} (h : QhM p l = false) : l.length ≤ 12 ∧ p.aps.length ≤ 20 ∧ p.dis.length ≤ 40 ∧ ∀ f ∈ l, bigB p f = false := by
 unfold QhM at h
 simp only [Bool.or_eq_false_iff, decide_eq_false_iff_not] at h
 obtain ⟨h1, h2, h3, h4⟩ := h
 refine ⟨by omega, by omega, by omega, fun f hf => ?_⟩
 have := List.any_eq_false.1 h4 f hf
 simpa using this
theorem Qrs (F : List Ft) : (((F.map Qa1).length : Int) == 0) = F.isEmpty := by cases F with
 | nil => rfl
 | cons e F => exact beqF (by simp; omega)
theorem Qon (p : Pc) (hp : ArgP p) (bn : Bool) (l : List Fl) (hl : ArgL l) : Ret lb Qhu [pcv p, .list bn (l.map flE)] (.bool (QjQ p l)) := by
 unfold QjQ
 cases hB : QhM p l with
 | true =>
  refine .top rfl ((QhG lb p hp bn l hl).mono fun n h => ?_)
  rw [QgI]
  exact stO _ h (stO _ rfl (stF (by rw [hB]; rfl) rfl))
 | false =>
  obtain ⟨b1, b2, b3, b4⟩ := QjN hB
  have hP := Qod lb p (by omega) (by omega) hp.2.2
  cases hF : (Qfp p).isEmpty with
  | false =>
   refine .top rfl (Evt.imp2 (QhG lb p hp bn l hl) hP fun n h h2 => ?_)
   rw [QgI]
   exact stO _ h (stO _ rfl (stT (by rw [hB]; rfl) (stO _ h2 (stO _ rfl (stF (by rw [Qrs, hF]) rfl)))))
  | true =>
   have hS := Qh7 (p := p) (by omega) (by simpa using hF)
   have h8 := QoA lb p hS bn l (fun f hf => by
    obtain ⟨c1, c2, _⟩ := QlH (b4 f hf)
    exact ⟨by omega, fun x hx => by have := (c2 x hx).2.2; omega⟩) (by omega)
   refine .top rfl (Evt.imp2 (QhG lb p hp bn l hl) (Evt.and hP h8) fun n h ⟨h2, h3⟩ => ?_)
   rw [QgI]
   refine stO _ h (stO _ rfl (stT (by rw [hB]; rfl) (stO _ h2 (stO _ rfl (stT (by rw [Qrs, hF]) (stO _ h3 (stO _ rfl ?_)))))))
   rw [Qrs]; rfl
theorem Qs7 {p : Pc} {l : List Fl} (hl : ArgL l) (h : QjQ p l = true) : QbP p ∧ (∀ f ∈ l, OkF f) ∧ l.length ≤ 12 ∧ ∀ f ∈ l, QaZ p f = [] := by
 unfold QjQ at h
 simp only [Bool.and_eq_true, Bool.not_eq_true', List.isEmpty_iff] at h
 obtain ⟨h1, h2, h3⟩ := h
 obtain ⟨b1, b2, b3, b4⟩ := QjN h1
 have hc := QnW h3
 refine ⟨Qh7 (p := p) (by omega) h2, fun f hf => ?_, b1, hc⟩
 obtain ⟨c1, c2, c3, _⟩ := QlH (b4 f hf)
 obtain ⟨k1, k2, _⟩ := Qrm (hc f hf)
 have hne : f.legs ≠ [] := fun e => by rw [e] at k2; simp at k2
 exact ⟨by cases hb : f.ln with | false => rfl | true => exact absurd ((hl.2 f hf).2 hb) hne, hne, by omega, by omega, fun x hx => by have := (c2 x hx).2.2; omega⟩
end Go.Proofs
set_option linter.unusedSimpArgs false
set_option linter.unusedVariables false
namespace Go.Proofs
open Go.Am
variable (lb : Nat)
def rvE (r : Rv) : List CV := [.int .i64 r.kind, .str r.car, .int .i64 r.num, .int .i64 r.fr, .int .i64 r.to, .int .i64 r.days, .int .i64 r.min, .str r.eq, .list r.ln (r.legs.map lgcv)]
end Go.Proofs
