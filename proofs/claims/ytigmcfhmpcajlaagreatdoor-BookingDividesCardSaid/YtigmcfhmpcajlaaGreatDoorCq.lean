/- Chapter 35: bookings compared, small bookings, seats, on plain data. Conditions: as each says. -/
import Derived.Test.YtigmcfhmpcajlaaGreatDoorBC
import Derived.Test.YtigmcfhmpcajlaaGreatDoorGs
set_option linter.unusedSimpArgs false
set_option linter.unusedVariables false
namespace Go.Proofs
open Go.Am
variable (lb : Nat)
structure Bk where
 loc : Bs
 pn : Bool
 ps : List Pe
 grp : Int
 bn : Bool
 segs : List Sg
 rn : Bool
 svs : List Sv
 lim : Int
def bkE (b : Bk) : List CV := [.str b.loc, .list b.pn (b.ps.map peE), .int .i64 b.grp, .list b.bn (b.segs.map sgE), .list b.rn (b.svs.map svE), .int .i64 b.lim]
def peq (p q : Pe) : Bool := (p.la == q.la) && ((p.fi == q.fi) && ((p.ty == q.ty) && true))
def svq (p q : Sv) : Bool := (p.cd == q.cd) && ((p.pe == q.pe) && ((p.sg == q.sg) && true))
def sgq (p q : Sg) : Bool := (p.car == q.car) && ((p.num == q.num) && ((p.day == q.day) && ((p.fr == q.fr) && ((p.to == q.to) && ((p.dep == q.dep) && ((p.arr == q.arr) && ((p.cls == q.cls) && ((p.st == q.st) && ((p.mar == q.mar) && true)))))))))
def Qcd {α : Type} (q : α → α → Bool) : List α → List α → Bool
 | [], [] => true
 | x :: a, y :: b => q x y && Qcd q a b
 | _, _ => false
theorem Qjq {α : Type} (q : α → α → Bool) : ∀ (l m : List α), l.length ≠ m.length → Qcd q l m = false
 | [], [], h => absurd rfl h
 | [], _ :: _, _ => rfl
 | _ :: _, [], _ => rfl
 | x :: a, y :: b, h => by
  have := Qjq q a b (by simpa using h)
  simp only [Qcd, this, Bool.and_false]
theorem Qd3 {α : Type} {q : α → α → Bool} (h : ∀ x, q x x = true) : ∀ l : List α, Qcd q l l = true
 | [] => rfl
 | x :: a => by simp only [Qcd, h x, Qd3 h a, Bool.and_self]
theorem QsP (p : Pe) : peq p p = true := by simp [peq]
theorem Qsz (p : Sv) : svq p p = true := by simp [svq]
theorem QrP (p : Sg) : sgq p p = true := by simp [sgq]
def Qjm (a b : Bk) : Bool := (a.loc == b.loc) && ((a.grp == b.grp) && ((a.lim == b.lim) && (Qcd peq a.ps b.ps && (Qcd sgq a.segs b.segs && Qcd svq a.svs b.svs))))
theorem Qt7 (a : Bk) : Qjm a a = true := by
 simp [Qjm, Qd3 QsP, Qd3 QrP, Qd3 Qsz]
theorem QtT (a b : Bk) (h1 : a.ps.length ≤ 1000000) (h2 : a.segs.length ≤ 1000000) (h3 : a.svs.length ≤ 1000000) (e1 : a.ps.length = b.ps.length) (e2 : a.segs.length = b.segs.length) (e3 : a.svs.length = b.svs.length) (n : Nat) (hn : a.ps.length + a.segs.length + a.svs.length < n) (wg vi : Int) : ∀ (t u p q : List Sv), p ++ t = a.svs → q ++ u = b.svs → p.length = q.length → t.length = u.length → ∀ k, t.length < k → Qhf lb n k a.loc a.pn (a.ps.map peE) a.grp a.bn (a.segs.map sgE) a.rn (a.svs.map svE) a.lim b.loc b.pn (b.ps.map peE) b.grp b.bn (b.segs.map sgE) b.rn (b.svs.map svE) b.lim wg vi (p.length : Int) = some (.bool (Qcd svq t u && true))
 | [], u, p, q, hp, hq, hpq, htu, k, hk => by
  obtain ⟨k, rfl⟩ : ∃ j, k = j + 1 := ⟨k - 1, by simp at hk; omega⟩
  have hu : u = [] := List.eq_nil_of_length_eq_zero (by simpa using htu.symm)
  subst hu
  have : p = a.svs := by simpa using hp
  rw [Qiy]
  refine stF (decF (by simp [this])) ?_
  show _ = some (CV.bool (true))
  rw [QpS]
 | x :: t, [], p, q, hp, hq, hpq, htu, k, hk => by simp at htu
 | x :: t, y :: u, p, q, hp, hq, hpq, htu, k, hk => by
  obtain ⟨k, rfl⟩ : ∃ j, k = j + 1 := ⟨k - 1, by simp at hk; omega⟩
  have hpl : p.length + (t.length + 1) = a.svs.length := by rw [← hp]; simp
  have h1' : atL (a.svs.map svE) (p.length : Int) = some (svE x) := Qbh (by rw [List.getElem?_map, ← hp]; simp)
  have h2' : atL (b.svs.map svE) (p.length : Int) = some (svE y) := by rw [hpq]; exact Qbh (by rw [List.getElem?_map, ← hq]; simp)
  have hw : IntKind.wrap .i64 ((p.length : Int) + 1) = ((p ++ [x]).length : Int) := by rw [Qaw (by omega) (by omega)]; simp
  have ih := QtT a b h1 h2 h3 e1 e2 e3 n hn wg vi t u (p ++ [x]) (q ++ [y]) (by rw [← hp]; simp) (by rw [← hq]; simp) (by simp [hpq]) (by simpa using htu) k (by simp at hk; omega)
  rw [Qiy]
  refine stT (decT (by simp; omega)) (stO _ h1' (stC rfl (stO _ rfl (stO _ rfl (stO _ rfl (stO _ h2' (stC rfl (stO _ rfl (stO _ rfl (stO _ rfl (stO _ rfl (stO _ rfl (stO _ (Qas ..) (stO _ (Qas ..) (stO _ (Qas ..) (stO _ (Qas ..) (?_)))))))))))))))))
  rw [hw]
  cases hxy : svq x y with
  | true => exact stF (show (!(svq x y)) = false by rw [hxy]; rfl) (ih.trans (by simp [Qcd, hxy]))
  | false => exact stT (show (!(svq x y)) = true by rw [hxy]; rfl) (by simp [Qcd, hxy])
theorem Qtz (a b : Bk) (h1 : a.ps.length ≤ 1000000) (h2 : a.segs.length ≤ 1000000) (h3 : a.svs.length ≤ 1000000) (e1 : a.ps.length = b.ps.length) (e2 : a.segs.length = b.segs.length) (e3 : a.svs.length = b.svs.length) (n : Nat) (hn : a.ps.length + a.segs.length + a.svs.length < n) (wg : Int) : ∀ (t u p q : List Sg), p ++ t = a.segs → q ++ u = b.segs → p.length = q.length → t.length = u.length → ∀ k, t.length < k → Qhc lb n k a.loc a.pn (a.ps.map peE) a.grp a.bn (a.segs.map sgE) a.rn (a.svs.map svE) a.lim b.loc b.pn (b.ps.map peE) b.grp b.bn (b.segs.map sgE) b.rn (b.svs.map svE) b.lim wg (p.length : Int) = some (.bool (Qcd sgq t u && Qcd svq a.svs b.svs))
 | [], u, p, q, hp, hq, hpq, htu, k, hk => by
  obtain ⟨k, rfl⟩ : ∃ j, k = j + 1 := ⟨k - 1, by simp at hk; omega⟩
  have hu : u = [] := List.eq_nil_of_length_eq_zero (by simpa using htu.symm)
  subst hu
  have : p = a.segs := by simpa using hp
  rw [Qit]
  refine stF (decF (by simp [this])) ?_
  show _ = some (CV.bool (Qcd svq a.svs b.svs))
  rw [Qp6]
  exact (QtT lb a b h1 h2 h3 e1 e2 e3 n hn wg _ a.svs b.svs [] [] rfl rfl rfl e3 n (by omega)).trans (by rw [Bool.and_true])
 | x :: t, [], p, q, hp, hq, hpq, htu, k, hk => by simp at htu
 | x :: t, y :: u, p, q, hp, hq, hpq, htu, k, hk => by
  obtain ⟨k, rfl⟩ : ∃ j, k = j + 1 := ⟨k - 1, by simp at hk; omega⟩
  have hpl : p.length + (t.length + 1) = a.segs.length := by rw [← hp]; simp
  have h1' : atL (a.segs.map sgE) (p.length : Int) = some (sgE x) := Qbh (by rw [List.getElem?_map, ← hp]; simp)
  have h2' : atL (b.segs.map sgE) (p.length : Int) = some (sgE y) := by rw [hpq]; exact Qbh (by rw [List.getElem?_map, ← hq]; simp)
  have hw : IntKind.wrap .i64 ((p.length : Int) + 1) = ((p ++ [x]).length : Int) := by rw [Qaw (by omega) (by omega)]; simp
  have ih := Qtz a b h1 h2 h3 e1 e2 e3 n hn wg t u (p ++ [x]) (q ++ [y]) (by rw [← hp]; simp) (by rw [← hq]; simp) (by simp [hpq]) (by simpa using htu) k (by simp at hk; omega)
  rw [Qit]
  refine stT (decT (by simp; omega)) (stO _ h1' (stC rfl (stO _ rfl (stO _ rfl (stO _ rfl (stO _ rfl (stO _ rfl (stO _ rfl (stO _ rfl (stO _ rfl (stO _ rfl (stO _ rfl (stO _ h2' (stC rfl (stO _ rfl (stO _ rfl (stO _ rfl (stO _ rfl (stO _ rfl (stO _ rfl (stO _ rfl (stO _ rfl (stO _ rfl (stO _ rfl (stO _ rfl (stO _ rfl (stO _ (Qas ..) (stO _ (Qas ..) (stO _ (Qas ..) (stO _ (Qas ..) (stO _ rfl (stO _ rfl (stO _ rfl (stO _ rfl (stO _ (Qas ..) (stO _ (Qas ..) (stO _ (Qas ..) (stO _ (Qas ..) (stO _ rfl (stO _ rfl (stO _ (Qas ..) (stO _ (Qas ..) (stO _ (Qas ..) (stO _ (Qas ..) (?_)))))))))))))))))))))))))))))))))))))))))))))
  rw [hw]
  cases hxy : sgq x y with
  | true => exact stF (show (!(sgq x y)) = false by rw [hxy]; rfl) (ih.trans (by simp [Qcd, hxy]))
  | false => exact stT (show (!(sgq x y)) = true by rw [hxy]; rfl) (by simp [Qcd, hxy])
theorem QtF (a b : Bk) (h1 : a.ps.length ≤ 1000000) (h2 : a.segs.length ≤ 1000000) (h3 : a.svs.length ≤ 1000000) (e1 : a.ps.length = b.ps.length) (e2 : a.segs.length = b.segs.length) (e3 : a.svs.length = b.svs.length) (n : Nat) (hn : a.ps.length + a.segs.length + a.svs.length < n)  : ∀ (t u p q : List Pe), p ++ t = a.ps → q ++ u = b.ps → p.length = q.length → t.length = u.length → ∀ k, t.length < k → r35_Same_L1 lb n k a.loc a.pn (a.ps.map peE) a.grp a.bn (a.segs.map sgE) a.rn (a.svs.map svE) a.lim b.loc b.pn (b.ps.map peE) b.grp b.bn (b.segs.map sgE) b.rn (b.svs.map svE) b.lim  (p.length : Int) = some (.bool (Qcd peq t u && (Qcd sgq a.segs b.segs && Qcd svq a.svs b.svs)))
 | [], u, p, q, hp, hq, hpq, htu, k, hk => by
  obtain ⟨k, rfl⟩ : ∃ j, k = j + 1 := ⟨k - 1, by simp at hk; omega⟩
  have hu : u = [] := List.eq_nil_of_length_eq_zero (by simpa using htu.symm)
  subst hu
  have : p = a.ps := by simpa using hp
  rw [Qiz]
  refine stF (decF (by simp [this])) ?_
  show _ = some (CV.bool ((Qcd sgq a.segs b.segs && Qcd svq a.svs b.svs)))
  rw [Qp2]
  exact Qtz lb a b h1 h2 h3 e1 e2 e3 n hn _ a.segs b.segs [] [] rfl rfl rfl e2 n (by omega)
 | x :: t, [], p, q, hp, hq, hpq, htu, k, hk => by simp at htu
 | x :: t, y :: u, p, q, hp, hq, hpq, htu, k, hk => by
  obtain ⟨k, rfl⟩ : ∃ j, k = j + 1 := ⟨k - 1, by simp at hk; omega⟩
  have hpl : p.length + (t.length + 1) = a.ps.length := by rw [← hp]; simp
  have h1' : atL (a.ps.map peE) (p.length : Int) = some (peE x) := Qbh (by rw [List.getElem?_map, ← hp]; simp)
  have h2' : atL (b.ps.map peE) (p.length : Int) = some (peE y) := by rw [hpq]; exact Qbh (by rw [List.getElem?_map, ← hq]; simp)
  have hw : IntKind.wrap .i64 ((p.length : Int) + 1) = ((p ++ [x]).length : Int) := by rw [Qaw (by omega) (by omega)]; simp
  have ih := QtF a b h1 h2 h3 e1 e2 e3 n hn  t u (p ++ [x]) (q ++ [y]) (by rw [← hp]; simp) (by rw [← hq]; simp) (by simp [hpq]) (by simpa using htu) k (by simp at hk; omega)
  rw [Qiz]
  refine stT (decT (by simp; omega)) (stO _ h1' (stC rfl (stO _ rfl (stO _ rfl (stO _ rfl (stO _ h2' (stC rfl (stO _ rfl (stO _ rfl (stO _ rfl (stO _ rfl (stO _ rfl (stO _ rfl (stO _ rfl (stO _ rfl (stO _ rfl (?_)))))))))))))))))
  rw [hw]
  cases hxy : peq x y with
  | true => exact stF (show (!(peq x y)) = false by rw [hxy]; rfl) (ih.trans (by simp [Qcd, hxy]))
  | false => exact stT (show (!(peq x y)) = true by rw [hxy]; rfl) (by simp [Qcd, hxy])
theorem QiS (a b : Bk) (h1 : a.ps.length ≤ 1000000) (h2 : a.segs.length ≤ 1000000) (h3 : a.svs.length ≤ 1000000) : Ret lb QaC [.agg (bkE a), .agg (bkE b)] (.bool (Qjm a b)) := by
 refine .top rfl ((Evt.ge (a.ps.length + a.segs.length + a.svs.length + 1)).mono fun n hn => ?_)
 rw [show top lb n QaC [.agg (bkE a), .agg (bkE b)] = _ from Qto lb n a.loc a.pn (a.ps.map peE) a.grp a.bn (a.segs.map sgE) a.rn (a.svs.map svE) a.lim b.loc b.pn (b.ps.map peE) b.grp b.bn (b.segs.map sgE) b.rn (b.svs.map svE) b.lim]
 unfold Qjm
 cases a.loc == b.loc with
 | false => exact stT rfl rfl
 | true =>
  refine stF rfl ?_
  by_cases hg : a.grp = b.grp
  ·refine stF (bneF hg) ?_
   rw [beqT hg]
   by_cases hm : a.lim = b.lim
   ·refine stF (bneF hm) ?_
    rw [beqT hm]
    by_cases e1 : a.ps.length = b.ps.length
    ·refine stF (bneF (by simp [e1])) ?_
     by_cases e2 : a.segs.length = b.segs.length
     ·refine stF (bneF (by simp [e2])) ?_
      by_cases e3 : a.svs.length = b.svs.length
      ·refine stF (bneF (by simp [e3])) ?_
       exact (QtF lb a b h1 h2 h3 e1 e2 e3 n (by omega) a.ps b.ps [] [] rfl rfl rfl e1 n (by omega)).trans (by simp)
      ·refine stT (bneT (by simp; omega)) ?_
       rw [Qjq svq _ _ e3]; simp
     ·refine stT (bneT (by simp; omega)) ?_
      rw [Qjq sgq _ _ e2]; simp
    ·refine stT (bneT (by simp; omega)) ?_
     rw [Qjq peq _ _ e1]; simp
   ·rw [beqF hm]
    exact stT (bneT hm) rfl
  ·rw [beqF hg]
   exact stT (bneT hg) rfl
def QbT (n : Int) : List Pe → Int
 | [] => n
 | p :: t => QbT (n + (bif infB p then 0 else 1)) t
def grp0 (g : Int) : Int := if 99 < (if 0 > g then 0 else g) then 99 else (if 0 > g then 0 else g)
theorem Qp1 (g : Int) : 0 ≤ grp0 g ∧ grp0 g ≤ 99 := by
 unfold grp0
 split <;> split <;> omega
theorem Qjs (bn : Bool) (l : List Pe) (g : Int) (hl : l.length ≤ 1000000) : ∀ (t u : List Pe) (m : Int), u ++ t = l → 0 ≤ m → m ≤ 99 + (u.length : Int) → Evt fun n => ∀ k, t.length < k → QdP lb n k bn (l.map peE) g m (u.length : Int) = some (.int .i64 (QbT m t))
 | [], u, m, h, _, _ => .all fun n k hk => by
  obtain ⟨k, rfl⟩ : ∃ j, k = j + 1 := ⟨k - 1, by simp at hk; omega⟩
  have hu : u = l := by simpa using h
  rw [QgB, hu]
  refine stF (decF (by simp)) ?_
  rw [Qm5]; rfl
 | p :: t, u, m, h, m0, m1 => by
  have hul : u.length + (t.length + 1) = l.length := by rw [← h]; simp
  have hw : IntKind.wrap .i64 ((u.length : Int) + 1) = ((u ++ [p]).length : Int) := by rw [Qaw (by omega) (by omega)]; simp
  have hat : atL (l.map peE) (u.length : Int) = some (peE p) := Qbh (by rw [List.getElem?_map, ← h]; simp)
  have w1 : IntKind.wrap .i64 (m + 1) = m + 1 := Qaw (by omega) (by omega)
  refine Evt.imp2 (QkC lb p) (Qjs bn l g hl t (u ++ [p]) (m + (bif infB p then 0 else 1)) (by rw [← h]; simp) (by cases infB p <;> simp <;> omega) (by cases infB p <;> simp <;> omega)) fun n h1 hi k hk => ?_
  obtain ⟨k, rfl⟩ : ∃ j, k = j + 1 := ⟨k - 1, by simp at hk; omega⟩
  have hi := hi k (by simp at hk; omega)
  rw [QgB]
  unfold QbT
  refine stT (decT (by simp; omega)) (stO _ hat (stC rfl (stO _ rfl (stO _ rfl (stO _ rfl (stO _ h1 (stO _ (Qau _) ?_)))))))
  cases hI : infB p with
  | true =>
   rw [hI] at hi
   refine stF rfl ?_
   rw [hw]
   simpa using hi
  | false =>
   rw [hI] at hi
   refine stT rfl ?_
   rw [w1, hw]
   simpa using hi
theorem Qfc (b : Bk) (hl : b.ps.length ≤ 1000000) : Ret lb QbA [.agg (bkE b)] (.int .i64 (QbT (grp0 b.grp) b.ps)) := by
 have h : Ret lb Qbm [.list b.pn (b.ps.map peE), .int .i64 b.grp] (.int .i64 (QbT (grp0 b.grp) b.ps)) :=
  .top rfl ((Evt.diag (Qjs lb b.pn b.ps b.grp hl b.ps [] (grp0 b.grp) rfl (Qp1 _).1 (by have := (Qp1 b.grp).2; simp; omega))).mono fun n h => by rw [QpM]; exact h)
 exact .top rfl (h.mono fun n h => by
  rw [show top lb n QbA [.agg (bkE b)] = _ from Qol lb n b.loc b.pn (b.ps.map peE) b.grp b.bn (b.segs.map sgE) b.rn (b.svs.map svE) b.lim]
  exact stO _ h rfl)
def Qcr (s : Bs) : Bool := !decide ((s.length : Int) > 100)
def peS (p : Pe) : Bool := Qcr p.la && (Qcr p.fi && Qcr p.ty)
def sgS (s : Sg) : Bool := Qcr s.car && (Qcr s.fr && (Qcr s.to && Qcr s.cls))
def svS (x : Sv) : Bool := Qcr x.cd
def Ql5 (b : Bk) : Bool := decide (b.ps.length ≤ 60) && (decide (b.segs.length ≤ 60) && (decide (b.svs.length ≤ 60) && (decide (b.loc.length ≤ 100) && (b.ps.all peS && (b.segs.all sgS && b.svs.all svS)))))
theorem QfW {s : Bs} {r : Bool} {t : Option CV} (h : Qcr s = true → t = some (.bool r)) : (bif decide ((s.length : Int) > 100) then some (.bool false) else t) = some (.bool (Qcr s && r)) := by
 cases hs : Qcr s with
 | true =>
  have : decide ((s.length : Int) > 100) = false := by simpa [Qcr] using hs
  rw [this]
  exact (h hs).trans rfl
 | false =>
  have : decide ((s.length : Int) > 100) = true := by simpa [Qcr] using hs
  rw [this]; rfl
theorem Qsg (b : Bk) (h3 : b.svs.length ≤ 60) (i j : Int) : ∀ (t p : List Sv), p ++ t = b.svs → ∀ n k, t.length < k → Qf5 lb n k b.loc b.pn (b.ps.map peE) b.grp b.bn (b.segs.map sgE) b.rn (b.svs.map svE) b.lim i j (p.length : Int) = some (.bool (t.all svS))
 | [], p, h, n, k, hk => by
  obtain ⟨k, rfl⟩ : ∃ j, k = j + 1 := ⟨k - 1, by simp at hk; omega⟩
  have hp : p = b.svs := by simpa using h
  rw [QhV]
  refine stF (decF (by simp [hp])) ?_
  rw [Qph]; rfl
 | x :: t, p, h, n, k, hk => by
  obtain ⟨k, rfl⟩ : ∃ j, k = j + 1 := ⟨k - 1, by simp at hk; omega⟩
  have hpl : p.length + (t.length + 1) = b.svs.length := by rw [← h]; simp
  have hat : atL (b.svs.map svE) (p.length : Int) = some (svE x) := Qbh (by rw [List.getElem?_map, ← h]; simp)
  have hw : IntKind.wrap .i64 ((p.length : Int) + 1) = ((p ++ [x]).length : Int) := by rw [Qaw (by omega) (by omega)]; simp
  have ih := Qsg b h3 i j t (p ++ [x]) (by rw [← h]; simp) n k (by simp at hk; omega)
  rw [QhV, hw]
  exact stT (decT (by simp; omega)) (stO _ hat (stC rfl (stO _ rfl (stO _ rfl (QfW fun _ => ih)))))
theorem QrK (b : Bk) (h2 : b.segs.length ≤ 60) (h3 : b.svs.length ≤ 60) (n : Nat) (hn : 100 ≤ n) (i : Int) : ∀ (t p : List Sg), p ++ t = b.segs → ∀ k, t.length < k → Qgd lb n k b.loc b.pn (b.ps.map peE) b.grp b.bn (b.segs.map sgE) b.rn (b.svs.map svE) b.lim i (p.length : Int) = some (.bool (t.all sgS && b.svs.all svS))
 | [], p, h, k, hk => by
  obtain ⟨k, rfl⟩ : ∃ j, k = j + 1 := ⟨k - 1, by simp at hk; omega⟩
  have hp : p = b.segs := by simpa using h
  rw [Qh2]
  refine stF (decF (by simp [hp])) ?_
  rw [QoV]
  exact Qsg lb b h3 i _ b.svs [] rfl n n (by omega)
 | x :: t, p, h, k, hk => by
  obtain ⟨k, rfl⟩ : ∃ j, k = j + 1 := ⟨k - 1, by simp at hk; omega⟩
  have hpl : p.length + (t.length + 1) = b.segs.length := by rw [← h]; simp
  have hat : atL (b.segs.map sgE) (p.length : Int) = some (sgE x) := Qbh (by rw [List.getElem?_map, ← h]; simp)
  have hw : IntKind.wrap .i64 ((p.length : Int) + 1) = ((p ++ [x]).length : Int) := by rw [Qaw (by omega) (by omega)]; simp
  have ih := QrK b h2 h3 n hn i t (p ++ [x]) (by rw [← h]; simp) k (by simp at hk; omega)
  rw [Qh2, hw]
  have e : ((x :: t).all sgS && b.svs.all svS) = (Qcr x.car && (Qcr x.fr && (Qcr x.to && (Qcr x.cls && (t.all sgS && b.svs.all svS))))) := by simp [sgS, Bool.and_assoc]
  rw [e]
  exact stT (decT (by simp; omega)) (stO _ hat (stC rfl (stO _ rfl (stO _ rfl (stO _ rfl (stO _ rfl (stO _ rfl (stO _ rfl (stO _ rfl (stO _ rfl (QfW fun _ => (stO _ rfl (QfW fun _ => (stO _ rfl (QfW fun _ => (stO _ hat (stC rfl (stO _ rfl (stO _ rfl (QfW fun _ => (ih)))))))))))))))))))))
theorem QrE (b : Bk) (h1 : b.ps.length ≤ 60) (h2 : b.segs.length ≤ 60) (h3 : b.svs.length ≤ 60) (n : Nat) (hn : 100 ≤ n) : ∀ (t p : List Pe), p ++ t = b.ps → ∀ k, t.length < k → Qf7 lb n k b.loc b.pn (b.ps.map peE) b.grp b.bn (b.segs.map sgE) b.rn (b.svs.map svE) b.lim (p.length : Int) = some (.bool (t.all peS && (b.segs.all sgS && b.svs.all svS)))
 | [], p, h, k, hk => by
  obtain ⟨k, rfl⟩ : ∃ j, k = j + 1 := ⟨k - 1, by simp at hk; omega⟩
  have hp : p = b.ps := by simpa using h
  rw [Qh3]
  refine stF (decF (by simp [hp])) ?_
  rw [Qoz]
  exact QrK lb b h2 h3 n hn _ b.segs [] rfl n (by omega)
 | x :: t, p, h, k, hk => by
  obtain ⟨k, rfl⟩ : ∃ j, k = j + 1 := ⟨k - 1, by simp at hk; omega⟩
  have hpl : p.length + (t.length + 1) = b.ps.length := by rw [← h]; simp
  have hat : atL (b.ps.map peE) (p.length : Int) = some (peE x) := Qbh (by rw [List.getElem?_map, ← h]; simp)
  have hw : IntKind.wrap .i64 ((p.length : Int) + 1) = ((p ++ [x]).length : Int) := by rw [Qaw (by omega) (by omega)]; simp
  have ih := QrE b h1 h2 h3 n hn t (p ++ [x]) (by rw [← h]; simp) k (by simp at hk; omega)
  rw [Qh3, hw]
  have e : ((x :: t).all peS && (b.segs.all sgS && b.svs.all svS)) = (Qcr x.la && (Qcr x.fi && (Qcr x.ty && (t.all peS && (b.segs.all sgS && b.svs.all svS))))) := by simp [peS, Bool.and_assoc]
  rw [e]
  exact stT (decT (by simp; omega)) (stO _ hat (stC rfl (stO _ rfl (stO _ rfl (QfW fun _ => (stO _ hat (stC rfl (stO _ rfl (stO _ rfl (QfW fun _ => (stO _ hat (stC rfl (stO _ rfl (stO _ rfl (QfW fun _ => (ih))))))))))))))))
theorem QuW (b : Bk) : Ret lb QaD [.agg (bkE b)] (.bool (Ql5 b)) := by
 refine .top rfl ((Evt.ge 100).mono fun n hn => ?_)
 rw [show top lb n QaD [.agg (bkE b)] = _ from QsN lb n b.loc b.pn (b.ps.map peE) b.grp b.bn (b.segs.map sgE) b.rn (b.svs.map svE) b.lim]
 unfold Ql5
 by_cases h1 : b.ps.length ≤ 60
 ·refine stF (decF (by simp; omega)) ?_
  rw [decT h1]
  by_cases h2 : b.segs.length ≤ 60
  ·refine stF (decF (by simp; omega)) ?_
   rw [decT h2]
   by_cases h3 : b.svs.length ≤ 60
   ·refine stF (decF (by simp; omega)) ?_
    rw [decT h3]
    by_cases h4 : b.loc.length ≤ 100
    ·refine stF (decF (by omega)) ?_
     rw [decT h4]
     exact (QrE lb b h1 h2 h3 n hn b.ps [] rfl n (by omega)).trans (by simp)
    ·refine stT (decT (by omega)) ?_
     rw [decF h4]; rfl
   ·refine stT (decT (by simp; omega)) ?_
    rw [decF h3]; rfl
  ·refine stT (decT (by simp; omega)) ?_
   rw [decF h2]; rfl
 ·refine stT (decT (by simp; omega)) ?_
  rw [decF h1]; rfl
structure SmallOk (b : Bk) : Prop where
 ps : b.ps.length ≤ 60
 segs : b.segs.length ≤ 60
 svs : b.svs.length ≤ 60
 loc : b.loc.length ≤ 100
 pe : ∀ p ∈ b.ps, p.la.length ≤ 100 ∧ p.fi.length ≤ 100 ∧ p.ty.length ≤ 100
 sg : ∀ s ∈ b.segs, s.car.length ≤ 100 ∧ s.fr.length ≤ 100 ∧ s.to.length ≤ 100 ∧ s.cls.length ≤ 100
 sv : ∀ x ∈ b.svs, x.cd.length ≤ 100
theorem QeN {s : Bs} (h : Qcr s = true) : s.length ≤ 100 := by
 simp [Qcr] at h; omega
theorem Qwi {b : Bk} (h : Ql5 b = true) : SmallOk b := by
 simp only [Ql5, Bool.and_eq_true, decide_eq_true_eq, List.all_eq_true] at h
 obtain ⟨h1, h2, h3, h4, h5, h6, h7⟩ := h
 refine ⟨h1, h2, h3, h4, fun p hp => ?_, fun s hs => ?_, fun x hx => QeN (h7 x hx)⟩
 ·have := h5 p hp
  simp only [peS, Bool.and_eq_true] at this
  exact ⟨QeN this.1, QeN this.2.1, QeN this.2.2⟩
 ·have := h6 s hs
  simp only [sgS, Bool.and_eq_true] at this
  exact ⟨QeN this.1, QeN this.2.1, QeN this.2.2.1, QeN this.2.2.2⟩
end Go.Proofs
