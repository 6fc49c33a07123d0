/- Chapter 35: bookings compared, small bookings, seats, on plain data. Conditions: as each says. -/
import Derived.Test.YtigmcfhmpcajlaaGreatDoorBC
import Derived.Test.YtigmcfhmpcajlaaGreatDoorGs
set_option linter.unusedSimpArgs false
set_option linter.unusedVariables false
namespace Go.Proofs
open Go.Am
variable (lb : Nat)
structure Bk where
 loc : Bs
 pn : Bool
 ps : List Pe
 grp : Int
 bn : Bool
 segs : List Sg
 rn : Bool
 svs : List Sv
 lim : Int
def bkE (b : Bk) : List CV := [.str b.loc, .list b.pn (b.ps.map peE), .int .i64 b.grp, .list b.bn (b.segs.map sgE), .list b.rn (b.svs.map svE), .int .i64 b.lim]
def peq (p q : Pe) : Bool := (p.la == q.la) && ((p.fi == q.fi) && ((p.ty == q.ty) && true))
def svq (p q : Sv) : Bool := (p.cd == q.cd) && ((p.pe == q.pe) && ((p.sg == q.sg) && true))
def sgq (p q : Sg) : Bool := (p.car == q.car) && ((p.num == q.num) && ((p.day == q.day) && ((p.fr == q.fr) && ((p.to == q.to) && ((p.dep == q.dep) && ((p.arr == q.arr) && ((p.cls == q.cls) && ((p.st == q.st) && ((p.mar == q.mar) && true)))))))))
def QaD {α : Type} (q : α → α → Bool) : List α → List α → Bool
 | [], [] => true
 | x :: a, y :: b => q x y && QaD q a b
 | _, _ => false
theorem QcN {α : Type} (q : α → α → Bool) : ∀ (l m : List α), l.length ≠ m.length → QaD q l m = false
 | [], [], h => absurd rfl h
 | [], _ :: _, _ => rfl
 | _ :: _, [], _ => rfl
 | x :: a, y :: b, h => by
  have := QcN q a b (by simpa using h)
  simp only [QaD, this, Bool.and_false]
theorem QeB {α : Type} {q : α → α → Bool} (h : ∀ x, q x x = true) : ∀ l : List α, QaD q l l = true
 | [] => rfl
 | x :: a => by simp only [QaD, h x, QeB h a, Bool.and_self]
theorem QnG (p : Pe) : peq p p = true := by simp [peq]
theorem Qn3 (p : Sv) : svq p p = true := by simp [svq]
theorem QnU (p : Sg) : sgq p p = true := by simp [sgq]
def QhC (a b : Bk) : Bool := (a.loc == b.loc) && ((a.grp == b.grp) && ((a.lim == b.lim) && (QaD peq a.ps b.ps && (QaD sgq a.segs b.segs && QaD svq a.svs b.svs))))
theorem Qm7 (a : Bk) : QhC a a = true := by
 simp [QhC, QeB QnG, QeB QnU, QeB Qn3]
theorem QhV (bn cn : Bool) (l m : List Pe) (hl : l.length ≤ 1000000) : ∀ (t u p q : List Pe), p ++ t = l → q ++ u = m → p.length = q.length → t.length = u.length → ∀ n k, t.length < k → slices_Equal_api_Person_L1 lb n k bn (l.map peE) cn (m.map peE) (p.length : Int) = some (.bool (QaD peq t u))
 | [], u, p, q, hp, hq, hpq, htu, n, k, hk => by
  obtain ⟨k, rfl⟩ : ∃ j, k = j + 1 := ⟨k - 1, by simp at hk; omega⟩
  have hu : u = [] := List.eq_nil_of_length_eq_zero (by simpa using htu.symm)
  subst hu
  have : p = l := by simpa using hp
  rw [Qb2]
  refine stF (decF (by simp [this])) ?_
  rw [QdF]; rfl
 | x :: t, [], p, q, hp, hq, hpq, htu, n, k, hk => by simp at htu
 | x :: t, y :: u, p, q, hp, hq, hpq, htu, n, k, hk => by
  obtain ⟨k, rfl⟩ : ∃ j, k = j + 1 := ⟨k - 1, by simp at hk; omega⟩
  have hpl : p.length + (t.length + 1) = l.length := by rw [← hp]; simp
  have h1 : atL (l.map peE) (p.length : Int) = some (peE x) := QbB (by rw [List.getElem?_map, ← hp]; simp)
  have h2 : atL (m.map peE) (p.length : Int) = some (peE y) := by rw [hpq]; exact QbB (by rw [List.getElem?_map, ← hq]; simp)
  have hw : IntKind.wrap .i64 ((p.length : Int) + 1) = ((p ++ [x]).length : Int) := by rw [Qbj (by omega) (by omega)]; simp
  have ih := QhV bn cn l m hl t u (p ++ [x]) (q ++ [y]) (by rw [← hp]; simp) (by rw [← hq]; simp) (by simp [hpq]) (by simpa using htu) n k (by simp at hk; omega)
  rw [Qb2]
  refine stT (decT (by simp; omega)) (stO _ h1 (stC rfl (stO _ rfl (stO _ rfl (stO _ rfl (stO _ h2 (stC rfl (stO _ rfl (stO _ rfl (stO _ rfl (stO _ rfl (stO _ rfl (stO _ rfl (stO _ rfl (stO _ rfl (stO _ rfl (?_)))))))))))))))))
  rw [hw]
  cases hxy : peq x y with
  | true => exact stF (show (!(peq x y)) = false by rw [hxy]; rfl) (ih.trans (by simp [QaD, hxy]))
  | false => exact stT (show (!(peq x y)) = true by rw [hxy]; rfl) (by simp [QaD, hxy])
theorem QkY (bn cn : Bool) (l m : List Pe) (hl : l.length ≤ 1000000) : Ret lb Qar [.list bn (l.map peE), .list cn (m.map peE)] (.bool (QaD peq l m)) := by
 by_cases h : l.length = m.length
 ·refine .top rfl ((Evt.ge (l.length + 1)).mono fun n hn => ?_)
  rw [Qcv]
  exact stF (bneF (by simp [h])) (QhV lb bn cn l m hl l m [] [] rfl rfl rfl h n n (by omega))
 ·refine .top rfl (.all fun n => ?_)
  rw [Qcv, QcN _ _ _ h]
  exact stT (bneT (by simp; omega)) rfl
theorem Qif (bn cn : Bool) (l m : List Sg) (hl : l.length ≤ 1000000) : ∀ (t u p q : List Sg), p ++ t = l → q ++ u = m → p.length = q.length → t.length = u.length → ∀ n k, t.length < k → Qa9 lb n k bn (l.map sgE) cn (m.map sgE) (p.length : Int) = some (.bool (QaD sgq t u))
 | [], u, p, q, hp, hq, hpq, htu, n, k, hk => by
  obtain ⟨k, rfl⟩ : ∃ j, k = j + 1 := ⟨k - 1, by simp at hk; omega⟩
  have hu : u = [] := List.eq_nil_of_length_eq_zero (by simpa using htu.symm)
  subst hu
  have : p = l := by simpa using hp
  rw [Qb4]
  refine stF (decF (by simp [this])) ?_
  rw [QdH]; rfl
 | x :: t, [], p, q, hp, hq, hpq, htu, n, k, hk => by simp at htu
 | x :: t, y :: u, p, q, hp, hq, hpq, htu, n, k, hk => by
  obtain ⟨k, rfl⟩ : ∃ j, k = j + 1 := ⟨k - 1, by simp at hk; omega⟩
  have hpl : p.length + (t.length + 1) = l.length := by rw [← hp]; simp
  have h1 : atL (l.map sgE) (p.length : Int) = some (sgE x) := QbB (by rw [List.getElem?_map, ← hp]; simp)
  have h2 : atL (m.map sgE) (p.length : Int) = some (sgE y) := by rw [hpq]; exact QbB (by rw [List.getElem?_map, ← hq]; simp)
  have hw : IntKind.wrap .i64 ((p.length : Int) + 1) = ((p ++ [x]).length : Int) := by rw [Qbj (by omega) (by omega)]; simp
  have ih := Qif bn cn l m hl t u (p ++ [x]) (q ++ [y]) (by rw [← hp]; simp) (by rw [← hq]; simp) (by simp [hpq]) (by simpa using htu) n k (by simp at hk; omega)
  rw [Qb4]
  refine stT (decT (by simp; omega)) (stO _ h1 (stC rfl (stO _ rfl (stO _ rfl (stO _ rfl (stO _ rfl (stO _ rfl (stO _ rfl (stO _ rfl (stO _ rfl (stO _ rfl (stO _ rfl (stO _ h2 (stC rfl (stO _ rfl (stO _ rfl (stO _ rfl (stO _ rfl (stO _ rfl (stO _ rfl (stO _ rfl (stO _ rfl (stO _ rfl (stO _ rfl (stO _ rfl (stO _ rfl (stO _ (QaA ..) (stO _ (QaA ..) (stO _ (QaA ..) (stO _ (QaA ..) (stO _ rfl (stO _ rfl (stO _ rfl (stO _ rfl (stO _ (QaA ..) (stO _ (QaA ..) (stO _ (QaA ..) (stO _ (QaA ..) (stO _ rfl (stO _ rfl (stO _ (QaA ..) (stO _ (QaA ..) (stO _ (QaA ..) (stO _ (QaA ..) (?_)))))))))))))))))))))))))))))))))))))))))))))
  rw [hw]
  cases hxy : sgq x y with
  | true => exact stF (show (!(sgq x y)) = false by rw [hxy]; rfl) (ih.trans (by simp [QaD, hxy]))
  | false => exact stT (show (!(sgq x y)) = true by rw [hxy]; rfl) (by simp [QaD, hxy])
theorem QlJ (bn cn : Bool) (l m : List Sg) (hl : l.length ≤ 1000000) : Ret lb Qas [.list bn (l.map sgE), .list cn (m.map sgE)] (.bool (QaD sgq l m)) := by
 by_cases h : l.length = m.length
 ·refine .top rfl ((Evt.ge (l.length + 1)).mono fun n hn => ?_)
  rw [Qcu]
  exact stF (bneF (by simp [h])) (Qif lb bn cn l m hl l m [] [] rfl rfl rfl h n n (by omega))
 ·refine .top rfl (.all fun n => ?_)
  rw [Qcu, QcN _ _ _ h]
  exact stT (bneT (by simp; omega)) rfl
theorem Qhr (bn cn : Bool) (l m : List Sv) (hl : l.length ≤ 1000000) : ∀ (t u p q : List Sv), p ++ t = l → q ++ u = m → p.length = q.length → t.length = u.length → ∀ n k, t.length < k → Qa7 lb n k bn (l.map svE) cn (m.map svE) (p.length : Int) = some (.bool (QaD svq t u))
 | [], u, p, q, hp, hq, hpq, htu, n, k, hk => by
  obtain ⟨k, rfl⟩ : ∃ j, k = j + 1 := ⟨k - 1, by simp at hk; omega⟩
  have hu : u = [] := List.eq_nil_of_length_eq_zero (by simpa using htu.symm)
  subst hu
  have : p = l := by simpa using hp
  rw [QbY]
  refine stF (decF (by simp [this])) ?_
  rw [Qdy]; rfl
 | x :: t, [], p, q, hp, hq, hpq, htu, n, k, hk => by simp at htu
 | x :: t, y :: u, p, q, hp, hq, hpq, htu, n, k, hk => by
  obtain ⟨k, rfl⟩ : ∃ j, k = j + 1 := ⟨k - 1, by simp at hk; omega⟩
  have hpl : p.length + (t.length + 1) = l.length := by rw [← hp]; simp
  have h1 : atL (l.map svE) (p.length : Int) = some (svE x) := QbB (by rw [List.getElem?_map, ← hp]; simp)
  have h2 : atL (m.map svE) (p.length : Int) = some (svE y) := by rw [hpq]; exact QbB (by rw [List.getElem?_map, ← hq]; simp)
  have hw : IntKind.wrap .i64 ((p.length : Int) + 1) = ((p ++ [x]).length : Int) := by rw [Qbj (by omega) (by omega)]; simp
  have ih := Qhr bn cn l m hl t u (p ++ [x]) (q ++ [y]) (by rw [← hp]; simp) (by rw [← hq]; simp) (by simp [hpq]) (by simpa using htu) n k (by simp at hk; omega)
  rw [QbY]
  refine stT (decT (by simp; omega)) (stO _ h1 (stC rfl (stO _ rfl (stO _ rfl (stO _ rfl (stO _ h2 (stC rfl (stO _ rfl (stO _ rfl (stO _ rfl (stO _ rfl (stO _ rfl (stO _ (QaA ..) (stO _ (QaA ..) (stO _ (QaA ..) (stO _ (QaA ..) (?_)))))))))))))))))
  rw [hw]
  cases hxy : svq x y with
  | true => exact stF (show (!(svq x y)) = false by rw [hxy]; rfl) (ih.trans (by simp [QaD, hxy]))
  | false => exact stT (show (!(svq x y)) = true by rw [hxy]; rfl) (by simp [QaD, hxy])
theorem Qku (bn cn : Bool) (l m : List Sv) (hl : l.length ≤ 1000000) : Ret lb Qam [.list bn (l.map svE), .list cn (m.map svE)] (.bool (QaD svq l m)) := by
 by_cases h : l.length = m.length
 ·refine .top rfl ((Evt.ge (l.length + 1)).mono fun n hn => ?_)
  rw [Qcl]
  exact stF (bneF (by simp [h])) (Qhr lb bn cn l m hl l m [] [] rfl rfl rfl h n n (by omega))
 ·refine .top rfl (.all fun n => ?_)
  rw [Qcl, QcN _ _ _ h]
  exact stT (bneT (by simp; omega)) rfl
theorem Qe0 (a b : Bk) (h1 : a.ps.length ≤ 1000000) (h2 : a.segs.length ≤ 1000000) (h3 : a.svs.length ≤ 1000000) : Ret lb Qbh [.agg (bkE a), .agg (bkE b)] (.bool (QhC a b)) := by
 refine .top rfl (Evt.imp2 (Evt.imp2 (QkY lb a.pn b.pn a.ps b.ps h1) (QlJ lb a.bn b.bn a.segs b.segs h2) fun n x y => And.intro x y) (Qku lb a.rn b.rn a.svs b.svs h3) fun n ⟨e1, e2⟩ e3 => ?_)
 rw [show top lb n Qbh [.agg (bkE a), .agg (bkE b)] = _ from QiM lb n a.loc a.pn (a.ps.map peE) a.grp a.bn (a.segs.map sgE) a.rn (a.svs.map svE) a.lim b.loc b.pn (b.ps.map peE) b.grp b.bn (b.segs.map sgE) b.rn (b.svs.map svE) b.lim]
 unfold QhC
 cases a.loc == b.loc with
 | false => exact stF rfl rfl
 | true =>
  refine stT rfl ?_
  cases a.grp == b.grp with
  | false => exact stF rfl rfl
  | true =>
   refine stT rfl ?_
   cases a.lim == b.lim with
   | false => exact stF rfl rfl
   | true =>
    refine stT rfl (stO _ e1 (stO _ (Qb1 _) ?_))
    cases QaD peq a.ps b.ps with
    | false => exact stF rfl rfl
    | true =>
     refine stT rfl (stO _ e2 (stO _ (Qb1 _) ?_))
     cases QaD sgq a.segs b.segs with
     | false => exact stF rfl rfl
     | true => exact stT rfl (stO _ e3 rfl)
theorem Qmp (a b : Bk) (h1 : a.ps.length ≤ 1000000) (h2 : a.segs.length ≤ 1000000) (h3 : a.svs.length ≤ 1000000) (e1 : a.ps.length = b.ps.length) (e2 : a.segs.length = b.segs.length) (e3 : a.svs.length = b.svs.length) (n : Nat) (hn : a.ps.length + a.segs.length + a.svs.length < n) (wn wz : Int) : ∀ (t u p q : List Sv), p ++ t = a.svs → q ++ u = b.svs → p.length = q.length → t.length = u.length → ∀ k, t.length < k → Qd8 lb n k a.loc a.pn (a.ps.map peE) a.grp a.bn (a.segs.map sgE) a.rn (a.svs.map svE) a.lim b.loc b.pn (b.ps.map peE) b.grp b.bn (b.segs.map sgE) b.rn (b.svs.map svE) b.lim wn wz (p.length : Int) = some (.bool (QaD svq t u && true))
 | [], u, p, q, hp, hq, hpq, htu, k, hk => by
  obtain ⟨k, rfl⟩ : ∃ j, k = j + 1 := ⟨k - 1, by simp at hk; omega⟩
  have hu : u = [] := List.eq_nil_of_length_eq_zero (by simpa using htu.symm)
  subst hu
  have : p = a.svs := by simpa using hp
  rw [QeK]
  refine stF (decF (by simp [this])) ?_
  show _ = some (CV.bool (true))
  rw [QjH]
 | x :: t, [], p, q, hp, hq, hpq, htu, k, hk => by simp at htu
 | x :: t, y :: u, p, q, hp, hq, hpq, htu, k, hk => by
  obtain ⟨k, rfl⟩ : ∃ j, k = j + 1 := ⟨k - 1, by simp at hk; omega⟩
  have hpl : p.length + (t.length + 1) = a.svs.length := by rw [← hp]; simp
  have h1' : atL (a.svs.map svE) (p.length : Int) = some (svE x) := QbB (by rw [List.getElem?_map, ← hp]; simp)
  have h2' : atL (b.svs.map svE) (p.length : Int) = some (svE y) := by rw [hpq]; exact QbB (by rw [List.getElem?_map, ← hq]; simp)
  have hw : IntKind.wrap .i64 ((p.length : Int) + 1) = ((p ++ [x]).length : Int) := by rw [Qbj (by omega) (by omega)]; simp
  have ih := Qmp a b h1 h2 h3 e1 e2 e3 n hn wn wz t u (p ++ [x]) (q ++ [y]) (by rw [← hp]; simp) (by rw [← hq]; simp) (by simp [hpq]) (by simpa using htu) k (by simp at hk; omega)
  rw [QeK]
  refine stT (decT (by simp; omega)) (stO _ h1' (stC rfl (stO _ rfl (stO _ rfl (stO _ rfl (stO _ h2' (stC rfl (stO _ rfl (stO _ rfl (stO _ rfl (stO _ rfl (stO _ rfl (stO _ (QaA ..) (stO _ (QaA ..) (stO _ (QaA ..) (stO _ (QaA ..) (?_)))))))))))))))))
  rw [hw]
  cases hxy : svq x y with
  | true => exact stF (show (!(svq x y)) = false by rw [hxy]; rfl) (ih.trans (by simp [QaD, hxy]))
  | false => exact stT (show (!(svq x y)) = true by rw [hxy]; rfl) (by simp [QaD, hxy])
theorem Qmf (a b : Bk) (h1 : a.ps.length ≤ 1000000) (h2 : a.segs.length ≤ 1000000) (h3 : a.svs.length ≤ 1000000) (e1 : a.ps.length = b.ps.length) (e2 : a.segs.length = b.segs.length) (e3 : a.svs.length = b.svs.length) (n : Nat) (hn : a.ps.length + a.segs.length + a.svs.length < n) (wn : Int) : ∀ (t u p q : List Sg), p ++ t = a.segs → q ++ u = b.segs → p.length = q.length → t.length = u.length → ∀ k, t.length < k → Qd3 lb n k a.loc a.pn (a.ps.map peE) a.grp a.bn (a.segs.map sgE) a.rn (a.svs.map svE) a.lim b.loc b.pn (b.ps.map peE) b.grp b.bn (b.segs.map sgE) b.rn (b.svs.map svE) b.lim wn (p.length : Int) = some (.bool (QaD sgq t u && QaD svq a.svs b.svs))
 | [], u, p, q, hp, hq, hpq, htu, k, hk => by
  obtain ⟨k, rfl⟩ : ∃ j, k = j + 1 := ⟨k - 1, by simp at hk; omega⟩
  have hu : u = [] := List.eq_nil_of_length_eq_zero (by simpa using htu.symm)
  subst hu
  have : p = a.segs := by simpa using hp
  rw [QeZ]
  refine stF (decF (by simp [this])) ?_
  show _ = some (CV.bool (QaD svq a.svs b.svs))
  rw [Qjx]
  exact (Qmp lb a b h1 h2 h3 e1 e2 e3 n hn wn _ a.svs b.svs [] [] rfl rfl rfl e3 n (by omega)).trans (by rw [Bool.and_true])
 | x :: t, [], p, q, hp, hq, hpq, htu, k, hk => by simp at htu
 | x :: t, y :: u, p, q, hp, hq, hpq, htu, k, hk => by
  obtain ⟨k, rfl⟩ : ∃ j, k = j + 1 := ⟨k - 1, by simp at hk; omega⟩
  have hpl : p.length + (t.length + 1) = a.segs.length := by rw [← hp]; simp
  have h1' : atL (a.segs.map sgE) (p.length : Int) = some (sgE x) := QbB (by rw [List.getElem?_map, ← hp]; simp)
  have h2' : atL (b.segs.map sgE) (p.length : Int) = some (sgE y) := by rw [hpq]; exact QbB (by rw [List.getElem?_map, ← hq]; simp)
  have hw : IntKind.wrap .i64 ((p.length : Int) + 1) = ((p ++ [x]).length : Int) := by rw [Qbj (by omega) (by omega)]; simp
  have ih := Qmf a b h1 h2 h3 e1 e2 e3 n hn wn t u (p ++ [x]) (q ++ [y]) (by rw [← hp]; simp) (by rw [← hq]; simp) (by simp [hpq]) (by simpa using htu) k (by simp at hk; omega)
  rw [QeZ]
  refine stT (decT (by simp; omega)) (stO _ h1' (stC rfl (stO _ rfl (stO _ rfl (stO _ rfl (stO _ rfl (stO _ rfl (stO _ rfl (stO _ rfl (stO _ rfl (stO _ rfl (stO _ rfl (stO _ h2' (stC rfl (stO _ rfl (stO _ rfl (stO _ rfl (stO _ rfl (stO _ rfl (stO _ rfl (stO _ rfl (stO _ rfl (stO _ rfl (stO _ rfl (stO _ rfl (stO _ rfl (stO _ (QaA ..) (stO _ (QaA ..) (stO _ (QaA ..) (stO _ (QaA ..) (stO _ rfl (stO _ rfl (stO _ rfl (stO _ rfl (stO _ (QaA ..) (stO _ (QaA ..) (stO _ (QaA ..) (stO _ (QaA ..) (stO _ rfl (stO _ rfl (stO _ (QaA ..) (stO _ (QaA ..) (stO _ (QaA ..) (stO _ (QaA ..) (?_)))))))))))))))))))))))))))))))))))))))))))))
  rw [hw]
  cases hxy : sgq x y with
  | true => exact stF (show (!(sgq x y)) = false by rw [hxy]; rfl) (ih.trans (by simp [QaD, hxy]))
  | false => exact stT (show (!(sgq x y)) = true by rw [hxy]; rfl) (by simp [QaD, hxy])
theorem Ql9 (a b : Bk) (h1 : a.ps.length ≤ 1000000) (h2 : a.segs.length ≤ 1000000) (h3 : a.svs.length ≤ 1000000) (e1 : a.ps.length = b.ps.length) (e2 : a.segs.length = b.segs.length) (e3 : a.svs.length = b.svs.length) (n : Nat) (hn : a.ps.length + a.segs.length + a.svs.length < n)  : ∀ (t u p q : List Pe), p ++ t = a.ps → q ++ u = b.ps → p.length = q.length → t.length = u.length → ∀ k, t.length < k → Qd1 lb n k a.loc a.pn (a.ps.map peE) a.grp a.bn (a.segs.map sgE) a.rn (a.svs.map svE) a.lim b.loc b.pn (b.ps.map peE) b.grp b.bn (b.segs.map sgE) b.rn (b.svs.map svE) b.lim  (p.length : Int) = some (.bool (QaD peq t u && (QaD sgq a.segs b.segs && QaD svq a.svs b.svs)))
 | [], u, p, q, hp, hq, hpq, htu, k, hk => by
  obtain ⟨k, rfl⟩ : ∃ j, k = j + 1 := ⟨k - 1, by simp at hk; omega⟩
  have hu : u = [] := List.eq_nil_of_length_eq_zero (by simpa using htu.symm)
  subst hu
  have : p = a.ps := by simpa using hp
  rw [Qe5]
  refine stF (decF (by simp [this])) ?_
  show _ = some (CV.bool ((QaD sgq a.segs b.segs && QaD svq a.svs b.svs)))
  rw [QjB]
  exact Qmf lb a b h1 h2 h3 e1 e2 e3 n hn _ a.segs b.segs [] [] rfl rfl rfl e2 n (by omega)
 | x :: t, [], p, q, hp, hq, hpq, htu, k, hk => by simp at htu
 | x :: t, y :: u, p, q, hp, hq, hpq, htu, k, hk => by
  obtain ⟨k, rfl⟩ : ∃ j, k = j + 1 := ⟨k - 1, by simp at hk; omega⟩
  have hpl : p.length + (t.length + 1) = a.ps.length := by rw [← hp]; simp
  have h1' : atL (a.ps.map peE) (p.length : Int) = some (peE x) := QbB (by rw [List.getElem?_map, ← hp]; simp)
  have h2' : atL (b.ps.map peE) (p.length : Int) = some (peE y) := by rw [hpq]; exact QbB (by rw [List.getElem?_map, ← hq]; simp)
  have hw : IntKind.wrap .i64 ((p.length : Int) + 1) = ((p ++ [x]).length : Int) := by rw [Qbj (by omega) (by omega)]; simp
  have ih := Ql9 a b h1 h2 h3 e1 e2 e3 n hn  t u (p ++ [x]) (q ++ [y]) (by rw [← hp]; simp) (by rw [← hq]; simp) (by simp [hpq]) (by simpa using htu) k (by simp at hk; omega)
  rw [Qe5]
  refine stT (decT (by simp; omega)) (stO _ h1' (stC rfl (stO _ rfl (stO _ rfl (stO _ rfl (stO _ h2' (stC rfl (stO _ rfl (stO _ rfl (stO _ rfl (stO _ rfl (stO _ rfl (stO _ rfl (stO _ rfl (stO _ rfl (stO _ rfl (?_)))))))))))))))))
  rw [hw]
  cases hxy : peq x y with
  | true => exact stF (show (!(peq x y)) = false by rw [hxy]; rfl) (ih.trans (by simp [QaD, hxy]))
  | false => exact stT (show (!(peq x y)) = true by rw [hxy]; rfl) (by simp [QaD, hxy])
theorem QlA (a b : Bk) (h1 : a.ps.length ≤ 1000000) (h2 : a.segs.length ≤ 1000000) (h3 : a.svs.length ≤ 1000000) : Ret lb Qat [.agg (bkE a), .agg (bkE b)] (.bool (QhC a b)) := by
 refine .top rfl ((Evt.ge (a.ps.length + a.segs.length + a.svs.length + 1)).mono fun n hn => ?_)
 rw [show top lb n Qat [.agg (bkE a), .agg (bkE b)] = _ from QlN lb n a.loc a.pn (a.ps.map peE) a.grp a.bn (a.segs.map sgE) a.rn (a.svs.map svE) a.lim b.loc b.pn (b.ps.map peE) b.grp b.bn (b.segs.map sgE) b.rn (b.svs.map svE) b.lim]
 unfold QhC
 cases a.loc == b.loc with
 | false => exact stT rfl rfl
 | true =>
  refine stF rfl ?_
  by_cases hg : a.grp = b.grp
  ·refine stF (bneF hg) ?_
   rw [beqT hg]
   by_cases hm : a.lim = b.lim
   ·refine stF (bneF hm) ?_
    rw [beqT hm]
    by_cases e1 : a.ps.length = b.ps.length
    ·refine stF (bneF (by simp [e1])) ?_
     by_cases e2 : a.segs.length = b.segs.length
     ·refine stF (bneF (by simp [e2])) ?_
      by_cases e3 : a.svs.length = b.svs.length
      ·refine stF (bneF (by simp [e3])) ?_
       exact (Ql9 lb a b h1 h2 h3 e1 e2 e3 n (by omega) a.ps b.ps [] [] rfl rfl rfl e1 n (by omega)).trans (by simp)
      ·refine stT (bneT (by simp; omega)) ?_
       rw [QcN svq _ _ e3]; simp
     ·refine stT (bneT (by simp; omega)) ?_
      rw [QcN sgq _ _ e2]; simp
    ·refine stT (bneT (by simp; omega)) ?_
     rw [QcN peq _ _ e1]; simp
   ·rw [beqF hm]
    exact stT (bneT hm) rfl
  ·rw [beqF hg]
   exact stT (bneT hg) rfl
def Qdr (n : Int) : List Pe → Int
 | [] => n
 | p :: t => Qdr (n + (bif infB p then 0 else 1)) t
def grp0 (g : Int) : Int := if 99 < (if 0 > g then 0 else g) then 99 else (if 0 > g then 0 else g)
theorem QhD (g : Int) : 0 ≤ grp0 g ∧ grp0 g ≤ 99 := by
 unfold grp0
 split <;> split <;> omega
theorem Qfl (bn : Bool) (l : List Pe) (g : Int) (hl : l.length ≤ 1000000) : ∀ (t u : List Pe) (m : Int), u ++ t = l → 0 ≤ m → m ≤ 99 + (u.length : Int) → Evt fun n => ∀ k, t.length < k → Qcj lb n k bn (l.map peE) g m (u.length : Int) = some (.int .i64 (Qdr m t))
 | [], u, m, h, _, _ => .all fun n k hk => by
  obtain ⟨k, rfl⟩ : ∃ j, k = j + 1 := ⟨k - 1, by simp at hk; omega⟩
  have hu : u = l := by simpa using h
  rw [QdI, hu]
  refine stF (decF (by simp)) ?_
  rw [QhO]; rfl
 | p :: t, u, m, h, m0, m1 => by
  have hul : u.length + (t.length + 1) = l.length := by rw [← h]; simp
  have hw : IntKind.wrap .i64 ((u.length : Int) + 1) = ((u ++ [p]).length : Int) := by rw [Qbj (by omega) (by omega)]; simp
  have hat : atL (l.map peE) (u.length : Int) = some (peE p) := QbB (by rw [List.getElem?_map, ← h]; simp)
  have w1 : IntKind.wrap .i64 (m + 1) = m + 1 := Qbj (by omega) (by omega)
  refine Evt.imp2 (QmB lb p) (Qfl bn l g hl t (u ++ [p]) (m + (bif infB p then 0 else 1)) (by rw [← h]; simp) (by cases infB p <;> simp <;> omega) (by cases infB p <;> simp <;> omega)) fun n h1 hi k hk => ?_
  obtain ⟨k, rfl⟩ : ∃ j, k = j + 1 := ⟨k - 1, by simp at hk; omega⟩
  have hi := hi k (by simp at hk; omega)
  rw [QdI]
  unfold Qdr
  refine stT (decT (by simp; omega)) (stO _ hat (stC rfl (stO _ rfl (stO _ rfl (stO _ rfl (stO _ h1 (stO _ (Qb1 _) ?_)))))))
  cases hI : infB p with
  | true =>
   rw [hI] at hi
   refine stF rfl ?_
   rw [hw]
   simpa using hi
  | false =>
   rw [hI] at hi
   refine stT rfl ?_
   rw [w1, hw]
   simpa using hi
theorem QhM (b : Bk) (hl : b.ps.length ≤ 1000000) : Ret lb Qbs [.agg (bkE b)] (.int .i64 (Qdr (grp0 b.grp) b.ps)) := by
 have h : Ret lb QaN [.list b.pn (b.ps.map peE), .int .i64 b.grp] (.int .i64 (Qdr (grp0 b.grp) b.ps)) :=
  .top rfl ((Evt.diag (Qfl lb b.pn b.ps b.grp hl b.ps [] (grp0 b.grp) rfl (QhD _).1 (by have := (QhD b.grp).2; simp; omega))).mono fun n h => by rw [QjA]; exact h)
 exact .top rfl (h.mono fun n h => by
  rw [show top lb n Qbs [.agg (bkE b)] = _ from Qit lb n b.loc b.pn (b.ps.map peE) b.grp b.bn (b.segs.map sgE) b.rn (b.svs.map svE) b.lim]
  exact stO _ h rfl)
theorem QgG (bn : Bool) (l : List Pe) (g : Int) (hl : l.length ≤ 1000000) : ∀ (t u : List Pe) (m : Int), u ++ t = l → 0 ≤ m → m ≤ 99 + (u.length : Int) → ∀ n k, t.length < k → QcP lb n k bn (l.map peE) g m (u.length : Int) = some (.int .i64 (Qdr m t))
 | [], u, m, h, _, _, n, k, hk => by
  obtain ⟨k, rfl⟩ : ∃ j, k = j + 1 := ⟨k - 1, by simp at hk; omega⟩
  have hu : u = l := by simpa using h
  rw [Qev, hu]
  refine stF (decF (by simp)) ?_
  rw [QiH]; rfl
 | p :: t, u, m, h, m0, m1, n, k, hk => by
  obtain ⟨k, rfl⟩ : ∃ j, k = j + 1 := ⟨k - 1, by simp at hk; omega⟩
  have hul : u.length + (t.length + 1) = l.length := by rw [← h]; simp
  have hw : IntKind.wrap .i64 ((u.length : Int) + 1) = ((u ++ [p]).length : Int) := by rw [Qbj (by omega) (by omega)]; simp
  have hat : atL (l.map peE) (u.length : Int) = some (peE p) := QbB (by rw [List.getElem?_map, ← h]; simp)
  have w1 : IntKind.wrap .i64 (m + 1) = m + 1 := Qbj (by omega) (by omega)
  have hi := QgG bn l g hl t (u ++ [p]) (m + (bif infB p then 0 else 1)) (by rw [← h]; simp) (by cases infB p <;> simp <;> omega) (by cases infB p <;> simp <;> omega) n k (by simp at hk; omega)
  rw [Qev]
  unfold Qdr
  refine stT (decT (by simp; omega)) (stO _ hat (stC rfl (stO _ rfl (stO _ rfl ?_))))
  cases hI : infB p with
  | true =>
   rw [hI] at hi
   refine stF (show (!(infB p)) = false by rw [hI]; rfl) ?_
   rw [hw]
   simpa using hi
  | false =>
   rw [hI] at hi
   refine stT (show (!(infB p)) = true by rw [hI]; rfl) ?_
   rw [w1, hw]
   simpa using hi
theorem QkB (b : Bk) (hl : b.ps.length ≤ 1000000) : Ret lb Qd9 [.agg (bkE b)] (.int .i64 (Qdr (grp0 b.grp) b.ps)) := by
 have h : Ret lb Qa4 [.list b.pn (b.ps.map peE), .int .i64 b.grp] (.int .i64 (Qdr (grp0 b.grp) b.ps)) :=
  .top rfl ((Evt.ge (b.ps.length + 1)).mono fun n hn => by rw [Qls]; exact QgG lb b.pn b.ps b.grp hl b.ps [] (grp0 b.grp) rfl (QhD _).1 (by have := (QhD b.grp).2; simp; omega) n n (by omega))
 exact .top rfl (h.mono fun n h => by
  rw [show top lb n Qd9 [.agg (bkE b)] = _ from QkN lb n b.loc b.pn (b.ps.map peE) b.grp b.bn (b.segs.map sgE) b.rn (b.svs.map svE) b.lim]
  exact stO _ h rfl)
def Qby (s : Bs) : Bool := !decide ((s.length : Int) > 100)
def peS (p : Pe) : Bool := Qby p.la && (Qby p.fi && Qby p.ty)
def sgS (s : Sg) : Bool := Qby s.car && (Qby s.fr && (Qby s.to && Qby s.cls))
def svS (x : Sv) : Bool := Qby x.cd
def QfG (b : Bk) : Bool := decide (b.ps.length ≤ 60) && (decide (b.segs.length ≤ 60) && (decide (b.svs.length ≤ 60) && (decide (b.loc.length ≤ 100) && (b.ps.all peS && (b.segs.all sgS && b.svs.all svS)))))
theorem Qdo {s : Bs} {r : Bool} {t : Option CV} (h : Qby s = true → t = some (.bool r)) : (bif decide ((s.length : Int) > 100) then some (.bool false) else t) = some (.bool (Qby s && r)) := by
 cases hs : Qby s with
 | true =>
  have : decide ((s.length : Int) > 100) = false := by simpa [Qby] using hs
  rw [this]
  exact (h hs).trans rfl
 | false =>
  have : decide ((s.length : Int) > 100) = true := by simpa [Qby] using hs
  rw [this]; rfl
theorem QkF (b : Bk) (h3 : b.svs.length ≤ 60) (i j : Int) : ∀ (t p : List Sv), p ++ t = b.svs → ∀ n k, t.length < k → Qdu lb n k b.loc b.pn (b.ps.map peE) b.grp b.bn (b.segs.map sgE) b.rn (b.svs.map svE) b.lim i j (p.length : Int) = some (.bool (t.all svS))
 | [], p, h, n, k, hk => by
  obtain ⟨k, rfl⟩ : ∃ j, k = j + 1 := ⟨k - 1, by simp at hk; omega⟩
  have hp : p = b.svs := by simpa using h
  rw [Qet]
  refine stF (decF (by simp [hp])) ?_
  rw [Qi6]; rfl
 | x :: t, p, h, n, k, hk => by
  obtain ⟨k, rfl⟩ : ∃ j, k = j + 1 := ⟨k - 1, by simp at hk; omega⟩
  have hpl : p.length + (t.length + 1) = b.svs.length := by rw [← h]; simp
  have hat : atL (b.svs.map svE) (p.length : Int) = some (svE x) := QbB (by rw [List.getElem?_map, ← h]; simp)
  have hw : IntKind.wrap .i64 ((p.length : Int) + 1) = ((p ++ [x]).length : Int) := by rw [Qbj (by omega) (by omega)]; simp
  have ih := QkF b h3 i j t (p ++ [x]) (by rw [← h]; simp) n k (by simp at hk; omega)
  rw [Qet, hw]
  exact stT (decT (by simp; omega)) (stO _ hat (stC rfl (stO _ rfl (stO _ rfl (Qdo fun _ => ih)))))
theorem Qlv (b : Bk) (h2 : b.segs.length ≤ 60) (h3 : b.svs.length ≤ 60) (n : Nat) (hn : 100 ≤ n) (i : Int) : ∀ (t p : List Sg), p ++ t = b.segs → ∀ k, t.length < k → Qdz lb n k b.loc b.pn (b.ps.map peE) b.grp b.bn (b.segs.map sgE) b.rn (b.svs.map svE) b.lim i (p.length : Int) = some (.bool (t.all sgS && b.svs.all svS))
 | [], p, h, k, hk => by
  obtain ⟨k, rfl⟩ : ∃ j, k = j + 1 := ⟨k - 1, by simp at hk; omega⟩
  have hp : p = b.segs := by simpa using h
  rw [Qeu]
  refine stF (decF (by simp [hp])) ?_
  rw [QiI]
  exact QkF lb b h3 i _ b.svs [] rfl n n (by omega)
 | x :: t, p, h, k, hk => by
  obtain ⟨k, rfl⟩ : ∃ j, k = j + 1 := ⟨k - 1, by simp at hk; omega⟩
  have hpl : p.length + (t.length + 1) = b.segs.length := by rw [← h]; simp
  have hat : atL (b.segs.map sgE) (p.length : Int) = some (sgE x) := QbB (by rw [List.getElem?_map, ← h]; simp)
  have hw : IntKind.wrap .i64 ((p.length : Int) + 1) = ((p ++ [x]).length : Int) := by rw [Qbj (by omega) (by omega)]; simp
  have ih := Qlv b h2 h3 n hn i t (p ++ [x]) (by rw [← h]; simp) k (by simp at hk; omega)
  rw [Qeu, hw]
  have e : ((x :: t).all sgS && b.svs.all svS) = (Qby x.car && (Qby x.fr && (Qby x.to && (Qby x.cls && (t.all sgS && b.svs.all svS))))) := by simp [sgS, Bool.and_assoc]
  rw [e]
  exact stT (decT (by simp; omega)) (stO _ hat (stC rfl (stO _ rfl (stO _ rfl (stO _ rfl (stO _ rfl (stO _ rfl (stO _ rfl (stO _ rfl (stO _ rfl (Qdo fun _ => (stO _ rfl (Qdo fun _ => (stO _ rfl (Qdo fun _ => (stO _ hat (stC rfl (stO _ rfl (stO _ rfl (Qdo fun _ => (ih)))))))))))))))))))))
theorem Qla (b : Bk) (h1 : b.ps.length ≤ 60) (h2 : b.segs.length ≤ 60) (h3 : b.svs.length ≤ 60) (n : Nat) (hn : 100 ≤ n) : ∀ (t p : List Pe), p ++ t = b.ps → ∀ k, t.length < k → Qdq lb n k b.loc b.pn (b.ps.map peE) b.grp b.bn (b.segs.map sgE) b.rn (b.svs.map svE) b.lim (p.length : Int) = some (.bool (t.all peS && (b.segs.all sgS && b.svs.all svS)))
 | [], p, h, k, hk => by
  obtain ⟨k, rfl⟩ : ∃ j, k = j + 1 := ⟨k - 1, by simp at hk; omega⟩
  have hp : p = b.ps := by simpa using h
  rw [Qes]
  refine stF (decF (by simp [hp])) ?_
  rw [QiW]
  exact Qlv lb b h2 h3 n hn _ b.segs [] rfl n (by omega)
 | x :: t, p, h, k, hk => by
  obtain ⟨k, rfl⟩ : ∃ j, k = j + 1 := ⟨k - 1, by simp at hk; omega⟩
  have hpl : p.length + (t.length + 1) = b.ps.length := by rw [← h]; simp
  have hat : atL (b.ps.map peE) (p.length : Int) = some (peE x) := QbB (by rw [List.getElem?_map, ← h]; simp)
  have hw : IntKind.wrap .i64 ((p.length : Int) + 1) = ((p ++ [x]).length : Int) := by rw [Qbj (by omega) (by omega)]; simp
  have ih := Qla b h1 h2 h3 n hn t (p ++ [x]) (by rw [← h]; simp) k (by simp at hk; omega)
  rw [Qes, hw]
  have e : ((x :: t).all peS && (b.segs.all sgS && b.svs.all svS)) = (Qby x.la && (Qby x.fi && (Qby x.ty && (t.all peS && (b.segs.all sgS && b.svs.all svS))))) := by simp [peS, Bool.and_assoc]
  rw [e]
  exact stT (decT (by simp; omega)) (stO _ hat (stC rfl (stO _ rfl (stO _ rfl (Qdo fun _ => (stO _ hat (stC rfl (stO _ rfl (stO _ rfl (Qdo fun _ => (stO _ hat (stC rfl (stO _ rfl (stO _ rfl (Qdo fun _ => (ih))))))))))))))))
theorem Qj3 (b : Bk) : Ret lb Qai [.agg (bkE b)] (.bool (QfG b)) := by
 refine .top rfl ((Evt.ge 100).mono fun n hn => ?_)
 rw [show top lb n Qai [.agg (bkE b)] = _ from Qlx lb n b.loc b.pn (b.ps.map peE) b.grp b.bn (b.segs.map sgE) b.rn (b.svs.map svE) b.lim]
 unfold QfG
 by_cases h1 : b.ps.length ≤ 60
 ·refine stF (decF (by simp; omega)) ?_
  rw [decT h1]
  by_cases h2 : b.segs.length ≤ 60
  ·refine stF (decF (by simp; omega)) ?_
   rw [decT h2]
   by_cases h3 : b.svs.length ≤ 60
   ·refine stF (decF (by simp; omega)) ?_
    rw [decT h3]
    by_cases h4 : b.loc.length ≤ 100
    ·refine stF (decF (by omega)) ?_
     rw [decT h4]
     exact (Qla lb b h1 h2 h3 n hn b.ps [] rfl n (by omega)).trans (by simp)
    ·refine stT (decT (by omega)) ?_
     rw [decF h4]; rfl
   ·refine stT (decT (by simp; omega)) ?_
    rw [decF h3]; rfl
  ·refine stT (decT (by simp; omega)) ?_
   rw [decF h2]; rfl
 ·refine stT (decT (by simp; omega)) ?_
  rw [decF h1]; rfl
structure SmallOk (b : Bk) : Prop where
 ps : b.ps.length ≤ 60
 segs : b.segs.length ≤ 60
 svs : b.svs.length ≤ 60
 loc : b.loc.length ≤ 100
 pe : ∀ p ∈ b.ps, p.la.length ≤ 100 ∧ p.fi.length ≤ 100 ∧ p.ty.length ≤ 100
 sg : ∀ s ∈ b.segs, s.car.length ≤ 100 ∧ s.fr.length ≤ 100 ∧ s.to.length ≤ 100 ∧ s.cls.length ≤ 100
 sv : ∀ x ∈ b.svs, x.cd.length ≤ 100
theorem QcI {s : Bs} (h : Qby s = true) : s.length ≤ 100 := by
 simp [Qby] at h; omega
theorem QnN {b : Bk} (h : QfG b = true) : SmallOk b := by
 simp only [QfG, Bool.and_eq_true, decide_eq_true_eq, List.all_eq_true] at h
 obtain ⟨h1, h2, h3, h4, h5, h6, h7⟩ := h
 refine ⟨h1, h2, h3, h4, fun p hp => ?_, fun s hs => ?_, fun x hx => QcI (h7 x hx)⟩
 ·have := h5 p hp
  simp only [peS, Bool.and_eq_true] at this
  exact ⟨QcI this.1, QcI this.2.1, QcI this.2.2⟩
 ·have := h6 s hs
  simp only [sgS, Bool.and_eq_true] at this
  exact ⟨QcI this.1, QcI this.2.1, QcI this.2.2.1, QcI this.2.2.2⟩
end Go.Proofs
