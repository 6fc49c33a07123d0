/- Chapter 35: bookings compared, small bookings, seats, on plain data. Conditions: as each says. -/
import Derived.Test.YtigmcfhmpcajlaaGreatDoorBC
import Derived.Test.YtigmcfhmpcajlaaGreatDoorGs
set_option linter.unusedSimpArgs false
set_option linter.unusedVariables false
namespace Go.Proofs
open Go.Am
variable (lb : Nat)
structure Bk where
 loc : Bs
 pn : Bool
 ps : List Pe
 grp : Int
 bn : Bool
 segs : List Sg
 rn : Bool
 svs : List Sv
 lim : Int
def bkE (b : Bk) : List CV := [.str b.loc, .list b.pn (b.ps.map peE), .int .i64 b.grp, .list b.bn (b.segs.map sgE), .list b.rn (b.svs.map svE), .int .i64 b.lim]
def peq (p q : Pe) : Bool := (p.la == q.la) && ((p.fi == q.fi) && ((p.ty == q.ty) && true))
def svq (p q : Sv) : Bool := (p.cd == q.cd) && ((p.pe == q.pe) && ((p.sg == q.sg) && true))
def sgq (p q : Sg) : Bool := (p.car == q.car) && ((p.num == q.num) && ((p.day == q.day) && ((p.fr == q.fr) && ((p.to == q.to) && ((p.dep == q.dep) && ((p.arr == q.arr) && ((p.cls == q.cls) && ((p.st == q.st) && ((p.mar == q.mar) && true)))))))))
def QcK {α : Type} (q : α → α → Bool) : List α → List α → Bool
 | [], [] => true
 | x :: a, y :: b => q x y && QcK q a b
 | _, _ => false
theorem Qj4 {α : Type} (q : α → α → Bool) : ∀ (l m : List α), l.length ≠ m.length → QcK q l m = false
 | [], [], h => absurd rfl h
 | [], _ :: _, _ => rfl
 | _ :: _, [], _ => rfl
 | x :: a, y :: b, h => by
  have := Qj4 q a b (by simpa using h)
  simp only [QcK, this, Bool.and_false]
theorem Qjb {α : Type} {q : α → α → Bool} (h : ∀ x, q x x = true) : ∀ l : List α, QcK q l l = true
 | [] => rfl
 | x :: a => by simp only [QcK, h x, Qjb h a, Bool.and_self]
theorem QxN (p : Pe) : peq p p = true := by simp [peq]
theorem QxH (p : Sv) : svq p p = true := by simp [svq]
theorem Qyz (p : Sg) : sgq p p = true := by simp [sgq]
def Qs6 (a b : Bk) : Bool := (a.loc == b.loc) && ((a.grp == b.grp) && ((a.lim == b.lim) && (QcK peq a.ps b.ps && (QcK sgq a.segs b.segs && QcK svq a.svs b.svs))))
theorem QvF (a b : Bk) (h1 : a.ps.length ≤ 1000000) (h2 : a.segs.length ≤ 1000000) (h3 : a.svs.length ≤ 1000000) (e1 : a.ps.length = b.ps.length) (e2 : a.segs.length = b.segs.length) (e3 : a.svs.length = b.svs.length) (n : Nat) (hn : a.ps.length + a.segs.length + a.svs.length < n) (w9 yD : Int) : ∀ (t u p q : List Sv), p ++ t = a.svs → q ++ u = b.svs → p.length = q.length → t.length = u.length → ∀ k, t.length < k → Qh8 lb n k a.loc a.pn (a.ps.map peE) a.grp a.bn (a.segs.map sgE) a.rn (a.svs.map svE) a.lim b.loc b.pn (b.ps.map peE) b.grp b.bn (b.segs.map sgE) b.rn (b.svs.map svE) b.lim w9 yD (p.length : Int) = some (.bool (QcK svq t u && true))
 | [], u, p, q, hp, hq, hpq, htu, k, hk => by
  obtain ⟨k, rfl⟩ : ∃ j, k = j + 1 := ⟨k - 1, by simp at hk; omega⟩
  have hu : u = [] := List.eq_nil_of_length_eq_zero (by simpa using htu.symm)
  subst hu
  have : p = a.svs := by simpa using hp
  rw [QjS]
  refine stF (decF (by simp [this])) ?_
  show _ = some (CV.bool (true))
  rw [Qro]
 | x :: t, [], p, q, hp, hq, hpq, htu, k, hk => by simp at htu
 | x :: t, y :: u, p, q, hp, hq, hpq, htu, k, hk => by
  obtain ⟨k, rfl⟩ : ∃ j, k = j + 1 := ⟨k - 1, by simp at hk; omega⟩
  have hpl : p.length + (t.length + 1) = a.svs.length := by rw [← hp]; simp
  have h1' : atL (a.svs.map svE) (p.length : Int) = some (svE x) := Qcv (by rw [List.getElem?_map, ← hp]; simp)
  have h2' : atL (b.svs.map svE) (p.length : Int) = some (svE y) := by rw [hpq]; exact Qcv (by rw [List.getElem?_map, ← hq]; simp)
  have hw : IntKind.wrap .i64 ((p.length : Int) + 1) = ((p ++ [x]).length : Int) := by rw [QaN (by omega) (by omega)]; simp
  have ih := QvF a b h1 h2 h3 e1 e2 e3 n hn w9 yD t u (p ++ [x]) (q ++ [y]) (by rw [← hp]; simp) (by rw [← hq]; simp) (by simp [hpq]) (by simpa using htu) k (by simp at hk; omega)
  rw [QjS]
  refine stT (decT (by simp; omega)) (stO _ h1' (stC rfl (stO _ rfl (stO _ rfl (stO _ rfl (stO _ h2' (stC rfl (stO _ rfl (stO _ rfl (stO _ rfl (stO _ rfl (stO _ rfl (stO _ (Qae ..) (stO _ (Qae ..) (stO _ (Qae ..) (stO _ (Qae ..) (?_)))))))))))))))))
  rw [hw]
  cases hxy : svq x y with
  | true => exact stF (show (!(svq x y)) = false by rw [hxy]; rfl) (ih.trans (by simp [QcK, hxy]))
  | false => exact stT (show (!(svq x y)) = true by rw [hxy]; rfl) (by simp [QcK, hxy])
theorem Qvo (a b : Bk) (h1 : a.ps.length ≤ 1000000) (h2 : a.segs.length ≤ 1000000) (h3 : a.svs.length ≤ 1000000) (e1 : a.ps.length = b.ps.length) (e2 : a.segs.length = b.segs.length) (e3 : a.svs.length = b.svs.length) (n : Nat) (hn : a.ps.length + a.segs.length + a.svs.length < n) (w9 : Int) : ∀ (t u p q : List Sg), p ++ t = a.segs → q ++ u = b.segs → p.length = q.length → t.length = u.length → ∀ k, t.length < k → Qid lb n k a.loc a.pn (a.ps.map peE) a.grp a.bn (a.segs.map sgE) a.rn (a.svs.map svE) a.lim b.loc b.pn (b.ps.map peE) b.grp b.bn (b.segs.map sgE) b.rn (b.svs.map svE) b.lim w9 (p.length : Int) = some (.bool (QcK sgq t u && QcK svq a.svs b.svs))
 | [], u, p, q, hp, hq, hpq, htu, k, hk => by
  obtain ⟨k, rfl⟩ : ∃ j, k = j + 1 := ⟨k - 1, by simp at hk; omega⟩
  have hu : u = [] := List.eq_nil_of_length_eq_zero (by simpa using htu.symm)
  subst hu
  have : p = a.segs := by simpa using hp
  rw [QjA]
  refine stF (decF (by simp [this])) ?_
  show _ = some (CV.bool (QcK svq a.svs b.svs))
  rw [QqV]
  exact (QvF lb a b h1 h2 h3 e1 e2 e3 n hn w9 _ a.svs b.svs [] [] rfl rfl rfl e3 n (by omega)).trans (by rw [Bool.and_true])
 | x :: t, [], p, q, hp, hq, hpq, htu, k, hk => by simp at htu
 | x :: t, y :: u, p, q, hp, hq, hpq, htu, k, hk => by
  obtain ⟨k, rfl⟩ : ∃ j, k = j + 1 := ⟨k - 1, by simp at hk; omega⟩
  have hpl : p.length + (t.length + 1) = a.segs.length := by rw [← hp]; simp
  have h1' : atL (a.segs.map sgE) (p.length : Int) = some (sgE x) := Qcv (by rw [List.getElem?_map, ← hp]; simp)
  have h2' : atL (b.segs.map sgE) (p.length : Int) = some (sgE y) := by rw [hpq]; exact Qcv (by rw [List.getElem?_map, ← hq]; simp)
  have hw : IntKind.wrap .i64 ((p.length : Int) + 1) = ((p ++ [x]).length : Int) := by rw [QaN (by omega) (by omega)]; simp
  have ih := Qvo a b h1 h2 h3 e1 e2 e3 n hn w9 t u (p ++ [x]) (q ++ [y]) (by rw [← hp]; simp) (by rw [← hq]; simp) (by simp [hpq]) (by simpa using htu) k (by simp at hk; omega)
  rw [QjA]
  refine stT (decT (by simp; omega)) (stO _ h1' (stC rfl (stO _ rfl (stO _ rfl (stO _ rfl (stO _ rfl (stO _ rfl (stO _ rfl (stO _ rfl (stO _ rfl (stO _ rfl (stO _ rfl (stO _ h2' (stC rfl (stO _ rfl (stO _ rfl (stO _ rfl (stO _ rfl (stO _ rfl (stO _ rfl (stO _ rfl (stO _ rfl (stO _ rfl (stO _ rfl (stO _ rfl (stO _ rfl (stO _ (Qae ..) (stO _ (Qae ..) (stO _ (Qae ..) (stO _ (Qae ..) (stO _ rfl (stO _ rfl (stO _ rfl (stO _ rfl (stO _ (Qae ..) (stO _ (Qae ..) (stO _ (Qae ..) (stO _ (Qae ..) (stO _ rfl (stO _ rfl (stO _ (Qae ..) (stO _ (Qae ..) (stO _ (Qae ..) (stO _ (Qae ..) (?_)))))))))))))))))))))))))))))))))))))))))))))
  rw [hw]
  cases hxy : sgq x y with
  | true => exact stF (show (!(sgq x y)) = false by rw [hxy]; rfl) (ih.trans (by simp [QcK, hxy]))
  | false => exact stT (show (!(sgq x y)) = true by rw [hxy]; rfl) (by simp [QcK, hxy])
theorem Qvv (a b : Bk) (h1 : a.ps.length ≤ 1000000) (h2 : a.segs.length ≤ 1000000) (h3 : a.svs.length ≤ 1000000) (e1 : a.ps.length = b.ps.length) (e2 : a.segs.length = b.segs.length) (e3 : a.svs.length = b.svs.length) (n : Nat) (hn : a.ps.length + a.segs.length + a.svs.length < n)  : ∀ (t u p q : List Pe), p ++ t = a.ps → q ++ u = b.ps → p.length = q.length → t.length = u.length → ∀ k, t.length < k → r35_Same_L1 lb n k a.loc a.pn (a.ps.map peE) a.grp a.bn (a.segs.map sgE) a.rn (a.svs.map svE) a.lim b.loc b.pn (b.ps.map peE) b.grp b.bn (b.segs.map sgE) b.rn (b.svs.map svE) b.lim  (p.length : Int) = some (.bool (QcK peq t u && (QcK sgq a.segs b.segs && QcK svq a.svs b.svs)))
 | [], u, p, q, hp, hq, hpq, htu, k, hk => by
  obtain ⟨k, rfl⟩ : ∃ j, k = j + 1 := ⟨k - 1, by simp at hk; omega⟩
  have hu : u = [] := List.eq_nil_of_length_eq_zero (by simpa using htu.symm)
  subst hu
  have : p = a.ps := by simpa using hp
  rw [QjO]
  refine stF (decF (by simp [this])) ?_
  show _ = some (CV.bool ((QcK sgq a.segs b.segs && QcK svq a.svs b.svs)))
  rw [Qq1]
  exact Qvo lb a b h1 h2 h3 e1 e2 e3 n hn _ a.segs b.segs [] [] rfl rfl rfl e2 n (by omega)
 | x :: t, [], p, q, hp, hq, hpq, htu, k, hk => by simp at htu
 | x :: t, y :: u, p, q, hp, hq, hpq, htu, k, hk => by
  obtain ⟨k, rfl⟩ : ∃ j, k = j + 1 := ⟨k - 1, by simp at hk; omega⟩
  have hpl : p.length + (t.length + 1) = a.ps.length := by rw [← hp]; simp
  have h1' : atL (a.ps.map peE) (p.length : Int) = some (peE x) := Qcv (by rw [List.getElem?_map, ← hp]; simp)
  have h2' : atL (b.ps.map peE) (p.length : Int) = some (peE y) := by rw [hpq]; exact Qcv (by rw [List.getElem?_map, ← hq]; simp)
  have hw : IntKind.wrap .i64 ((p.length : Int) + 1) = ((p ++ [x]).length : Int) := by rw [QaN (by omega) (by omega)]; simp
  have ih := Qvv a b h1 h2 h3 e1 e2 e3 n hn  t u (p ++ [x]) (q ++ [y]) (by rw [← hp]; simp) (by rw [← hq]; simp) (by simp [hpq]) (by simpa using htu) k (by simp at hk; omega)
  rw [QjO]
  refine stT (decT (by simp; omega)) (stO _ h1' (stC rfl (stO _ rfl (stO _ rfl (stO _ rfl (stO _ h2' (stC rfl (stO _ rfl (stO _ rfl (stO _ rfl (stO _ rfl (stO _ rfl (stO _ rfl (stO _ rfl (stO _ rfl (stO _ rfl (?_)))))))))))))))))
  rw [hw]
  cases hxy : peq x y with
  | true => exact stF (show (!(peq x y)) = false by rw [hxy]; rfl) (ih.trans (by simp [QcK, hxy]))
  | false => exact stT (show (!(peq x y)) = true by rw [hxy]; rfl) (by simp [QcK, hxy])
theorem Quq (a b : Bk) (h1 : a.ps.length ≤ 1000000) (h2 : a.segs.length ≤ 1000000) (h3 : a.svs.length ≤ 1000000) : Ret lb QaI [.agg (bkE a), .agg (bkE b)] (.bool (Qs6 a b)) := by
 refine .top rfl ((Evt.ge (a.ps.length + a.segs.length + a.svs.length + 1)).mono fun n hn => ?_)
 rw [show top lb n QaI [.agg (bkE a), .agg (bkE b)] = _ from Qu0 lb n a.loc a.pn (a.ps.map peE) a.grp a.bn (a.segs.map sgE) a.rn (a.svs.map svE) a.lim b.loc b.pn (b.ps.map peE) b.grp b.bn (b.segs.map sgE) b.rn (b.svs.map svE) b.lim]
 unfold Qs6
 cases a.loc == b.loc with
 | false => exact stT rfl rfl
 | true =>
  refine stF rfl ?_
  by_cases hg : a.grp = b.grp
  ·refine stF (bneF hg) ?_
   rw [beqT hg]
   by_cases hm : a.lim = b.lim
   ·refine stF (bneF hm) ?_
    rw [beqT hm]
    by_cases e1 : a.ps.length = b.ps.length
    ·refine stF (bneF (by simp [e1])) ?_
     by_cases e2 : a.segs.length = b.segs.length
     ·refine stF (bneF (by simp [e2])) ?_
      by_cases e3 : a.svs.length = b.svs.length
      ·refine stF (bneF (by simp [e3])) ?_
       exact (Qvv lb a b h1 h2 h3 e1 e2 e3 n (by omega) a.ps b.ps [] [] rfl rfl rfl e1 n (by omega)).trans (by simp)
      ·refine stT (bneT (by simp; omega)) ?_
       rw [Qj4 svq _ _ e3]; simp
     ·refine stT (bneT (by simp; omega)) ?_
      rw [Qj4 sgq _ _ e2]; simp
    ·refine stT (bneT (by simp; omega)) ?_
     rw [Qj4 peq _ _ e1]; simp
   ·rw [beqF hm]
    exact stT (bneT hm) rfl
  ·rw [beqF hg]
   exact stT (bneT hg) rfl
def QcV (s : Bs) : Bool := !decide ((s.length : Int) > 100)
def peS (p : Pe) : Bool := QcV p.la && (QcV p.fi && QcV p.ty)
def sgS (s : Sg) : Bool := QcV s.car && (QcV s.fr && (QcV s.to && QcV s.cls))
def svS (x : Sv) : Bool := QcV x.cd
def QmH (b : Bk) : Bool := decide (b.ps.length ≤ 60) && (decide (b.segs.length ≤ 60) && (decide (b.svs.length ≤ 60) && (decide (b.loc.length ≤ 100) && (b.ps.all peS && (b.segs.all sgS && b.svs.all svS)))))
theorem QgR {s : Bs} {r : Bool} {t : Option CV} (h : QcV s = true → t = some (.bool r)) : (bif decide ((s.length : Int) > 100) then some (.bool false) else t) = some (.bool (QcV s && r)) := by
 cases hs : QcV s with
 | true =>
  have : decide ((s.length : Int) > 100) = false := by simpa [QcV] using hs
  rw [this]
  exact (h hs).trans rfl
 | false =>
  have : decide ((s.length : Int) > 100) = true := by simpa [QcV] using hs
  rw [this]; rfl
theorem QtK (b : Bk) (h3 : b.svs.length ≤ 60) (i j : Int) : ∀ (t p : List Sv), p ++ t = b.svs → ∀ n k, t.length < k → Qhm lb n k b.loc b.pn (b.ps.map peE) b.grp b.bn (b.segs.map sgE) b.rn (b.svs.map svE) b.lim i j (p.length : Int) = some (.bool (t.all svS))
 | [], p, h, n, k, hk => by
  obtain ⟨k, rfl⟩ : ∃ j, k = j + 1 := ⟨k - 1, by simp at hk; omega⟩
  have hp : p = b.svs := by simpa using h
  rw [QiK]
  refine stF (decF (by simp [hp])) ?_
  rw [Qp4]; rfl
 | x :: t, p, h, n, k, hk => by
  obtain ⟨k, rfl⟩ : ∃ j, k = j + 1 := ⟨k - 1, by simp at hk; omega⟩
  have hpl : p.length + (t.length + 1) = b.svs.length := by rw [← h]; simp
  have hat : atL (b.svs.map svE) (p.length : Int) = some (svE x) := Qcv (by rw [List.getElem?_map, ← h]; simp)
  have hw : IntKind.wrap .i64 ((p.length : Int) + 1) = ((p ++ [x]).length : Int) := by rw [QaN (by omega) (by omega)]; simp
  have ih := QtK b h3 i j t (p ++ [x]) (by rw [← h]; simp) n k (by simp at hk; omega)
  rw [QiK, hw]
  exact stT (decT (by simp; omega)) (stO _ hat (stC rfl (stO _ rfl (stO _ rfl (QgR fun _ => ih)))))
theorem Qur (b : Bk) (h2 : b.segs.length ≤ 60) (h3 : b.svs.length ≤ 60) (n : Nat) (hn : 100 ≤ n) (i : Int) : ∀ (t p : List Sg), p ++ t = b.segs → ∀ k, t.length < k → Qhd lb n k b.loc b.pn (b.ps.map peE) b.grp b.bn (b.segs.map sgE) b.rn (b.svs.map svE) b.lim i (p.length : Int) = some (.bool (t.all sgS && b.svs.all svS))
 | [], p, h, k, hk => by
  obtain ⟨k, rfl⟩ : ∃ j, k = j + 1 := ⟨k - 1, by simp at hk; omega⟩
  have hp : p = b.segs := by simpa using h
  rw [QiU]
  refine stF (decF (by simp [hp])) ?_
  rw [Qqd]
  exact QtK lb b h3 i _ b.svs [] rfl n n (by omega)
 | x :: t, p, h, k, hk => by
  obtain ⟨k, rfl⟩ : ∃ j, k = j + 1 := ⟨k - 1, by simp at hk; omega⟩
  have hpl : p.length + (t.length + 1) = b.segs.length := by rw [← h]; simp
  have hat : atL (b.segs.map sgE) (p.length : Int) = some (sgE x) := Qcv (by rw [List.getElem?_map, ← h]; simp)
  have hw : IntKind.wrap .i64 ((p.length : Int) + 1) = ((p ++ [x]).length : Int) := by rw [QaN (by omega) (by omega)]; simp
  have ih := Qur b h2 h3 n hn i t (p ++ [x]) (by rw [← h]; simp) k (by simp at hk; omega)
  rw [QiU, hw]
  have e : ((x :: t).all sgS && b.svs.all svS) = (QcV x.car && (QcV x.fr && (QcV x.to && (QcV x.cls && (t.all sgS && b.svs.all svS))))) := by simp [sgS, Bool.and_assoc]
  rw [e]
  exact stT (decT (by simp; omega)) (stO _ hat (stC rfl (stO _ rfl (stO _ rfl (stO _ rfl (stO _ rfl (stO _ rfl (stO _ rfl (stO _ rfl (stO _ rfl (QgR fun _ => (stO _ rfl (QgR fun _ => (stO _ rfl (QgR fun _ => (stO _ hat (stC rfl (stO _ rfl (stO _ rfl (QgR fun _ => (ih)))))))))))))))))))))
theorem Qs9 (b : Bk) (h1 : b.ps.length ≤ 60) (h2 : b.segs.length ≤ 60) (h3 : b.svs.length ≤ 60) (n : Nat) (hn : 100 ≤ n) : ∀ (t p : List Pe), p ++ t = b.ps → ∀ k, t.length < k → Qha lb n k b.loc b.pn (b.ps.map peE) b.grp b.bn (b.segs.map sgE) b.rn (b.svs.map svE) b.lim (p.length : Int) = some (.bool (t.all peS && (b.segs.all sgS && b.svs.all svS)))
 | [], p, h, k, hk => by
  obtain ⟨k, rfl⟩ : ∃ j, k = j + 1 := ⟨k - 1, by simp at hk; omega⟩
  have hp : p = b.ps := by simpa using h
  rw [Qi0]
  refine stF (decF (by simp [hp])) ?_
  rw [Qqq]
  exact Qur lb b h2 h3 n hn _ b.segs [] rfl n (by omega)
 | x :: t, p, h, k, hk => by
  obtain ⟨k, rfl⟩ : ∃ j, k = j + 1 := ⟨k - 1, by simp at hk; omega⟩
  have hpl : p.length + (t.length + 1) = b.ps.length := by rw [← h]; simp
  have hat : atL (b.ps.map peE) (p.length : Int) = some (peE x) := Qcv (by rw [List.getElem?_map, ← h]; simp)
  have hw : IntKind.wrap .i64 ((p.length : Int) + 1) = ((p ++ [x]).length : Int) := by rw [QaN (by omega) (by omega)]; simp
  have ih := Qs9 b h1 h2 h3 n hn t (p ++ [x]) (by rw [← h]; simp) k (by simp at hk; omega)
  rw [Qi0, hw]
  have e : ((x :: t).all peS && (b.segs.all sgS && b.svs.all svS)) = (QcV x.la && (QcV x.fi && (QcV x.ty && (t.all peS && (b.segs.all sgS && b.svs.all svS))))) := by simp [peS, Bool.and_assoc]
  rw [e]
  exact stT (decT (by simp; omega)) (stO _ hat (stC rfl (stO _ rfl (stO _ rfl (QgR fun _ => (stO _ hat (stC rfl (stO _ rfl (stO _ rfl (QgR fun _ => (stO _ hat (stC rfl (stO _ rfl (stO _ rfl (QgR fun _ => (ih))))))))))))))))
theorem Qxf (b : Bk) : Ret lb QaA [.agg (bkE b)] (.bool (QmH b)) := by
 refine .top rfl ((Evt.ge 100).mono fun n hn => ?_)
 rw [show top lb n QaA [.agg (bkE b)] = _ from Qua lb n b.loc b.pn (b.ps.map peE) b.grp b.bn (b.segs.map sgE) b.rn (b.svs.map svE) b.lim]
 unfold QmH
 by_cases h1 : b.ps.length ≤ 60
 ·refine stF (decF (by simp; omega)) ?_
  rw [decT h1]
  by_cases h2 : b.segs.length ≤ 60
  ·refine stF (decF (by simp; omega)) ?_
   rw [decT h2]
   by_cases h3 : b.svs.length ≤ 60
   ·refine stF (decF (by simp; omega)) ?_
    rw [decT h3]
    by_cases h4 : b.loc.length ≤ 100
    ·refine stF (decF (by omega)) ?_
     rw [decT h4]
     exact (Qs9 lb b h1 h2 h3 n hn b.ps [] rfl n (by omega)).trans (by simp)
    ·refine stT (decT (by omega)) ?_
     rw [decF h4]; rfl
   ·refine stT (decT (by simp; omega)) ?_
    rw [decF h3]; rfl
  ·refine stT (decT (by simp; omega)) ?_
   rw [decF h2]; rfl
 ·refine stT (decT (by simp; omega)) ?_
  rw [decF h1]; rfl
structure SmallOk (b : Bk) : Prop where
 ps : b.ps.length ≤ 60
 segs : b.segs.length ≤ 60
 svs : b.svs.length ≤ 60
 loc : b.loc.length ≤ 100
 pe : ∀ p ∈ b.ps, p.la.length ≤ 100 ∧ p.fi.length ≤ 100 ∧ p.ty.length ≤ 100
 sg : ∀ s ∈ b.segs, s.car.length ≤ 100 ∧ s.fr.length ≤ 100 ∧ s.to.length ≤ 100 ∧ s.cls.length ≤ 100
 sv : ∀ x ∈ b.svs, x.cd.length ≤ 100
theorem Qfr {s : Bs} (h : QcV s = true) : s.length ≤ 100 := by
 simp [QcV] at h; omega
theorem QxZ {b : Bk} (h : QmH b = true) : SmallOk b := by
 simp only [QmH, Bool.and_eq_true, decide_eq_true_eq, List.all_eq_true] at h
 obtain ⟨h1, h2, h3, h4, h5, h6, h7⟩ := h
 refine ⟨h1, h2, h3, h4, fun p hp => ?_, fun s hs => ?_, fun x hx => Qfr (h7 x hx)⟩
 ·have := h5 p hp
  simp only [peS, Bool.and_eq_true] at this
  exact ⟨Qfr this.1, Qfr this.2.1, Qfr this.2.2⟩
 ·have := h6 s hs
  simp only [sgS, Bool.and_eq_true] at this
  exact ⟨Qfr this.1, Qfr this.2.1, Qfr this.2.2.1, Qfr this.2.2.2⟩
end Go.Proofs
