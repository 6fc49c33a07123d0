/- Chapter 35: bookings compared, small bookings, seats, on plain data. Conditions: as each says. -/
import Derived.Test.YtigmcfhmpcajlaaGreatDoorBC
import Derived.Test.YtigmcfhmpcajlaaGreatDoorGs
set_option linter.unusedSimpArgs false
set_option linter.unusedVariables false
namespace Go.Proofs
open Go.Am
variable (lb : Nat)
structure Bk where
 loc : Bs
 pn : Bool
 ps : List Pe
 grp : Int
 bn : Bool
 segs : List Sg
 rn : Bool
 svs : List Sv
 lim : Int
def bkE (b : Bk) : List CV := [.str b.loc, .list b.pn (b.ps.map peE), .int .i64 b.grp, .list b.bn (b.segs.map sgE), .list b.rn (b.svs.map svE), .int .i64 b.lim]
def Qcy (s : Bs) : Bool := !decide ((s.length : Int) > 100)
def peS (p : Pe) : Bool := Qcy p.la && (Qcy p.fi && Qcy p.ty)
def sgS (s : Sg) : Bool := Qcy s.car && (Qcy s.fr && (Qcy s.to && Qcy s.cls))
def svS (x : Sv) : Bool := Qcy x.cd
def Qmu (b : Bk) : Bool := decide (b.ps.length ≤ 60) && (decide (b.segs.length ≤ 60) && (decide (b.svs.length ≤ 60) && (decide (b.loc.length ≤ 100) && (b.ps.all peS && (b.segs.all sgS && b.svs.all svS)))))
theorem Qga {s : Bs} {r : Bool} {t : Option CV} (h : Qcy s = true → t = some (.bool r)) : (bif decide ((s.length : Int) > 100) then some (.bool false) else t) = some (.bool (Qcy s && r)) := by
 cases hs : Qcy s with
 | true =>
  have : decide ((s.length : Int) > 100) = false := by simpa [Qcy] using hs
  rw [this]
  exact (h hs).trans rfl
 | false =>
  have : decide ((s.length : Int) > 100) = true := by simpa [Qcy] using hs
  rw [this]; rfl
theorem Qsu (b : Bk) (h3 : b.svs.length ≤ 60) (i j : Int) : ∀ (t p : List Sv), p ++ t = b.svs → ∀ n k, t.length < k → Qgk lb n k b.loc b.pn (b.ps.map peE) b.grp b.bn (b.segs.map sgE) b.rn (b.svs.map svE) b.lim i j (p.length : Int) = some (.bool (t.all svS))
 | [], p, h, n, k, hk => by
  obtain ⟨k, rfl⟩ : ∃ j, k = j + 1 := ⟨k - 1, by simp at hk; omega⟩
  have hp : p = b.svs := by simpa using h
  rw [Qh1]
  refine stF (decF (by simp [hp])) ?_
  rw [Qoa]; rfl
 | x :: t, p, h, n, k, hk => by
  obtain ⟨k, rfl⟩ : ∃ j, k = j + 1 := ⟨k - 1, by simp at hk; omega⟩
  have hpl : p.length + (t.length + 1) = b.svs.length := by rw [← h]; simp
  have hat : atL (b.svs.map svE) (p.length : Int) = some (svE x) := Qbz (by rw [List.getElem?_map, ← h]; simp)
  have hw : IntKind.wrap .i64 ((p.length : Int) + 1) = ((p ++ [x]).length : Int) := by rw [QaB (by omega) (by omega)]; simp
  have ih := Qsu b h3 i j t (p ++ [x]) (by rw [← h]; simp) n k (by simp at hk; omega)
  rw [Qh1, hw]
  exact stT (decT (by simp; omega)) (stO _ hat (stC rfl (stO _ rfl (stO _ rfl (Qga fun _ => ih)))))
theorem Qsh (b : Bk) (h2 : b.segs.length ≤ 60) (h3 : b.svs.length ≤ 60) (n : Nat) (hn : 100 ≤ n) (i : Int) : ∀ (t p : List Sg), p ++ t = b.segs → ∀ k, t.length < k → Qgr lb n k b.loc b.pn (b.ps.map peE) b.grp b.bn (b.segs.map sgE) b.rn (b.svs.map svE) b.lim i (p.length : Int) = some (.bool (t.all sgS && b.svs.all svS))
 | [], p, h, k, hk => by
  obtain ⟨k, rfl⟩ : ∃ j, k = j + 1 := ⟨k - 1, by simp at hk; omega⟩
  have hp : p = b.segs := by simpa using h
  rw [Qia]
  refine stF (decF (by simp [hp])) ?_
  rw [Qo7]
  exact Qsu lb b h3 i _ b.svs [] rfl n n (by omega)
 | x :: t, p, h, k, hk => by
  obtain ⟨k, rfl⟩ : ∃ j, k = j + 1 := ⟨k - 1, by simp at hk; omega⟩
  have hpl : p.length + (t.length + 1) = b.segs.length := by rw [← h]; simp
  have hat : atL (b.segs.map sgE) (p.length : Int) = some (sgE x) := Qbz (by rw [List.getElem?_map, ← h]; simp)
  have hw : IntKind.wrap .i64 ((p.length : Int) + 1) = ((p ++ [x]).length : Int) := by rw [QaB (by omega) (by omega)]; simp
  have ih := Qsh b h2 h3 n hn i t (p ++ [x]) (by rw [← h]; simp) k (by simp at hk; omega)
  rw [Qia, hw]
  have e : ((x :: t).all sgS && b.svs.all svS) = (Qcy x.car && (Qcy x.fr && (Qcy x.to && (Qcy x.cls && (t.all sgS && b.svs.all svS))))) := by simp [sgS, Bool.and_assoc]
  rw [e]
  exact stT (decT (by simp; omega)) (stO _ hat (stC rfl (stO _ rfl (stO _ rfl (stO _ rfl (stO _ rfl (stO _ rfl (stO _ rfl (stO _ rfl (stO _ rfl (Qga fun _ => (stO _ rfl (Qga fun _ => (stO _ rfl (Qga fun _ => (stO _ hat (stC rfl (stO _ rfl (stO _ rfl (Qga fun _ => (ih)))))))))))))))))))))
theorem QrW (b : Bk) (h1 : b.ps.length ≤ 60) (h2 : b.segs.length ≤ 60) (h3 : b.svs.length ≤ 60) (n : Nat) (hn : 100 ≤ n) : ∀ (t p : List Pe), p ++ t = b.ps → ∀ k, t.length < k → l35_Small_L1 lb n k b.loc b.pn (b.ps.map peE) b.grp b.bn (b.segs.map sgE) b.rn (b.svs.map svE) b.lim (p.length : Int) = some (.bool (t.all peS && (b.segs.all sgS && b.svs.all svS)))
 | [], p, h, k, hk => by
  obtain ⟨k, rfl⟩ : ∃ j, k = j + 1 := ⟨k - 1, by simp at hk; omega⟩
  have hp : p = b.ps := by simpa using h
  rw [Qh5]
  refine stF (decF (by simp [hp])) ?_
  rw [Qob]
  exact Qsh lb b h2 h3 n hn _ b.segs [] rfl n (by omega)
 | x :: t, p, h, k, hk => by
  obtain ⟨k, rfl⟩ : ∃ j, k = j + 1 := ⟨k - 1, by simp at hk; omega⟩
  have hpl : p.length + (t.length + 1) = b.ps.length := by rw [← h]; simp
  have hat : atL (b.ps.map peE) (p.length : Int) = some (peE x) := Qbz (by rw [List.getElem?_map, ← h]; simp)
  have hw : IntKind.wrap .i64 ((p.length : Int) + 1) = ((p ++ [x]).length : Int) := by rw [QaB (by omega) (by omega)]; simp
  have ih := QrW b h1 h2 h3 n hn t (p ++ [x]) (by rw [← h]; simp) k (by simp at hk; omega)
  rw [Qh5, hw]
  have e : ((x :: t).all peS && (b.segs.all sgS && b.svs.all svS)) = (Qcy x.la && (Qcy x.fi && (Qcy x.ty && (t.all peS && (b.segs.all sgS && b.svs.all svS))))) := by simp [peS, Bool.and_assoc]
  rw [e]
  exact stT (decT (by simp; omega)) (stO _ hat (stC rfl (stO _ rfl (stO _ rfl (Qga fun _ => (stO _ hat (stC rfl (stO _ rfl (stO _ rfl (Qga fun _ => (stO _ hat (stC rfl (stO _ rfl (stO _ rfl (Qga fun _ => (ih))))))))))))))))
theorem QuM (b : Bk) : Ret lb QaD [.agg (bkE b)] (.bool (Qmu b)) := by
 refine .top rfl ((Evt.ge 100).mono fun n hn => ?_)
 rw [show top lb n QaD [.agg (bkE b)] = _ from QrK lb n b.loc b.pn (b.ps.map peE) b.grp b.bn (b.segs.map sgE) b.rn (b.svs.map svE) b.lim]
 unfold Qmu
 by_cases h1 : b.ps.length ≤ 60
 ·refine stF (decF (by simp; omega)) ?_
  rw [decT h1]
  by_cases h2 : b.segs.length ≤ 60
  ·refine stF (decF (by simp; omega)) ?_
   rw [decT h2]
   by_cases h3 : b.svs.length ≤ 60
   ·refine stF (decF (by simp; omega)) ?_
    rw [decT h3]
    by_cases h4 : b.loc.length ≤ 100
    ·refine stF (decF (by omega)) ?_
     rw [decT h4]
     exact (QrW lb b h1 h2 h3 n hn b.ps [] rfl n (by omega)).trans (by simp)
    ·refine stT (decT (by omega)) ?_
     rw [decF h4]; rfl
   ·refine stT (decT (by simp; omega)) ?_
    rw [decF h3]; rfl
  ·refine stT (decT (by simp; omega)) ?_
   rw [decF h2]; rfl
 ·refine stT (decT (by simp; omega)) ?_
  rw [decF h1]; rfl
structure SmallOk (b : Bk) : Prop where
 ps : b.ps.length ≤ 60
 segs : b.segs.length ≤ 60
 svs : b.svs.length ≤ 60
 loc : b.loc.length ≤ 100
 pe : ∀ p ∈ b.ps, p.la.length ≤ 100 ∧ p.fi.length ≤ 100 ∧ p.ty.length ≤ 100
 sg : ∀ s ∈ b.segs, s.car.length ≤ 100 ∧ s.fr.length ≤ 100 ∧ s.to.length ≤ 100 ∧ s.cls.length ≤ 100
 sv : ∀ x ∈ b.svs, x.cd.length ≤ 100
theorem QeM {s : Bs} (h : Qcy s = true) : s.length ≤ 100 := by
 simp [Qcy] at h; omega
theorem Qvb {b : Bk} (h : Qmu b = true) : SmallOk b := by
 simp only [Qmu, Bool.and_eq_true, decide_eq_true_eq, List.all_eq_true] at h
 obtain ⟨h1, h2, h3, h4, h5, h6, h7⟩ := h
 refine ⟨h1, h2, h3, h4, fun p hp => ?_, fun s hs => ?_, fun x hx => QeM (h7 x hx)⟩
 ·have := h5 p hp
  simp only [peS, Bool.and_eq_true] at this
  exact ⟨QeM this.1, QeM this.2.1, QeM this.2.2⟩
 ·have := h6 s hs
  simp only [sgS, Bool.and_eq_true] at this
  exact ⟨QeM this.1, QeM this.2.1, QeM this.2.2.1, QeM this.2.2.2⟩
end Go.Proofs
