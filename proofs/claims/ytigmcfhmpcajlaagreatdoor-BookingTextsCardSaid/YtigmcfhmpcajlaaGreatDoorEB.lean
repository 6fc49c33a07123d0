/- Chapter 35: booking.Parse on plain data: its loop. Conditions: as each says. -/
import Derived.Test.YtigmcfhmpcajlaaGreatDoorEA
import Derived.Test.YtigmcfhmpcajlaaGreatDoorW35
set_option linter.unusedSimpArgs false
set_option linter.unusedVariables false
namespace Go.Proofs
open Go.Am
variable (lb : Nat)
structure StL (b : Bk) : Prop where
 loc : b.loc.length ≤ 10000
 lim : J64 b.lim
 grp : J64 b.grp
 ps : ∀ p ∈ b.ps, PeL p
 sg : ∀ s ∈ b.segs, SgL s
 sv : ∀ x ∈ b.svs, SvL x
def cntB (b : Bk) : Nat := b.ps.length + b.segs.length + b.svs.length
theorem StL.ok {b : Bk} (h : StL b) (hc : cntB b ≤ 1000) : PrOk b := by
 unfold cntB at hc
 exact ⟨h.loc, h.lim, h.grp, by omega, h.ps, by omega, h.sg, by omega, h.sv⟩
theorem QyP : J64 0 := ⟨by decide, by decide⟩
theorem QAr : StL zBk := ⟨Nat.zero_le _, QyP, QyP, fun _ h => absurd h (by simp [zBk]), fun _ h => absurd h (by simp [zBk]), fun _ h => absurd h (by simp [zBk])⟩
theorem PrOk.checks {b : Bk} (ok : PrOk b) : Ret lb Qaa [.agg (bkE b)] (QaY (QcU b)) ∧ Ret lb Qag [.agg (bkE b)] (QaY (QcU b)) := by
 have hl := ok.loc
 have h1 := ok.psn
 have h2 := ok.sgn
 have h3 := ok.svn
 refine ⟨Qoh lb b.loc b.pn b.ps b.grp b.bn b.segs b.rn b.svs b.lim (by omega) (by omega) (fun p hp => ?_) (by omega) (fun s hs => ?_) (by omega) (fun x hx => ?_),
  QsW lb b (by omega) (by omega) (fun p hp => ?_) (by omega) (fun s hs => ?_) (by omega) (fun x hx => ?_)⟩
 ·have := ok.ps p hp; exact ⟨by have := this.1; omega, by have := this.2.1; omega, by have := this.2.2; omega⟩
 ·have := (ok.sg s hs).1; exact ⟨by have := this.1; omega, by have := this.2.1; omega, by have := this.2.2.1; omega⟩
 ·have := (ok.sv x hx).1; omega
 ·have := ok.ps p hp; exact ⟨by have := this.1; omega, by have := this.2.1; omega, by have := this.2.2; omega⟩
 ·have := (ok.sg s hs).1; exact ⟨⟨by have := this.1; omega, by have := this.2.1; omega, by have := this.2.2.1; omega⟩, by have := this.2.2.2; omega⟩
 ·have := (ok.sv x hx).1; omega
noncomputable def pL (n k : Nat) (s : Bs) (i : Int) (b : Bk) (kind : Int) : Option CV :=
 booking_Parse_L1 (lb + 1) n k (.str s) i (.str b.loc) b.pn (b.ps.map peE) (.int .i64 b.grp) b.bn (b.segs.map sgE) b.rn (b.svs.map svE) (.int .i64 b.lim) (.int .i64 kind)
theorem QcN (u r : Bs) : (!(u ++ 10 :: r == [])) = true := by cases u <;> rfl
theorem Qet {u : Bs} {l : List Bs} (h : QbS u = some l) {w : Bs} (hw : w ∈ l) : w.length ≤ u.length := by
 rw [Qf5 h]
 exact Nat.le_trans (Qi5 hw) (QrO l)
theorem QcG (i : Nat) : (((i : Int) + 1) == 1) = (i == 0) := by
 rw [Bool.eq_iff_iff]
 simp only [beq_iff_eq]
 omega
theorem Qs4 {i : Nat} (h : i ≤ 70000) : IntKind.wrap .i64 ((i : Int) + 1 + 1) = (((i + 1 : Nat) : Int) + 1) := by rw [QaN (by omega) (by omega)]; omega
theorem kAt (k : Nat) (h : k ≤ 3) : atL [[CV.int .i64 4], [CV.int .i64 2], [CV.int .i64 11], [CV.int .i64 4]] (k : Int) = some [CV.int .i64 (if k = 1 then 2 else if k = 2 then 11 else 4)] := by
 have : k = 0 ∨ k = 1 ∨ k = 2 ∨ k = 3 := by omega
 rcases this with rfl | rfl | rfl | rfl <;> rfl
theorem Qb6 {u : Bs} {b : Bk} {kind : Int} {first : Bool} {w : Bs} {t : List Bs} (hw : QbS u = some (w :: t)) (hb : (Qar w == 0) = first) (hc : ¬ Qar w < kind) (h0 : ¬ Qar w < 0) :
  QaX b kind first u = (((Qe5 b (Qar w) (w :: t)).1, Qar w), (Qe5 b (Qar w) (w :: t)).2) := by
 unfold QaX
 rw [hw]
 exact if_neg fun h => h.elim h0 fun h => h.elim (fun h => h hb) hc
def QdW (n k : Nat) (r : Bs) (b : Bk) (kind : Int) (i : Nat) (x : (Bk × Int) × Int) (L : Nat → Nat → Bs → Int → Bk → Int → Option CV) : Option CV :=
 if x.2 ≠ 0 then some (.tup [.agg (bkE zBk), .int .i64 ((i : Int) + 1), .int .i64 x.2]) else L n k r (((i + 1 : Nat) : Int) + 1) x.1.1 x.1.2
theorem Qcd {n k : Nat} {r : Bs} {b : Bk} {kind : Int} {i : Nat} {x : (Bk × Int) × Int} {L : Nat → Nat → Bs → Int → Bk → Int → Option CV} {e : Int} (h : x.2 = e) (he : e ≠ 0) : some (.tup [.agg (bkE zBk), .int .i64 ((i : Int) + 1), .int .i64 e]) = QdW n k r b kind i x L := by
 unfold QdW
 rw [if_pos (by omega), h]
theorem Qi4 {n k : Nat} {r : Bs} {b : Bk} {kind : Int} {i : Nat} {x : (Bk × Int) × Int} {L : Nat → Nat → Bs → Int → Bk → Int → Option CV} {b' : Bk} {k' : Int} (h : x = ((b', k'), 0)) : L n k r (((i + 1 : Nat) : Int) + 1) b' k' = QdW n k r b kind i x L := by
 unfold QdW
 rw [h]
 exact (if_neg (by simp)).symm
theorem Qdh {bn : Bool} {o : Option (List Bs)} {l : List Bs} (h : o = some l) : QkN bn o = .tup [.list bn (scv l), .int .i64 0] := by rw [h]; rfl
theorem Qcc (u r : Bs) (hu : (10 : UInt8) ∉ u) (hul : u.length ≤ 10000) (hr : r.length ≤ 70000) : Ret lb QbM [.str (u ++ 10 :: r), .str [10]] (.tup [.str u, .str r, .bool true]) := by
 have := Qtf lb (u ++ 10 :: r) (by simp; omega)
 rw [Qxa r hu] at this
 exact this
theorem QxB (u r : Bs) (b : Bk) (kind : Int) (i : Nat) (hu : (10 : UInt8) ∉ u) (hul : u.length ≤ 10000) (hr : r.length ≤ 70000) (hi : i ≤ 70000) (hw : QbS u = none) : Evt fun n => ∀ k, pL lb n (k + 1) (u ++ 10 :: r) ((i : Int) + 1) b kind = QdW n k r b kind i (QaX b kind (i == 0) u) (pL lb) := by
 have hF : QaX b kind (i == 0) u = ((b, kind), 3) := by unfold QaX; rw [hw]
 refine (Evt.imp2 (Qcc (lb + 1) u r hu (by omega) hr) (Qa0 (lb + 1) u (by omega)) fun n a b => And.intro a b).mono fun n ⟨c1, c2⟩ k => ?_
 rw [hw] at c2
 rw [hF, pL, Qal]
 refine stO _ rfl (stT (QcN u r) (stO _ c1 (stO _ rfl (stO _ rfl (stO _ rfl (stO _ rfl (stO _ rfl (stO _ rfl (stO _ rfl (stF rfl (stO _ c2 (stO _ rfl (stO _ rfl (stO _ rfl (stO _ rfl (stO _ (Qae ..) (?_)))))))))))))))))
 exact stT rfl (stO _ (Qae ..) (stT rfl (Qcd rfl (by decide))))
theorem Qyb (u r : Bs) (b : Bk) (kind : Int) (i : Nat) (hu : (10 : UInt8) ∉ u) (hul : u.length ≤ 10000) (hr : r.length ≤ 70000) (hi : i ≤ 70000) (hw : QbS u = some []) : Evt fun n => ∀ k, pL lb n (k + 1) (u ++ 10 :: r) ((i : Int) + 1) b kind = QdW n k r b kind i (QaX b kind (i == 0) u) (pL lb) := by
 have hF : QaX b kind (i == 0) u = ((b, kind), 3) := by unfold QaX; rw [hw]
 refine (Evt.imp2 (Qcc (lb + 1) u r hu (by omega) hr) (Qa0 (lb + 1) u (by omega)) fun n a b => And.intro a b).mono fun n ⟨c1, c2⟩ k => ?_
 rw [hw] at c2
 rw [hF, pL, Qal]
 refine stO _ rfl (stT (QcN u r) (stO _ c1 (stO _ rfl (stO _ rfl (stO _ rfl (stO _ rfl (stO _ rfl (stO _ rfl (stO _ rfl (stF rfl (stO _ c2 (stO _ rfl (stO _ rfl (stO _ rfl (stO _ rfl (stO _ (Qae ..) (?_)))))))))))))))))
 exact stF rfl (stO _ rfl (stT rfl (Qcd rfl (by decide))))
theorem Qyw (u r : Bs) (b : Bk) (kind : Int) (i : Nat) (hu : (10 : UInt8) ∉ u) (hul : u.length ≤ 10000) (hr : r.length ≤ 70000) (hi : i ≤ 70000) (w : Bs) (t : List Bs) (hw : QbS u = some (w :: t)) (hk : Qar w < 0 ∨ (Qar w == 0) ≠ (i == 0) ∨ Qar w < kind) : Evt fun n => ∀ k, pL lb n (k + 1) (u ++ 10 :: r) ((i : Int) + 1) b kind = QdW n k r b kind i (QaX b kind (i == 0) u) (pL lb) := by
 have hF : QaX b kind (i == 0) u = ((b, kind), 3) := by unfold QaX; rw [hw]; unfold QyS; exact if_pos hk
 refine Evt.imp2 (Evt.imp2 (Qcc (lb + 1) u r hu (by omega) hr) (Qa0 (lb + 1) u (by omega)) fun n a b => And.intro a b) (QcH (lb + 1) w) fun n ⟨c1, c2⟩ c3 k => ?_
 rw [Qdh hw] at c2
 rw [hF, pL, Qal]
 refine stO _ rfl (stT (QcN u r) (stO _ c1 (stO _ rfl (stO _ rfl (stO _ rfl (stO _ rfl (stO _ rfl (stO _ rfl (stO _ rfl (stF rfl (stO _ c2 (stO _ rfl (stO _ rfl (stO _ rfl (stO _ rfl (stO _ (Qae ..) (?_)))))))))))))))))
 refine stF rfl (stO _ rfl (stF (by simp [scv] <;> omega) (stO _ rfl (stO _ rfl (stC rfl (stO _ rfl (stO _ c3 (stO _ (Qae ..) (?_)))))))))
 by_cases h1 : Qar w < 0
 ·exact stT (decT h1) (Qcd rfl (by decide))
 refine stF (decF h1) (stO _ (Qae ..) ?_)
 rw [QcG]
 by_cases h2 : (Qar w == 0) = (i == 0)
 ·refine stF (by rw [h2]; simp) (stO _ (Qae ..) (stO _ (Qae ..) ?_))
  have h3 : Qar w < kind := by
   rcases hk with h | h | h
   ·exact absurd h h1
   ·exact absurd h2 h
   ·exact h
  exact stT (decT h3) (Qcd rfl (by decide))
 ·exact stT (by revert h2; cases (Qar w == 0) <;> cases (i == 0) <;> simp) (Qcd rfl (by decide))
theorem Qxl (u r : Bs) (b : Bk) (kind : Int) (i : Nat) (hu : (10 : UInt8) ∉ u) (hul : u.length ≤ 10000) (hr : r.length ≤ 70000) (hi : i ≤ 70000) (w : Bs) (t : List Bs) (hw : QbS u = some (w :: t)) (hb : (Qar w == 0) = (i == 0)) (hc : ¬ Qar w < kind) (hK : Qar w = 0) (hl : t.length ≠ 3) : Evt fun n => ∀ k, pL lb n (k + 1) (u ++ 10 :: r) ((i : Int) + 1) b kind = QdW n k r b kind i (QaX b kind (i == 0) u) (pL lb) := by
 have hF : QaX b kind (i == 0) u = (((Qey b (w :: t)).1, 0), (Qey b (w :: t)).2) := by
  rw [Qb6 hw hb hc (by rw [hK]; decide), hK]
  rfl
 refine Evt.imp2 (Evt.imp2 (Qcc (lb + 1) u r hu (by omega) hr) (Qa0 (lb + 1) u (by omega)) fun n a b => And.intro a b) (QcH (lb + 1) w) fun n ⟨c1, c2⟩ c3 k => ?_
 rw [Qdh hw] at c2
 rw [hF, Qr8 hl, pL, Qal]
 refine stO _ rfl (stT (QcN u r) (stO _ c1 (stO _ rfl (stO _ rfl (stO _ rfl (stO _ rfl (stO _ rfl (stO _ rfl (stO _ rfl (stF rfl (stO _ c2 (stO _ rfl (stO _ rfl (stO _ rfl (stO _ rfl (stO _ (Qae ..) (?_)))))))))))))))))
 refine stF rfl (stO _ rfl (stF (by simp [scv] <;> omega) (stO _ rfl (stO _ rfl (stC rfl (stO _ rfl (stO _ c3 (stO _ (Qae ..) (?_)))))))))
 refine stF (decF (by rw [hK]; decide)) (stO _ (Qae ..) (stF (by rw [QcG, ← hb]; simp) (stO _ (Qae ..) (stO _ (Qae ..) (stF (decF hc) (stC rfl (stO _ rfl (stO _ (show CV.asN (.int .i64 (Qar w)) = some 0 by rw [hK]; rfl) (stO _ (kAt 0 (by decide)) (stC rfl (stO _ rfl (stO _ (Qae ..) (?_)))))))))))))
 exact stT (bneT (by simp [scv]; omega)) (Qcd rfl (by decide))
theorem QwV (u r : Bs) (b : Bk) (kind : Int) (i : Nat) (hu : (10 : UInt8) ∉ u) (hul : u.length ≤ 10000) (hr : r.length ≤ 70000) (hi : i ≤ 70000) (w : Bs) (t : List Bs) (hw : QbS u = some (w :: t)) (hb : (Qar w == 0) = (i == 0)) (hc : ¬ Qar w < kind) (hK : Qar w = 1) (hl : t.length ≠ 1) : Evt fun n => ∀ k, pL lb n (k + 1) (u ++ 10 :: r) ((i : Int) + 1) b kind = QdW n k r b kind i (QaX b kind (i == 0) u) (pL lb) := by
 have hF : QaX b kind (i == 0) u = (((QeC b (w :: t)).1, 1), (QeC b (w :: t)).2) := by
  rw [Qb6 hw hb hc (by rw [hK]; decide), hK]
  rfl
 refine Evt.imp2 (Evt.imp2 (Qcc (lb + 1) u r hu (by omega) hr) (Qa0 (lb + 1) u (by omega)) fun n a b => And.intro a b) (QcH (lb + 1) w) fun n ⟨c1, c2⟩ c3 k => ?_
 rw [Qdh hw] at c2
 rw [hF, Qsh hl, pL, Qal]
 refine stO _ rfl (stT (QcN u r) (stO _ c1 (stO _ rfl (stO _ rfl (stO _ rfl (stO _ rfl (stO _ rfl (stO _ rfl (stO _ rfl (stF rfl (stO _ c2 (stO _ rfl (stO _ rfl (stO _ rfl (stO _ rfl (stO _ (Qae ..) (?_)))))))))))))))))
 refine stF rfl (stO _ rfl (stF (by simp [scv] <;> omega) (stO _ rfl (stO _ rfl (stC rfl (stO _ rfl (stO _ c3 (stO _ (Qae ..) (?_)))))))))
 refine stF (decF (by rw [hK]; decide)) (stO _ (Qae ..) (stF (by rw [QcG, ← hb]; simp) (stO _ (Qae ..) (stO _ (Qae ..) (stF (decF hc) (stC rfl (stO _ rfl (stO _ (show CV.asN (.int .i64 (Qar w)) = some 1 by rw [hK]; rfl) (stO _ (kAt 1 (by decide)) (stC rfl (stO _ rfl (stO _ (Qae ..) (?_)))))))))))))
 exact stT (bneT (by simp [scv]; omega)) (Qcd rfl (by decide))
theorem QwM (u r : Bs) (b : Bk) (kind : Int) (i : Nat) (hu : (10 : UInt8) ∉ u) (hul : u.length ≤ 10000) (hr : r.length ≤ 70000) (hi : i ≤ 70000) (w : Bs) (t : List Bs) (hw : QbS u = some (w :: t)) (hb : (Qar w == 0) = (i == 0)) (hc : ¬ Qar w < kind) (hK : Qar w = 2) (hl : t.length ≠ 10) : Evt fun n => ∀ k, pL lb n (k + 1) (u ++ 10 :: r) ((i : Int) + 1) b kind = QdW n k r b kind i (QaX b kind (i == 0) u) (pL lb) := by
 have hF : QaX b kind (i == 0) u = (((segR b (w :: t)).1, 2), (segR b (w :: t)).2) := by
  rw [Qb6 hw hb hc (by rw [hK]; decide), hK]
  rfl
 refine Evt.imp2 (Evt.imp2 (Qcc (lb + 1) u r hu (by omega) hr) (Qa0 (lb + 1) u (by omega)) fun n a b => And.intro a b) (QcH (lb + 1) w) fun n ⟨c1, c2⟩ c3 k => ?_
 rw [Qdh hw] at c2
 rw [hF, Qus hl, pL, Qal]
 refine stO _ rfl (stT (QcN u r) (stO _ c1 (stO _ rfl (stO _ rfl (stO _ rfl (stO _ rfl (stO _ rfl (stO _ rfl (stO _ rfl (stF rfl (stO _ c2 (stO _ rfl (stO _ rfl (stO _ rfl (stO _ rfl (stO _ (Qae ..) (?_)))))))))))))))))
 refine stF rfl (stO _ rfl (stF (by simp [scv] <;> omega) (stO _ rfl (stO _ rfl (stC rfl (stO _ rfl (stO _ c3 (stO _ (Qae ..) (?_)))))))))
 refine stF (decF (by rw [hK]; decide)) (stO _ (Qae ..) (stF (by rw [QcG, ← hb]; simp) (stO _ (Qae ..) (stO _ (Qae ..) (stF (decF hc) (stC rfl (stO _ rfl (stO _ (show CV.asN (.int .i64 (Qar w)) = some 2 by rw [hK]; rfl) (stO _ (kAt 2 (by decide)) (stC rfl (stO _ rfl (stO _ (Qae ..) (?_)))))))))))))
 exact stT (bneT (by simp [scv]; omega)) (Qcd rfl (by decide))
theorem Qw2 (u r : Bs) (b : Bk) (kind : Int) (i : Nat) (hu : (10 : UInt8) ∉ u) (hul : u.length ≤ 10000) (hr : r.length ≤ 70000) (hi : i ≤ 70000) (w : Bs) (t : List Bs) (hw : QbS u = some (w :: t)) (hb : (Qar w == 0) = (i == 0)) (hc : ¬ Qar w < kind) (hK : Qar w = 3) (hl : t.length ≠ 3) : Evt fun n => ∀ k, pL lb n (k + 1) (u ++ 10 :: r) ((i : Int) + 1) b kind = QdW n k r b kind i (QaX b kind (i == 0) u) (pL lb) := by
 have hF : QaX b kind (i == 0) u = (((Qex b (w :: t)).1, 3), (Qex b (w :: t)).2) := by
  rw [Qb6 hw hb hc (by rw [hK]; decide), hK]
  rfl
 refine Evt.imp2 (Evt.imp2 (Qcc (lb + 1) u r hu (by omega) hr) (Qa0 (lb + 1) u (by omega)) fun n a b => And.intro a b) (QcH (lb + 1) w) fun n ⟨c1, c2⟩ c3 k => ?_
 rw [Qdh hw] at c2
 rw [hF, Qsl hl, pL, Qal]
 refine stO _ rfl (stT (QcN u r) (stO _ c1 (stO _ rfl (stO _ rfl (stO _ rfl (stO _ rfl (stO _ rfl (stO _ rfl (stO _ rfl (stF rfl (stO _ c2 (stO _ rfl (stO _ rfl (stO _ rfl (stO _ rfl (stO _ (Qae ..) (?_)))))))))))))))))
 refine stF rfl (stO _ rfl (stF (by simp [scv] <;> omega) (stO _ rfl (stO _ rfl (stC rfl (stO _ rfl (stO _ c3 (stO _ (Qae ..) (?_)))))))))
 refine stF (decF (by rw [hK]; decide)) (stO _ (Qae ..) (stF (by rw [QcG, ← hb]; simp) (stO _ (Qae ..) (stO _ (Qae ..) (stF (decF hc) (stC rfl (stO _ rfl (stO _ (show CV.asN (.int .i64 (Qar w)) = some 3 by rw [hK]; rfl) (stO _ (kAt 3 (by decide)) (stC rfl (stO _ rfl (stO _ (Qae ..) (?_)))))))))))))
 exact stT (bneT (by simp [scv]; omega)) (Qcd rfl (by decide))
theorem Qxc (u r : Bs) (b : Bk) (kind : Int) (i : Nat) (hu : (10 : UInt8) ∉ u) (hul : u.length ≤ 10000) (hr : r.length ≤ 70000) (hi : i ≤ 70000) (w l x y : Bs) (hw : QbS u = some [w, l, x, y]) (hb : (Qar w == 0) = (i == 0)) (hc : ¬ Qar w < kind) (hK : Qar w = 0) : Evt fun n => ∀ k, pL lb n (k + 1) (u ++ 10 :: r) ((i : Int) + 1) b kind = QdW n k r b kind i (QaX b kind (i == 0) u) (pL lb) := by
 have hF : QaX b kind (i == 0) u = (((Qey b [w, l, x, y]).1, 0), (Qey b [w, l, x, y]).2) := by
  rw [Qb6 hw hb hc (by rw [hK]; decide), hK]
  rfl
 have hx : ∀ q ∈ [x, y], q.length ≤ 1000000000 := fun q hq => by
  have := Qet hw (List.mem_cons_of_mem _ (List.mem_cons_of_mem _ hq)); omega
 have hl1 : l.length ≤ 10000 := by have := Qet hw (w := l) (by simp); omega
 have hN := QkA lb u.isEmpty [x, y] (by simp) hx
 have hKw : w = bookingW := by
  rcases QeW w with ⟨h, e⟩ | ⟨h, e⟩ | ⟨h, e⟩ | ⟨h, e⟩ | h
  all_goals (first | exact e | (rw [h] at hK; exact absurd hK (by decide)))
 cases hn : QaV [x, y] with
 | none =>
  refine Evt.imp2 (Evt.imp2 (Evt.imp2 (Qcc (lb + 1) u r hu (by omega) hr) (Qa0 (lb + 1) u (by omega)) fun n a b => And.intro a b) (QcH (lb + 1) w) fun n a b => And.intro a b) hN fun n ⟨⟨c1, c2⟩, c3⟩ c4 k => ?_
  rw [Qdh hw] at c2
  rw [hn] at c4
  rw [hF, show Qey b [w, l, x, y] = (b, 3) by rw [QnN, hn], pL, Qal]
  refine stO _ rfl (stT (QcN u r) (stO _ c1 (stO _ rfl (stO _ rfl (stO _ rfl (stO _ rfl (stO _ rfl (stO _ rfl (stO _ rfl (stF rfl (stO _ c2 (stO _ rfl (stO _ rfl (stO _ rfl (stO _ rfl (stO _ (Qae ..) (?_)))))))))))))))))
  refine stF rfl (stO _ rfl (stF (by simp [scv] <;> omega) (stO _ rfl (stO _ rfl (stC rfl (stO _ rfl (stO _ c3 (stO _ (Qae ..) (?_)))))))))
  refine stF (decF (by rw [hK]; decide)) (stO _ (Qae ..) (stF (by rw [QcG, ← hb]; simp) (stO _ (Qae ..) (stO _ (Qae ..) (stF (decF hc) (stC rfl (stO _ rfl (stO _ (show CV.asN (.int .i64 (Qar w)) = some 0 by rw [hK]; rfl) (stO _ (kAt 0 (by decide)) (stC rfl (stO _ rfl (stO _ (Qae ..) (?_)))))))))))))
  refine stF rfl ?_
  refine stO _ (Qae ..) (stT (by rw [hK]; rfl) (?_))
  refine stO _ rfl (stC (Qh9 _) (stC rfl (stO _ c4 (?_))))
  exact stO _ rfl (stO _ rfl (stO _ rfl (stO _ rfl (stO _ rfl (stT rfl (Qcd rfl (by decide)))))))
 | some m =>
  obtain ⟨rfl, z1, z2⟩ := Qip hn
  obtain ⟨e1, k1⟩ := Qch z1
  obtain ⟨e2, k2⟩ := Qch z2
  refine Evt.imp2 (Evt.imp2 (Evt.imp2 (Qcc (lb + 1) u r hu (by omega) hr) (Qa0 (lb + 1) u (by omega)) fun n a b => And.intro a b) (QcH (lb + 1) w) fun n a b => And.intro a b) (Evt.imp2 hN (QmT (lb + 1) { b with loc := l, lim := (numB x).1, grp := (numB y).1 } hl1 k1 k2) fun n a b => And.intro a b) fun n ⟨⟨c1, c2⟩, c3⟩ ⟨c4, c5⟩ k => ?_
  have hback : QaO (QbX { b with loc := l, lim := (numB x).1, grp := (numB y).1 }) = u := by
   rw [Qf5 hw, hKw]
   conv => rhs; rw [e1, e2]
   rfl
  rw [Qdh hw] at c2
  rw [hn] at c4
  rw [hback] at c5
  rw [hF, show Qey b [w, l, x, y] = ({ b with loc := l, lim := (numB x).1, grp := (numB y).1 }, 0) by rw [QnN, hn], pL, Qal]
  refine stO _ rfl (stT (QcN u r) (stO _ c1 (stO _ rfl (stO _ rfl (stO _ rfl (stO _ rfl (stO _ rfl (stO _ rfl (stO _ rfl (stF rfl (stO _ c2 (stO _ rfl (stO _ rfl (stO _ rfl (stO _ rfl (stO _ (Qae ..) (?_)))))))))))))))))
  refine stF rfl (stO _ rfl (stF (by simp [scv] <;> omega) (stO _ rfl (stO _ rfl (stC rfl (stO _ rfl (stO _ c3 (stO _ (Qae ..) (?_)))))))))
  refine stF (decF (by rw [hK]; decide)) (stO _ (Qae ..) (stF (by rw [QcG, ← hb]; simp) (stO _ (Qae ..) (stO _ (Qae ..) (stF (decF hc) (stC rfl (stO _ rfl (stO _ (show CV.asN (.int .i64 (Qar w)) = some 0 by rw [hK]; rfl) (stO _ (kAt 0 (by decide)) (stC rfl (stO _ rfl (stO _ (Qae ..) (?_)))))))))))))
  refine stF rfl ?_
  refine stO _ (Qae ..) (stT (by rw [hK]; rfl) (?_))
  refine stO _ rfl (stC (Qh9 _) (stC rfl (stO _ c4 (?_))))
  refine stO _ rfl (stO _ rfl (stO _ rfl (stO _ rfl (stO _ rfl (stF rfl ?_)))))
  refine stO _ rfl (stO _ rfl (stC rfl (stO _ rfl (stO _ rfl (stO _ rfl (stC rfl (stO _ rfl (stO _ rfl (stO _ rfl (stC rfl (stO _ rfl (stC rfl (stC rfl (stC rfl (?_)))))))))))))))
  refine stO _ c5 (stO _ rfl (stO _ rfl (stF (by simp) ?_)))
  rw [Qs4 hi, hK]
  exact Qi4 (n := n) (k := k) (r := r) (b := b) (kind := kind) (i := i) (L := pL lb) (x := (({ b with loc := l, lim := (numB x).1, grp := (numB y).1 }, 0), 0)) rfl
theorem Qxq (u r : Bs) (b : Bk) (kind : Int) (i : Nat) (hu : (10 : UInt8) ∉ u) (hul : u.length ≤ 10000) (hr : r.length ≤ 70000) (hi : i ≤ 70000) (w l x y : Bs) (hw : QbS u = some [w, l, x, y]) (hb : (Qar w == 0) = (i == 0)) (hc : ¬ Qar w < kind) (hK : Qar w = 3) (hcn : b.svs.length ≤ 100000) : Evt fun n => ∀ k, pL lb n (k + 1) (u ++ 10 :: r) ((i : Int) + 1) b kind = QdW n k r b kind i (QaX b kind (i == 0) u) (pL lb) := by
 have hF : QaX b kind (i == 0) u = (((Qex b [w, l, x, y]).1, 3), (Qex b [w, l, x, y]).2) := by
  rw [Qb6 hw hb hc (by rw [hK]; decide), hK]
  rfl
 have hx : ∀ q ∈ [x, y], q.length ≤ 1000000000 := fun q hq => by
  have := Qet hw (List.mem_cons_of_mem _ (List.mem_cons_of_mem _ hq)); omega
 have hl1 : l.length ≤ 10000 := by have := Qet hw (w := l) (by simp); omega
 have hN := QkA lb u.isEmpty [x, y] (by simp) hx
 have hKw : w = serviceW := by
  rcases QeW w with ⟨h, e⟩ | ⟨h, e⟩ | ⟨h, e⟩ | ⟨h, e⟩ | h
  all_goals (first | exact e | (rw [h] at hK; exact absurd hK (by decide)))
 cases hn : QaV [x, y] with
 | none =>
  refine Evt.imp2 (Evt.imp2 (Evt.imp2 (Qcc (lb + 1) u r hu (by omega) hr) (Qa0 (lb + 1) u (by omega)) fun n a b => And.intro a b) (QcH (lb + 1) w) fun n a b => And.intro a b) hN fun n ⟨⟨c1, c2⟩, c3⟩ c4 k => ?_
  rw [Qdh hw] at c2
  rw [hn] at c4
  rw [hF, show Qex b [w, l, x, y] = (b, 3) by rw [QnO, hn], pL, Qal]
  refine stO _ rfl (stT (QcN u r) (stO _ c1 (stO _ rfl (stO _ rfl (stO _ rfl (stO _ rfl (stO _ rfl (stO _ rfl (stO _ rfl (stF rfl (stO _ c2 (stO _ rfl (stO _ rfl (stO _ rfl (stO _ rfl (stO _ (Qae ..) (?_)))))))))))))))))
  refine stF rfl (stO _ rfl (stF (by simp [scv] <;> omega) (stO _ rfl (stO _ rfl (stC rfl (stO _ rfl (stO _ c3 (stO _ (Qae ..) (?_)))))))))
  refine stF (decF (by rw [hK]; decide)) (stO _ (Qae ..) (stF (by rw [QcG, ← hb]; simp) (stO _ (Qae ..) (stO _ (Qae ..) (stF (decF hc) (stC rfl (stO _ rfl (stO _ (show CV.asN (.int .i64 (Qar w)) = some 3 by rw [hK]; rfl) (stO _ (kAt 3 (by decide)) (stC rfl (stO _ rfl (stO _ (Qae ..) (?_)))))))))))))
  refine stF rfl ?_
  refine stO _ (Qae ..) (stF (by rw [hK]; rfl) (stO _ (Qae ..) (stF (by rw [hK]; rfl) (stO _ (Qae ..) (stF (by rw [hK]; rfl) (?_))))))
  refine stO _ rfl (stC (Qh9 _) (stC rfl (stO _ c4 (?_))))
  exact stO _ rfl (stO _ rfl (stO _ rfl (stO _ rfl (stO _ rfl (stT rfl (Qcd rfl (by decide)))))))
 | some m =>
  obtain ⟨rfl, z1, z2⟩ := Qip hn
  obtain ⟨e1, k1⟩ := Qch z1
  obtain ⟨e2, k2⟩ := Qch z2
  refine Evt.imp2 (Evt.imp2 (Evt.imp2 (Qcc (lb + 1) u r hu (by omega) hr) (Qa0 (lb + 1) u (by omega)) fun n a b => And.intro a b) (QcH (lb + 1) w) fun n a b => And.intro a b) (Evt.imp2 hN (Qj5 (lb + 1) ⟨l, (numB x).1, (numB y).1⟩ ⟨hl1, k1, k2⟩) fun n a b => And.intro a b) fun n ⟨⟨c1, c2⟩, c3⟩ ⟨c4, c5⟩ k => ?_
  have hback : QaO (svWs ⟨l, (numB x).1, (numB y).1⟩) = u := by
   rw [Qf5 hw, hKw]
   conv => rhs; rw [e1, e2]
   rfl
  rw [Qdh hw] at c2
  rw [hn] at c4
  rw [hback] at c5
  rw [hF, show Qex b [w, l, x, y] = ({ b with rn := false, svs := b.svs ++ [⟨l, (numB x).1, (numB y).1⟩] }, 0) by rw [QnO, hn], pL, Qal]
  refine stO _ rfl (stT (QcN u r) (stO _ c1 (stO _ rfl (stO _ rfl (stO _ rfl (stO _ rfl (stO _ rfl (stO _ rfl (stO _ rfl (stF rfl (stO _ c2 (stO _ rfl (stO _ rfl (stO _ rfl (stO _ rfl (stO _ (Qae ..) (?_)))))))))))))))))
  refine stF rfl (stO _ rfl (stF (by simp [scv] <;> omega) (stO _ rfl (stO _ rfl (stC rfl (stO _ rfl (stO _ c3 (stO _ (Qae ..) (?_)))))))))
  refine stF (decF (by rw [hK]; decide)) (stO _ (Qae ..) (stF (by rw [QcG, ← hb]; simp) (stO _ (Qae ..) (stO _ (Qae ..) (stF (decF hc) (stC rfl (stO _ rfl (stO _ (show CV.asN (.int .i64 (Qar w)) = some 3 by rw [hK]; rfl) (stO _ (kAt 3 (by decide)) (stC rfl (stO _ rfl (stO _ (Qae ..) (?_)))))))))))))
  refine stF rfl ?_
  refine stO _ (Qae ..) (stF (by rw [hK]; rfl) (stO _ (Qae ..) (stF (by rw [hK]; rfl) (stO _ (Qae ..) (stF (by rw [hK]; rfl) (?_))))))
  refine stO _ rfl (stC (Qh9 _) (stC rfl (stO _ c4 (?_))))
  refine stO _ rfl (stO _ rfl (stO _ rfl (stO _ rfl (stO _ rfl (stF rfl ?_)))))
  refine stO _ rfl (stO _ rfl (stC rfl (stO _ rfl (stO _ rfl (stO _ rfl (stC rfl (stO _ rfl (stO _ rfl (stO _ rfl (stC rfl (stO _ rfl (stC rfl (stC rfl (stC rfl (?_)))))))))))))))
  refine stC (Qbg (by simp; omega)) (stO _ c5 (stO _ rfl (stO _ rfl (stF (by simp) ?_))))
  rw [Qs4 hi, hK]
  rw [show (b.rn && false) = false by simp]
  have hg := Qi4 (n := n) (k := k) (r := r) (b := b) (kind := kind) (i := i) (L := pL lb) (x := (({ b with rn := false, svs := b.svs ++ [⟨l, (numB x).1, (numB y).1⟩] }, 3), 0)) rfl
  rw [← hg]
  show _ = booking_Parse_L1 (lb + 1) n k _ _ _ _ _ _ _ _ _ ((b.svs ++ [(⟨l, (numB x).1, (numB y).1⟩ : Sv)]).map svE) _ _
  rw [List.map_append]
  rfl
theorem Qyo (u r : Bs) (b : Bk) (kind : Int) (i : Nat) (hu : (10 : UInt8) ∉ u) (hul : u.length ≤ 10000) (hr : r.length ≤ 70000) (hi : i ≤ 70000) (w x : Bs) (hw : QbS u = some [w, x]) (hb : (Qar w == 0) = (i == 0)) (hc : ¬ Qar w < kind) (hK : Qar w = 1) (hcn : b.ps.length ≤ 100000) : Evt fun n => ∀ k, pL lb n (k + 1) (u ++ 10 :: r) ((i : Int) + 1) b kind = QdW n k r b kind i (QaX b kind (i == 0) u) (pL lb) := by
 have hF : QaX b kind (i == 0) u = (((QeC b [w, x]).1, 1), (QeC b [w, x]).2) := by
  rw [Qb6 hw hb hc (by rw [hK]; decide), hK]
  rfl
 have hx : x.length ≤ 10000 := by have := Qet hw (w := x) (by simp); omega
 have hP := Qpv (lb + 1) x hx
 have hKw : w = personW := by
  rcases QeW w with ⟨h, e⟩ | ⟨h, e⟩ | ⟨h, e⟩ | ⟨h, e⟩ | h
  all_goals (first | exact e | (rw [h] at hK; exact absurd hK (by decide)))
 by_cases he : (peR x).2 ≠ 0
 ·refine Evt.imp2 (Evt.imp2 (Evt.imp2 (Qcc (lb + 1) u r hu (by omega) hr) (Qa0 (lb + 1) u (by omega)) fun n a b => And.intro a b) (QcH (lb + 1) w) fun n a b => And.intro a b) hP fun n ⟨⟨c1, c2⟩, c3⟩ c4 k => ?_
  rw [Qdh hw] at c2
  rw [hF, show QeC b [w, x] = (b, (peR x).2) by rw [QnZ, if_pos he], pL, Qal]
  refine stO _ rfl (stT (QcN u r) (stO _ c1 (stO _ rfl (stO _ rfl (stO _ rfl (stO _ rfl (stO _ rfl (stO _ rfl (stO _ rfl (stF rfl (stO _ c2 (stO _ rfl (stO _ rfl (stO _ rfl (stO _ rfl (stO _ (Qae ..) (?_)))))))))))))))))
  refine stF rfl (stO _ rfl (stF (by simp [scv] <;> omega) (stO _ rfl (stO _ rfl (stC rfl (stO _ rfl (stO _ c3 (stO _ (Qae ..) (?_)))))))))
  refine stF (decF (by rw [hK]; decide)) (stO _ (Qae ..) (stF (by rw [QcG, ← hb]; simp) (stO _ (Qae ..) (stO _ (Qae ..) (stF (decF hc) (stC rfl (stO _ rfl (stO _ (show CV.asN (.int .i64 (Qar w)) = some 1 by rw [hK]; rfl) (stO _ (kAt 1 (by decide)) (stC rfl (stO _ rfl (stO _ (Qae ..) (?_)))))))))))))
  refine stF rfl ?_
  refine stO _ (Qae ..) (stF (by rw [hK]; rfl) (stO _ (Qae ..) (stT (by rw [hK]; rfl) (?_))))
  refine stO _ rfl (stO _ rfl (stC rfl (stO _ rfl (stO _ c4 (stO _ rfl (stO _ rfl (stO _ rfl (stO _ rfl (stO _ rfl (stC rfl (stO _ rfl (stO _ rfl (stO _ rfl (stO _ (Qae ..) ?_))))))))))))))
  exact stT (bneT he) (stO _ (Qae ..) (stT (bneT he) (Qcd rfl he)))
 ·have he0 : (peR x).2 = 0 := by omega
  obtain ⟨hbk, q1, q2, q3⟩ := QtV he0
  refine Evt.imp2 (Evt.imp2 (Evt.imp2 (Qcc (lb + 1) u r hu (by omega) hr) (Qa0 (lb + 1) u (by omega)) fun n a b => And.intro a b) (QcH (lb + 1) w) fun n a b => And.intro a b) (Evt.imp2 hP (Qlb (lb + 1) (peR x).1 ⟨by omega, by omega, by omega⟩) fun n a b => And.intro a b) fun n ⟨⟨c1, c2⟩, c3⟩ ⟨c4, c5⟩ k => ?_
  have hback : QaO (peWs (peR x).1) = u := by
   rw [Qf5 hw, hKw]
   unfold peWs
   rw [hbk]
  rw [Qdh hw] at c2
  rw [hback] at c5
  rw [hF, show QeC b [w, x] = ({ b with pn := false, ps := b.ps ++ [(peR x).1] }, 0) by rw [QnZ, if_neg he], pL, Qal]
  refine stO _ rfl (stT (QcN u r) (stO _ c1 (stO _ rfl (stO _ rfl (stO _ rfl (stO _ rfl (stO _ rfl (stO _ rfl (stO _ rfl (stF rfl (stO _ c2 (stO _ rfl (stO _ rfl (stO _ rfl (stO _ rfl (stO _ (Qae ..) (?_)))))))))))))))))
  refine stF rfl (stO _ rfl (stF (by simp [scv] <;> omega) (stO _ rfl (stO _ rfl (stC rfl (stO _ rfl (stO _ c3 (stO _ (Qae ..) (?_)))))))))
  refine stF (decF (by rw [hK]; decide)) (stO _ (Qae ..) (stF (by rw [QcG, ← hb]; simp) (stO _ (Qae ..) (stO _ (Qae ..) (stF (decF hc) (stC rfl (stO _ rfl (stO _ (show CV.asN (.int .i64 (Qar w)) = some 1 by rw [hK]; rfl) (stO _ (kAt 1 (by decide)) (stC rfl (stO _ rfl (stO _ (Qae ..) (?_)))))))))))))
  refine stF rfl ?_
  refine stO _ (Qae ..) (stF (by rw [hK]; rfl) (stO _ (Qae ..) (stT (by rw [hK]; rfl) (?_))))
  refine stO _ rfl (stO _ rfl (stC rfl (stO _ rfl (stO _ c4 (stO _ rfl (stO _ rfl (stO _ rfl (stO _ rfl (stO _ rfl (stC rfl (stO _ rfl (stO _ rfl (stO _ rfl (stO _ (Qae ..) ?_))))))))))))))
  refine stF (bneF he0) (stC (Qbg (by simp; omega)) (stO _ c5 (stO _ rfl (stO _ rfl (stF (by simp) ?_)))))
  rw [Qs4 hi, hK, show (b.pn && false) = false by simp]
  have hg := Qi4 (n := n) (k := k) (r := r) (b := b) (kind := kind) (i := i) (L := pL lb) (x := (({ b with pn := false, ps := b.ps ++ [(peR x).1] }, 1), 0)) rfl
  rw [← hg]
  show _ = booking_Parse_L1 (lb + 1) n k _ _ _ _ ((b.ps ++ [(peR x).1]).map peE) _ _ _ _ _ _ _
  rw [List.map_append]
  rfl
theorem Qyu (u r : Bs) (b : Bk) (kind : Int) (i : Nat) (hu : (10 : UInt8) ∉ u) (hul : u.length ≤ 10000) (hr : r.length ≤ 70000) (hi : i ≤ 70000) (w c nu da fr tq de ar cl st ma : Bs) (hw : QbS u = some [w, c, nu, da, fr, tq, de, ar, cl, st, ma]) (hb : (Qar w == 0) = (i == 0)) (hc : ¬ Qar w < kind) (hK : Qar w = 2) (hcn : b.segs.length ≤ 100000) : Evt fun n => ∀ k, pL lb n (k + 1) (u ++ 10 :: r) ((i : Int) + 1) b kind = QdW n k r b kind i (QaX b kind (i == 0) u) (pL lb) := by
 have hF : QaX b kind (i == 0) u = (((segR b [w, c, nu, da, fr, tq, de, ar, cl, st, ma]).1, 2), (segR b [w, c, nu, da, fr, tq, de, ar, cl, st, ma]).2) := by
  rw [Qb6 hw hb hc (by rw [hK]; decide), hK]
  rfl
 have hx : ∀ q ∈ [w, c, nu, da, fr, tq, de, ar, cl, st, ma], q.length ≤ 10000 := fun q hq => by have := Qet hw hq; omega
 have hS := QuL lb u.isEmpty w c nu da fr tq de ar cl st ma (fun q hq => by
  have : q ∈ [w, c, nu, da, fr, tq, de, ar, cl, st, ma] := by simp at hq ⊢; rcases hq with h | h | h | h | h <;> simp [h]
  have := hx q this; omega)
 have hKw : w = segWd := by
  rcases QeW w with ⟨h, e⟩ | ⟨h, e⟩ | ⟨h, e⟩ | ⟨h, e⟩ | h
  all_goals (first | exact e | (rw [h] at hK; exact absurd hK (by decide)))
 cases hn : QaV [nu, da, de, ar, ma] with
 | none =>
  have hsg : sgW c nu da fr tq de ar cl st ma = (noSg, 3) := by unfold sgW; rw [hn]
  rw [hsg] at hS
  refine Evt.imp2 (Evt.imp2 (Evt.imp2 (Qcc (lb + 1) u r hu (by omega) hr) (Qa0 (lb + 1) u (by omega)) fun n a b => And.intro a b) (QcH (lb + 1) w) fun n a b => And.intro a b) hS fun n ⟨⟨c1, c2⟩, c3⟩ c4 k => ?_
  rw [Qdh hw] at c2
  rw [hF, show segR b [w, c, nu, da, fr, tq, de, ar, cl, st, ma] = (b, 3) by rw [QkP, hn], pL, Qal]
  refine stO _ rfl (stT (QcN u r) (stO _ c1 (stO _ rfl (stO _ rfl (stO _ rfl (stO _ rfl (stO _ rfl (stO _ rfl (stO _ rfl (stF rfl (stO _ c2 (stO _ rfl (stO _ rfl (stO _ rfl (stO _ rfl (stO _ (Qae ..) (?_)))))))))))))))))
  refine stF rfl (stO _ rfl (stF (by simp [scv] <;> omega) (stO _ rfl (stO _ rfl (stC rfl (stO _ rfl (stO _ c3 (stO _ (Qae ..) (?_)))))))))
  refine stF (decF (by rw [hK]; decide)) (stO _ (Qae ..) (stF (by rw [QcG, ← hb]; simp) (stO _ (Qae ..) (stO _ (Qae ..) (stF (decF hc) (stC rfl (stO _ rfl (stO _ (show CV.asN (.int .i64 (Qar w)) = some 2 by rw [hK]; rfl) (stO _ (kAt 2 (by decide)) (stC rfl (stO _ rfl (stO _ (Qae ..) (?_)))))))))))))
  refine stF rfl ?_
  refine stO _ (Qae ..) (stF (by rw [hK]; rfl) (stO _ (Qae ..) (stF (by rw [hK]; rfl) (stO _ (Qae ..) (stT (by rw [hK]; rfl) (?_))))))
  refine stO _ c4 (stO _ rfl (stO _ rfl (stO _ rfl (stO _ rfl (stO _ rfl (stC rfl (stO _ rfl (stO _ rfl (stO _ rfl (stO _ rfl (stO _ rfl (stO _ rfl (stO _ rfl (stO _ rfl (stO _ rfl (stO _ rfl (stO _ (Qae ..) (?_))))))))))))))))))
  exact stT rfl (stO _ (Qae ..) (stT rfl (Qcd rfl (by decide))))
 | some m =>
  obtain ⟨rfl, z1, z2, z3, z4, z5⟩ := QlU hn
  obtain ⟨e1, k1⟩ := Qch z1
  obtain ⟨e2, k2⟩ := Qch z2
  obtain ⟨e3, k3⟩ := Qch z3
  obtain ⟨e4, k4⟩ := Qch z4
  obtain ⟨e5, k5⟩ := Qch z5
  have hsg : sgW c nu da fr tq de ar cl st ma = (⟨c, (numB nu).1, (numB da).1, fr, tq, (numB de).1, (numB ar).1, cl, (staR st).1, (numB ma).1⟩, (staR st).2) := by unfold sgW; rw [hn]
  rw [hsg] at hS
  by_cases he : (staR st).2 ≠ 0
  ·refine Evt.imp2 (Evt.imp2 (Evt.imp2 (Qcc (lb + 1) u r hu (by omega) hr) (Qa0 (lb + 1) u (by omega)) fun n a b => And.intro a b) (QcH (lb + 1) w) fun n a b => And.intro a b) hS fun n ⟨⟨c1, c2⟩, c3⟩ c4 k => ?_
   rw [Qdh hw] at c2
   rw [hF, show segR b [w, c, nu, da, fr, tq, de, ar, cl, st, ma] = (b, (staR st).2) by rw [QkP, hn]; exact if_pos he, pL, Qal]
   refine stO _ rfl (stT (QcN u r) (stO _ c1 (stO _ rfl (stO _ rfl (stO _ rfl (stO _ rfl (stO _ rfl (stO _ rfl (stO _ rfl (stF rfl (stO _ c2 (stO _ rfl (stO _ rfl (stO _ rfl (stO _ rfl (stO _ (Qae ..) (?_)))))))))))))))))
   refine stF rfl (stO _ rfl (stF (by simp [scv] <;> omega) (stO _ rfl (stO _ rfl (stC rfl (stO _ rfl (stO _ c3 (stO _ (Qae ..) (?_)))))))))
   refine stF (decF (by rw [hK]; decide)) (stO _ (Qae ..) (stF (by rw [QcG, ← hb]; simp) (stO _ (Qae ..) (stO _ (Qae ..) (stF (decF hc) (stC rfl (stO _ rfl (stO _ (show CV.asN (.int .i64 (Qar w)) = some 2 by rw [hK]; rfl) (stO _ (kAt 2 (by decide)) (stC rfl (stO _ rfl (stO _ (Qae ..) (?_)))))))))))))
   refine stF rfl ?_
   refine stO _ (Qae ..) (stF (by rw [hK]; rfl) (stO _ (Qae ..) (stF (by rw [hK]; rfl) (stO _ (Qae ..) (stT (by rw [hK]; rfl) (?_))))))
   refine stO _ c4 (stO _ rfl (stO _ rfl (stO _ rfl (stO _ rfl (stO _ rfl (stC rfl (stO _ rfl (stO _ rfl (stO _ rfl (stO _ rfl (stO _ rfl (stO _ rfl (stO _ rfl (stO _ rfl (stO _ rfl (stO _ rfl (stO _ (Qae ..) (?_))))))))))))))))))
   exact stT (bneT he) (stO _ (Qae ..) (stT (bneT he) (Qcd rfl he)))
  ·have he0 : (staR st).2 = 0 := by omega
   obtain ⟨hst, s1, s2⟩ := Qsd he0
   have hL := QoF (lb + 1) ⟨c, (numB nu).1, (numB da).1, fr, tq, (numB de).1, (numB ar).1, cl, (staR st).1, (numB ma).1⟩ ⟨⟨hx c (by simp), hx fr (by simp), hx tq (by simp), hx cl (by simp)⟩, k1, k2, k3, k4, ⟨by simp only; omega, by simp only; omega⟩, k5⟩
   have hback : QaO (sgWs ⟨c, (numB nu).1, (numB da).1, fr, tq, (numB de).1, (numB ar).1, cl, (staR st).1, (numB ma).1⟩) = u := by
    rw [Qf5 hw, hKw]
    unfold sgWs
    simp only
    rw [← hst, ← e1, ← e2, ← e3, ← e4, ← e5]
   rw [hback] at hL
   refine Evt.imp2 (Evt.imp2 (Evt.imp2 (Qcc (lb + 1) u r hu (by omega) hr) (Qa0 (lb + 1) u (by omega)) fun n a b => And.intro a b) (QcH (lb + 1) w) fun n a b => And.intro a b) (Evt.imp2 hS hL fun n a b => And.intro a b) fun n ⟨⟨c1, c2⟩, c3⟩ ⟨c4, c5⟩ k => ?_
   rw [Qdh hw] at c2
   rw [hF, show segR b [w, c, nu, da, fr, tq, de, ar, cl, st, ma] = ({ b with bn := false, segs := b.segs ++ [⟨c, (numB nu).1, (numB da).1, fr, tq, (numB de).1, (numB ar).1, cl, (staR st).1, (numB ma).1⟩] }, 0) by rw [QkP, hn]; exact if_neg he, pL, Qal]
   refine stO _ rfl (stT (QcN u r) (stO _ c1 (stO _ rfl (stO _ rfl (stO _ rfl (stO _ rfl (stO _ rfl (stO _ rfl (stO _ rfl (stF rfl (stO _ c2 (stO _ rfl (stO _ rfl (stO _ rfl (stO _ rfl (stO _ (Qae ..) (?_)))))))))))))))))
   refine stF rfl (stO _ rfl (stF (by simp [scv] <;> omega) (stO _ rfl (stO _ rfl (stC rfl (stO _ rfl (stO _ c3 (stO _ (Qae ..) (?_)))))))))
   refine stF (decF (by rw [hK]; decide)) (stO _ (Qae ..) (stF (by rw [QcG, ← hb]; simp) (stO _ (Qae ..) (stO _ (Qae ..) (stF (decF hc) (stC rfl (stO _ rfl (stO _ (show CV.asN (.int .i64 (Qar w)) = some 2 by rw [hK]; rfl) (stO _ (kAt 2 (by decide)) (stC rfl (stO _ rfl (stO _ (Qae ..) (?_)))))))))))))
   refine stF rfl ?_
   refine stO _ (Qae ..) (stF (by rw [hK]; rfl) (stO _ (Qae ..) (stF (by rw [hK]; rfl) (stO _ (Qae ..) (stT (by rw [hK]; rfl) (?_))))))
   refine stO _ c4 (stO _ rfl (stO _ rfl (stO _ rfl (stO _ rfl (stO _ rfl (stC rfl (stO _ rfl (stO _ rfl (stO _ rfl (stO _ rfl (stO _ rfl (stO _ rfl (stO _ rfl (stO _ rfl (stO _ rfl (stO _ rfl (stO _ (Qae ..) (?_))))))))))))))))))
   refine stF (bneF he0) (stC (Qbg (by simp; omega)) (stO _ c5 (stO _ rfl (stO _ rfl (stF (by simp) ?_)))))
   rw [Qs4 hi, hK, show (b.bn && false) = false by simp]
   have hg := Qi4 (n := n) (k := k) (r := r) (b := b) (kind := kind) (i := i) (L := pL lb) (x := (({ b with bn := false, segs := b.segs ++ [⟨c, (numB nu).1, (numB da).1, fr, tq, (numB de).1, (numB ar).1, cl, (staR st).1, (numB ma).1⟩] }, 2), 0)) rfl
   rw [← hg]
   show _ = booking_Parse_L1 (lb + 1) n k _ _ _ _ _ _ _ ((b.segs ++ [(⟨c, (numB nu).1, (numB da).1, fr, tq, (numB de).1, (numB ar).1, cl, (staR st).1, (numB ma).1⟩ : Sg)]).map sgE) _ _ _ _
   rw [List.map_append]
   rfl
end Go.Proofs
set_option linter.unusedSimpArgs false
set_option linter.unusedVariables false
namespace Go.Proofs
open Go.Am
variable (lb : Nat)
theorem Qyn (u r : Bs) (b : Bk) (kind : Int) (i : Nat) (hu : (10 : UInt8) ∉ u) (hul : u.length ≤ 10000) (hr : r.length ≤ 70000) (hi : i ≤ 70000) (hcn : cntB b ≤ 100000) :
  Evt fun n => ∀ k, pL lb n (k + 1) (u ++ 10 :: r) ((i : Int) + 1) b kind = QdW n k r b kind i (QaX b kind (i == 0) u) (pL lb) := by
 unfold cntB at hcn
 cases hw : QbS u with
 | none => exact QxB lb u r b kind i hu hul hr hi hw
 | some l =>
  cases l with
  | nil => exact Qyb lb u r b kind i hu hul hr hi hw
  | cons w t =>
   by_cases hk : Qar w < 0 ∨ (Qar w == 0) ≠ (i == 0) ∨ Qar w < kind
   ·exact Qyw lb u r b kind i hu hul hr hi w t hw hk
   have h0 : ¬ Qar w < 0 := fun h => hk (.inl h)
   have hb : (Qar w == 0) = (i == 0) := Decidable.byContradiction fun h => hk (.inr (.inl h))
   have hc : ¬ Qar w < kind := fun h => hk (.inr (.inr h))
   rcases QeW w with ⟨hK, e⟩ | ⟨hK, e⟩ | ⟨hK, e⟩ | ⟨hK, e⟩ | hK
   ·by_cases hl : t.length = 3
    ·obtain ⟨l, x, y, rfl⟩ := Qj3 hl
     exact Qxc lb u r b kind i hu hul hr hi w l x y hw hb hc hK
    ·exact Qxl lb u r b kind i hu hul hr hi w t hw hb hc hK hl
   ·by_cases hl : t.length = 1
    ·obtain ⟨x, rfl⟩ := Qvh hl
     exact Qyo lb u r b kind i hu hul hr hi w x hw hb hc hK (by omega)
    ·exact QwV lb u r b kind i hu hul hr hi w t hw hb hc hK hl
   ·by_cases hl : t.length = 10
    ·obtain ⟨c, nu, da, fr, tq, de, ar, cl, st, ma, rfl⟩ := Qvt hl
     exact Qyu lb u r b kind i hu hul hr hi w c nu da fr tq de ar cl st ma hw hb hc hK (by omega)
    ·exact QwM lb u r b kind i hu hul hr hi w t hw hb hc hK hl
   ·by_cases hl : t.length = 3
    ·obtain ⟨l, x, y, rfl⟩ := Qj3 hl
     exact Qxq lb u r b kind i hu hul hr hi w l x y hw hb hc hK (by omega)
    ·exact Qw2 lb u r b kind i hu hul hr hi w t hw hb hc hK hl
   ·rw [hK] at h0; exact absurd (by decide) h0
theorem Qxp {b : Bk} {w : Bs} {t : List Bs} (hb : StL b) (hul : ∀ q ∈ w :: t, q.length ≤ 10000) (h0 : ¬ Qar w < 0) (h : (Qe5 b (Qar w) (w :: t)).2 = 0) :
  StL (Qe5 b (Qar w) (w :: t)).1 ∧ cntB (Qe5 b (Qar w) (w :: t)).1 ≤ cntB b + 1 ∧ 3 ≤ w.length := by
 rcases QeW w with ⟨hK, e⟩ | ⟨hK, e⟩ | ⟨hK, e⟩ | ⟨hK, e⟩ | hK
 ·rw [hK] at h ⊢
  have hR : Qe5 b 0 (w :: t) = Qey b (w :: t) := rfl
  rw [hR] at h ⊢
  obtain ⟨l, x, y, rfl, z1, z2, hq⟩ := QxD h
  rw [hq]
  exact ⟨⟨hul l (by simp), (Qch z1).2, (Qch z2).2, hb.ps, hb.sg, hb.sv⟩, by simp [cntB], by rw [e]; decide⟩
 ·rw [hK] at h ⊢
  have hR : Qe5 b 1 (w :: t) = QeC b (w :: t) := rfl
  rw [hR] at h ⊢
  obtain ⟨x, rfl, z1, hq⟩ := Qw8 h
  have hx := hul x (by simp)
  obtain ⟨_, q1, q2, q3⟩ := QtV z1
  rw [hq]
  refine ⟨⟨hb.loc, hb.lim, hb.grp, fun p hp => ?_, hb.sg, hb.sv⟩, by simp [cntB]; omega, by rw [e]; decide⟩
  rcases List.mem_append.1 hp with hp | hp
  ·exact hb.ps p hp
  ·rw [List.mem_singleton.1 hp]; exact ⟨by omega, by omega, by omega⟩
 ·rw [hK] at h ⊢
  have hR : Qe5 b 2 (w :: t) = segR b (w :: t) := rfl
  rw [hR] at h ⊢
  obtain ⟨c, nu, da, fr, tq, de, ar, cl, st, ma, rfl, ⟨z1, z2, z3, z4, z5⟩, z6, hq⟩ := QxI h
  obtain ⟨_, s1, s2⟩ := Qsd z6
  rw [hq]
  refine ⟨⟨hb.loc, hb.lim, hb.grp, hb.ps, fun p hp => ?_, hb.sv⟩, by simp [cntB]; omega, by rw [e]; decide⟩
  rcases List.mem_append.1 hp with hp | hp
  ·exact hb.sg p hp
  ·rw [List.mem_singleton.1 hp]
   exact ⟨⟨hul c (by simp), hul fr (by simp), hul tq (by simp), hul cl (by simp)⟩, (Qch z1).2, (Qch z2).2, (Qch z3).2, (Qch z4).2, ⟨by simp only; omega, by simp only; omega⟩, (Qch z5).2⟩
 ·rw [hK] at h ⊢
  have hR : Qe5 b 3 (w :: t) = Qex b (w :: t) := rfl
  rw [hR] at h ⊢
  obtain ⟨l, x, y, rfl, z1, z2, hq⟩ := QwW h
  rw [hq]
  refine ⟨⟨hb.loc, hb.lim, hb.grp, hb.ps, hb.sg, fun p hp => ?_⟩, by simp [cntB]; omega, by rw [e]; decide⟩
  rcases List.mem_append.1 hp with hp | hp
  ·exact hb.sv p hp
  ·rw [List.mem_singleton.1 hp]; exact ⟨hul l (by simp), (Qch z1).2, (Qch z2).2⟩
 ·rw [hK] at h0; exact absurd (by decide) h0
theorem Qyd {b : Bk} {kind : Int} {first : Bool} {u : Bs} (h : (QaX b kind first u).2 = 0) : ∃ w t, QbS u = some (w :: t) ∧ (¬ Qar w < 0) ∧ (Qar w == 0) = first ∧ (¬ Qar w < kind) ∧ (Qe5 b (Qar w) (w :: t)).2 = 0 ∧ QaX b kind first u = (((Qe5 b (Qar w) (w :: t)).1, Qar w), 0) := by
 cases hw : QbS u with
 | none => unfold QaX at h; rw [hw] at h; exact absurd (show (3 : Int) = 0 from h) (by decide)
 | some l =>
  cases l with
  | nil => unfold QaX at h; rw [hw] at h; exact absurd (show (3 : Int) = 0 from h) (by decide)
  | cons w t =>
   by_cases hk : Qar w < 0 ∨ (Qar w == 0) ≠ first ∨ Qar w < kind
   ·have hF : QaX b kind first u = ((b, kind), 3) := by unfold QaX; rw [hw]; exact if_pos hk
    rw [hF] at h; exact absurd (show (3 : Int) = 0 from h) (by decide)
   have h0 : ¬ Qar w < 0 := fun h => hk (.inl h)
   have hb : (Qar w == 0) = first := Decidable.byContradiction fun h => hk (.inr (.inl h))
   have hc : ¬ Qar w < kind := fun h => hk (.inr (.inr h))
   have hF := Qb6 hw hb hc h0 (b := b)
   rw [hF] at h
   have h' : (Qe5 b (Qar w) (w :: t)).2 = 0 := h
   rw [h'] at hF
   exact ⟨w, t, rfl, h0, hb, hc, h', hF⟩
theorem QxF {b : Bk} {kind : Int} {first : Bool} {u : Bs} (hb : StL b) (hul : u.length ≤ 10000) (h : (QaX b kind first u).2 = 0) :
  StL (QaX b kind first u).1.1 ∧ cntB (QaX b kind first u).1.1 ≤ cntB b + 1 ∧ 3 ≤ u.length := by
 obtain ⟨w, t, hw, h0, _, _, hr, hF⟩ := Qyd h
 have hq : ∀ q ∈ w :: t, q.length ≤ 10000 := fun q hq => by have := Qet hw hq; omega
 obtain ⟨r1, r2, r3⟩ := Qxp hb hq h0 hr
 rw [hF]
 exact ⟨r1, r2, by have := Qet hw (w := w) (by simp); omega⟩
def nL (l : List Bs) : Nat := (l.filter fun p => decide (3 ≤ p.length)).length
theorem QrE (u : Bs) (l : List Bs) : nL (u :: l) = if 3 ≤ u.length then nL l + 1 else nL l := by
 unfold nL
 rw [List.filter_cons]
 by_cases h : 3 ≤ u.length <;> simp [h]
theorem Qyx {b : Bk} (hb : StL b) (hc : cntB b ≤ 1000) (i kind : Int) (v : CV) : Evt fun n => Qgn (lb + 1) n v i (.str b.loc) b.pn (b.ps.map peE) (.int .i64 b.grp) b.bn (b.segs.map sgE) b.rn (b.svs.map svE) (.int .i64 b.lim) (.int .i64 kind) = some (psV (endF b)) := by
 refine ((hb.ok hc).checks (lb + 1)).1.mono fun n c => ?_
 rw [Qhu]
 refine stO _ c (stO _ rfl ?_)
 unfold endF
 cases QcU b with
 | nil => exact stF rfl rfl
 | cons f l => exact stT (decT (by simp)) (stO _ rfl (stO _ (Qud f l) (stC rfl (stO _ rfl rfl))))
theorem Qwc : ∀ (N : Nat) (s : Bs) (b : Bk) (kind : Int) (i : Nat), s.length ≤ N → i + s.length ≤ 70000 → StL b → cntB b + nL (QaL 10 s) ≤ 1000 → (∀ p ∈ QaL 10 s, p.length ≤ 10000) → (s = [] → i ≠ 0) →
  Evt fun n => ∀ k, s.length < k → pL lb n k s ((i : Int) + 1) b kind = some (psV (Qfc b kind i (QaL 10 s))) := by
 intro N
 induction N with
 | zero =>
  intro s b kind i hs hi hb hc hp hz
  have h0 : s = [] := List.eq_nil_of_length_eq_zero (by omega)
  subst h0
  refine (Qyx lb hb (by omega) ((i : Int) + 1) kind (.str [])).mono fun n c k hk => ?_
  obtain ⟨k, rfl⟩ : ∃ j, k = j + 1 := ⟨k - 1, by simp at hk; omega⟩
  rw [pL, Qal]
  refine stO _ rfl (stF rfl ?_)
  show _ = some (psV (if ([] : Bs) = [] ∧ i ≠ 0 then endF b else (zBk, (i : Int) + 1, 3)))
  rw [if_pos ⟨rfl, hz rfl⟩]
  exact c
 | succ N ih =>
  intro s b kind i hs hi hb hc hp hz
  by_cases h0 : s = []
  ·exact ih s b kind i (by rw [h0]; exact Nat.zero_le _) hi hb hc hp hz
  rcases QlW (c := 10) s with hn | ⟨u, r, rfl, hu⟩
  ·have hcut := Qtf (lb + 1) s (by omega)
   rw [QxP hn] at hcut
   refine hcut.mono fun n c k hk => ?_
   obtain ⟨k, rfl⟩ : ∃ j, k = j + 1 := ⟨k - 1, by omega⟩
   rw [Qov hn, pL, Qal]
   refine stO _ rfl (stT (by cases s with | nil => exact absurd rfl h0 | cons => rfl) (stO _ c (stO _ rfl (stO _ rfl (stO _ rfl (stO _ rfl (stO _ rfl (stO _ rfl (stO _ rfl (stT rfl ?_))))))))))
   show _ = some (psV (if s = [] ∧ i ≠ 0 then endF b else (zBk, (i : Int) + 1, 3)))
   rw [if_neg fun h => h0 h.1]
   rfl
  ·have hsp := QdT (c := 10) r hu
   rw [hsp] at hc hp ⊢
   have hlen : (u ++ 10 :: r).length = u.length + (r.length + 1) := by simp
   have hul := hp u (List.mem_cons_self ..)
   obtain ⟨t, r', htr⟩ : ∃ t r', QaL 10 r = t :: r' := by
    cases h : QaL 10 r with
    | nil => exact absurd h (Qkd 10 r)
    | cons t r' => exact ⟨t, r', rfl⟩
   have hA := Qyn lb u r b kind i hu hul (by omega) (by omega) (by omega)
   by_cases he : (QaX b kind (i == 0) u).2 ≠ 0
   ·refine hA.mono fun n c k hk => ?_
    obtain ⟨k, rfl⟩ : ∃ j, k = j + 1 := ⟨k - 1, by omega⟩
    rw [c k, htr]
    unfold QdW Qfc
    rw [if_pos he, if_pos he]
    rfl
   ·obtain ⟨k1, k2, k3⟩ := QxF hb hul (show (QaX b kind (i == 0) u).2 = 0 by omega)
    rw [QrE, if_pos k3] at hc
    refine Evt.imp2 hA (ih r (QaX b kind (i == 0) u).1.1 (QaX b kind (i == 0) u).1.2 (i + 1) (by omega) (by omega) k1 (by omega) (fun p hq => hp p (List.mem_cons_of_mem _ hq)) (fun _ => by omega)) fun n c hi2 k hk => ?_
    obtain ⟨k, rfl⟩ : ∃ j, k = j + 1 := ⟨k - 1, by omega⟩
    rw [c k]
    have := hi2 k (by omega)
    rw [htr] at this ⊢
    unfold QdW
    rw [if_neg he, this]
    conv => rhs; unfold Qfc
    rw [if_neg he]
theorem Qi2 (s : Bs) (hc : nL (QaL 10 s) ≤ 1000) (hp : s.length ≤ 65536 → ∀ p ∈ QaL 10 s, p.length ≤ 10000) : Ret (lb + 1) QaM [.str s] (psV (QjR s)) := by
 unfold QjR
 by_cases h : s.length > 65536
 ·rw [if_pos h]
  exact .top rfl (.all fun n => by
   rw [QeA]
   exact stT (decT (by omega)) rfl)
 rw [if_neg h]
 by_cases h0 : s = []
 ·subst h0
  exact .top rfl (.all fun n => by
   rw [QeA]
   exact stF (decF (by decide)) (stT rfl rfl))
 ·have hL := Qwc lb s.length s zBk 0 0 (Nat.le_refl _) (by omega) QAr (by rw [show cntB zBk = 0 from rfl]; omega) (hp (by omega)) (fun e => absurd e h0)
  refine .top rfl ((Evt.imp2 hL (Evt.ge (s.length + 1)) fun n a b => a n (by omega)).mono fun n c => ?_)
  rw [QeA]
  exact stF (decF (by omega)) (stF (by cases s with | nil => exact absurd rfl h0 | cons => rfl) c)
end Go.Proofs
set_option linter.unusedSimpArgs false
set_option linter.unusedVariables false
namespace Go.Proofs
open Go.Am
theorem Qez {c : Bool} {e : Int} {s : Bs} {f : Fau} (he : c = true → e ≠ 0) (h : f ∈ Qat c e s) : f.1 ≠ 0 := by
 cases c with
 | false => simp [Qat] at h
 | true =>
  simp only [Qat, cond_true, List.mem_singleton] at h
  rw [h]; exact he rfl
theorem Qlk {α : Type} {f : Nat → α → List Fau} {g : Fau} : ∀ (l : List α) (i : Nat), g ∈ idxF f i l → ∃ j x, x ∈ l ∧ g ∈ f j x
 | [], i, h => by simp [idxF] at h
 | x :: l, i, h => by
  simp only [idxF, List.mem_append] at h
  rcases h with h | h
  ·exact ⟨i, x, List.mem_cons_self .., h⟩
  ·obtain ⟨j, y, h1, h2⟩ := Qlk l (i + 1) h
   exact ⟨j, y, List.mem_cons_of_mem _ h1, h2⟩
theorem Qyg {c : Bool} {e f : Int} (he : e ≠ 0) (h : f ∈ Qbi c e) : f ≠ 0 := by
 cases c with
 | true => simp [Qbi] at h
 | false =>
  simp only [Qbi, cond_false, List.mem_singleton] at h
  rw [h]; exact he
theorem QxS {b : Bk} {f : Fau} (h : f ∈ QcU b) : f.1 ≠ 0 := by
 unfold QcU QnJ QaE Qgp at h
 simp only [List.mem_append] at h
 have five : (5 : Int) ≠ 0 := by decide
 rcases h with (((((h | h) | h) | h) | h) | h) | h
 ·exact Qez (fun _ => by decide) h
 ·exact Qez (fun _ => by decide) h
 ·rcases h with h | h | h | h
  ·obtain ⟨j, x, _, h⟩ := Qlk _ _ h
   unfold perF at h
   rcases List.mem_append.1 h with h | h <;> exact Qez (fun _ => by decide) h
  ·exact Qez (fun _ => by decide) h
  ·exact Qez (fun _ => by decide) h
  ·exact Qez (fun _ => by decide) h
 ·exact Qez (fun _ => by decide) h
 ·exact Qez (fun e => by simpa using e) h
 ·obtain ⟨j, x, _, h⟩ := Qlk _ _ h
  unfold segF QcJ at h
  obtain ⟨e, he, rfl⟩ := List.mem_map.1 h
  simp only [List.mem_append] at he
  rcases he with ((he | he) | he) | he <;> exact Qyg (by decide) he
 ·obtain ⟨j, x, _, h⟩ := Qlk _ _ h
  unfold svF at h
  rcases List.mem_append.1 h with h | h <;> exact Qez (fun _ => by decide) h
theorem QmF {α : Type} {f : Nat → α → List Fau} : ∀ (l : List α) (i : Nat), idxF f i l = [] → ∀ x ∈ l, ∃ j, f j x = []
 | [], i, _, x, hx => absurd hx (by simp)
 | y :: l, i, h, x, hx => by
  simp only [idxF, List.append_eq_nil_iff] at h
  rcases List.mem_cons.1 hx with e | hx
  ·exact ⟨i, by rw [e]; exact h.1⟩
  ·exact QmF l (i + 1) h.2 x hx
theorem QqL {c : Bool} {e : Int} {s : Bs} (h : Qat c e s = []) : c = false := by cases c <;> simp [Qat] at h ⊢
theorem Qyl {b : Bk} (h : QcU b = []) : (∀ p ∈ b.ps, QbP p = true ∧ Qb9 p = true) ∧ (∀ s ∈ b.segs, stOk s.st = true) := by
 unfold QcU QnJ QaE at h
 simp only [List.append_eq_nil_iff] at h
 obtain ⟨⟨⟨⟨⟨_, hp, _⟩, _⟩, _⟩, hs⟩, _⟩ := h
 refine ⟨fun p hm => ?_, fun s hm => ?_⟩
 ·obtain ⟨j, hj⟩ := QmF _ _ hp p hm
  unfold perF at hj
  obtain ⟨a1, a2⟩ := List.append_eq_nil_iff.1 hj
  exact ⟨by simpa using QqL a1, by simpa using QqL a2⟩
 ·obtain ⟨j, hj⟩ := QmF _ _ hs s hm
  unfold segF QcJ at hj
  simp only [List.map_eq_nil_iff, List.append_eq_nil_iff] at hj
  have := hj.2
  cases hst : stOk s.st with
  | true => rfl
  | false => rw [hst] at this; simp [Qbi] at this
theorem QzV (c : UInt8) : (10 : UInt8) ∉ esc c := QeI (P := fun c => (10 : UInt8) ∉ esc c) (by decide +kernel) c
theorem QrZ (w : Bs) : (10 : UInt8) ∉ Qby w := by
 unfold Qby
 split
 ·rename_i h
  intro hm
  have := List.all_eq_true.1 (Bool.and_eq_true_iff.1 h).2 10 hm
  exact absurd this (by decide)
 ·unfold quo
  intro hm
  rcases List.mem_cons.1 hm with h | h
  ·exact absurd h (by decide)
  ·rcases List.mem_append.1 h with h | h
   ·obtain ⟨c, _, hc⟩ := List.mem_flatMap.1 h
    exact QzV c hc
   ·exact absurd (List.mem_singleton.1 h) (by decide)
theorem QgL : ∀ l : List Bs, (10 : UInt8) ∉ QaO l
 | [] => by simp [QaO]
 | [w] => QrZ w
 | w :: x :: r => by
  rw [QeE w (by simp)]
  intro hm
  rcases List.mem_append.1 hm with h | h
  ·exact QrZ w h
  ·rcases List.mem_cons.1 h with h | h
   ·exact absurd h (by decide)
   ·exact QgL (x :: r) h
theorem Qnq (w : List Bs) (R : Bs) : lnB w ++ R = QaO w ++ 10 :: R := by simp [lnB]
theorem Qjg {b : Bk} {kind : Int} {i : Nat} {w : List Bs} {R : Bs} {b' : Bk} {k' : Int} (h : QaX b kind (i == 0) (QaO w) = ((b', k'), 0)) : Qfc b kind i (QaL 10 (lnB w ++ R)) = Qfc b' k' (i + 1) (QaL 10 R) := by
 rw [Qnq, QdT R (QgL w)]
 cases hr : QaL 10 R with
 | nil => exact absurd hr (Qkd 10 R)
 | cons t r =>
  conv => lhs; unfold Qfc
  rw [h, if_neg (fun e => e rfl)]
theorem QwE (b : Bk) (h1 : J64 b.lim) (h2 : J64 b.grp) : QaX zBk 0 true (QaO (QbX b)) = (({ zBk with loc := b.loc, lim := b.lim, grp := b.grp }, 0), 0) := by
 rw [Qb6 (u := QaO (QbX b)) (w := bookingW) (t := [b.loc, Lib.itoa b.lim, Lib.itoa b.grp]) (Qia _) (by decide) (by decide) (by decide)]
 show (((Qey zBk (QbX b)).1, _), (Qey zBk (QbX b)).2) = _
 unfold QbX
 rw [QnN, QuA _ _ h1 h2]
 rfl
theorem QzF (c : Bk) (kind : Int) (hk : kind ≤ 1) (p : Pe) (h1 : QbP p = true) (h2 : Qb9 p = true) : QaX c kind false (QaO (peWs p)) = (({ c with pn := false, ps := c.ps ++ [p] }, 1), 0) := by
 rw [Qb6 (u := QaO (peWs p)) (w := personW) (t := [peT p]) (Qia _) (by decide) (by rw [show Qar personW = 1 by decide]; omega) (by decide)]
 rw [show Qar personW = 1 by decide]
 show (((QeC c [personW, peT p]).1, _), (QeC c [personW, peT p]).2) = _
 rw [QnZ, QwO h1 h2]
 rfl
theorem QzK (c : Bk) (kind : Int) (hk : kind ≤ 2) (s : Sg) (h1 : stOk s.st = true) (h : SgL s) : QaX c kind false (QaO (sgWs s)) = (({ c with bn := false, segs := c.segs ++ [s] }, 2), 0) := by
 obtain ⟨_, k1, k2, k3, k4, k5, k6⟩ := h
 rw [Qb6 (u := QaO (sgWs s)) (w := segWd) (t := [s.car, Lib.itoa s.num, Lib.itoa s.day, s.fr, s.to, Lib.itoa s.dep, Lib.itoa s.arr, s.cls, staT s.st, Lib.itoa s.mar]) (Qia _) (by decide) (by rw [show Qar segWd = 2 by decide]; omega) (by decide)]
 rw [show Qar segWd = 2 by decide]
 show (((segR c [segWd, s.car, Lib.itoa s.num, Lib.itoa s.day, s.fr, s.to, Lib.itoa s.dep, Lib.itoa s.arr, s.cls, staT s.st, Lib.itoa s.mar]).1, _), (segR c [segWd, s.car, Lib.itoa s.num, Lib.itoa s.day, s.fr, s.to, Lib.itoa s.dep, Lib.itoa s.arr, s.cls, staT s.st, Lib.itoa s.mar]).2) = _
 rw [QkP, QwR _ _ _ _ _ k1 k2 k3 k4 k6, Qws h1]
 rfl
theorem QzY (c : Bk) (kind : Int) (hk : kind ≤ 3) (x : Sv) (h : SvL x) : QaX c kind false (QaO (svWs x)) = (({ c with rn := false, svs := c.svs ++ [x] }, 3), 0) := by
 obtain ⟨_, k1, k2⟩ := h
 rw [Qb6 (u := QaO (svWs x)) (w := serviceW) (t := [x.cd, Lib.itoa x.pe, Lib.itoa x.sg]) (Qia _) (by decide) (by rw [show Qar serviceW = 3 by decide]; omega) (by decide)]
 rw [show Qar serviceW = 3 by decide]
 show (((Qex c [serviceW, x.cd, Lib.itoa x.pe, Lib.itoa x.sg]).1, _), (Qex c [serviceW, x.cd, Lib.itoa x.pe, Lib.itoa x.sg]).2) = _
 rw [QnO, QuA _ _ k1 k2]
theorem Qim {α : Type} (f : α → List Bs) (x : α) (l : List α) (R : Bs) : Qa5 f (x :: l) ++ R = lnB (f x) ++ (Qa5 f l ++ R) := by simp [Qa5]
theorem ne0 {i : Nat} (h : i ≠ 0) : (i == 0) = false := by simpa using h
theorem QwF (R : Bs) : ∀ (l : List Pe) (c : Bk) (kind : Int) (i : Nat), kind ≤ 1 → i ≠ 0 → (∀ p ∈ l, QbP p = true ∧ Qb9 p = true) →
  ∃ pn k', k' ≤ 1 ∧ Qfc c kind i (QaL 10 (Qa5 peWs l ++ R)) = Qfc { c with pn := pn, ps := c.ps ++ l } k' (i + l.length) (QaL 10 R)
 | [], c, kind, i, hk, hi, _ => ⟨c.pn, kind, hk, by rw [show Qa5 peWs ([] : List Pe) = [] from rfl, List.nil_append, List.append_nil]; rfl⟩
 | p :: l, c, kind, i, hk, hi, h => by
  have hp := h p (List.mem_cons_self ..)
  obtain ⟨pn, k', h1, h2⟩ := QwF R l { c with pn := false, ps := c.ps ++ [p] } 1 (i + 1) (by decide) (by omega) fun q hq => h q (List.mem_cons_of_mem _ hq)
  refine ⟨pn, k', h1, ?_⟩
  rw [Qim, Qjg (by rw [ne0 hi]; exact QzF c kind hk p hp.1 hp.2), h2]
  simp only [List.append_assoc, List.singleton_append, List.length_cons]
  rw [show i + 1 + l.length = i + (l.length + 1) by omega]
theorem Qw6 (R : Bs) : ∀ (l : List Sg) (c : Bk) (kind : Int) (i : Nat), kind ≤ 2 → i ≠ 0 → (∀ s ∈ l, stOk s.st = true) → (∀ s ∈ l, SgL s) →
  ∃ pn k', k' ≤ 2 ∧ Qfc c kind i (QaL 10 (Qa5 sgWs l ++ R)) = Qfc { c with bn := pn, segs := c.segs ++ l } k' (i + l.length) (QaL 10 R)
 | [], c, kind, i, hk, hi, _, _ => ⟨c.bn, kind, hk, by rw [show Qa5 sgWs ([] : List Sg) = [] from rfl, List.nil_append, List.append_nil]; rfl⟩
 | p :: l, c, kind, i, hk, hi, h, hg => by
  obtain ⟨pn, k', h1, h2⟩ := Qw6 R l { c with bn := false, segs := c.segs ++ [p] } 2 (i + 1) (by decide) (by omega) (fun q hq => h q (List.mem_cons_of_mem _ hq)) fun q hq => hg q (List.mem_cons_of_mem _ hq)
  refine ⟨pn, k', h1, ?_⟩
  rw [Qim, Qjg (by rw [ne0 hi]; exact QzK c kind hk p (h p (List.mem_cons_self ..)) (hg p (List.mem_cons_self ..))), h2]
  simp only [List.append_assoc, List.singleton_append, List.length_cons]
  rw [show i + 1 + l.length = i + (l.length + 1) by omega]
theorem QxE (R : Bs) : ∀ (l : List Sv) (c : Bk) (kind : Int) (i : Nat), kind ≤ 3 → i ≠ 0 → (∀ s ∈ l, SvL s) →
  ∃ pn k', k' ≤ 3 ∧ Qfc c kind i (QaL 10 (Qa5 svWs l ++ R)) = Qfc { c with rn := pn, svs := c.svs ++ l } k' (i + l.length) (QaL 10 R)
 | [], c, kind, i, hk, hi, _ => ⟨c.rn, kind, hk, by rw [show Qa5 svWs ([] : List Sv) = [] from rfl, List.nil_append, List.append_nil]; rfl⟩
 | p :: l, c, kind, i, hk, hi, hg => by
  obtain ⟨pn, k', h1, h2⟩ := QxE R l { c with rn := false, svs := c.svs ++ [p] } 3 (i + 1) (by decide) (by omega) fun q hq => hg q (List.mem_cons_of_mem _ hq)
  refine ⟨pn, k', h1, ?_⟩
  rw [Qim, Qjg (by rw [ne0 hi]; exact QzY c kind hk p (hg p (List.mem_cons_self ..))), h2]
  simp only [List.append_assoc, List.singleton_append, List.length_cons]
  rw [show i + 1 + l.length = i + (l.length + 1) by omega]
theorem Qvc {b : Bk} (ok : PrOk b) (h : QcU b = []) (hl : ¬ (QaF b).length > 65536) : ∃ pn bn rn, QjR (QaF b) = ({ b with pn := pn, bn := bn, rn := rn }, 0, 0) := by
 obtain ⟨r1, r2⟩ := Qyl h
 unfold QjR
 rw [if_neg hl]
 unfold QaF Qh6 Qig Qfb
 simp only [List.append_assoc]
 rw [Qjg (QwE b ok.lim ok.grp)]
 obtain ⟨pn, k1, _, e1⟩ := QwF (Qa5 sgWs b.segs ++ Qa5 svWs b.svs) b.ps { zBk with loc := b.loc, lim := b.lim, grp := b.grp } 0 (0 + 1) (by decide) (by decide) r1
 obtain ⟨bn, k2, _, e2⟩ := Qw6 (Qa5 svWs b.svs) b.segs { zBk with loc := b.loc, lim := b.lim, grp := b.grp, pn := pn, ps := b.ps } k1 (0 + 1 + b.ps.length) (by omega) (by omega) r2 ok.sg
 obtain ⟨rn, k3, _, e3⟩ := QxE [] b.svs { zBk with loc := b.loc, lim := b.lim, grp := b.grp, pn := pn, ps := b.ps, bn := bn, segs := b.segs } k2 (0 + 1 + b.ps.length + b.segs.length) (by omega) (by omega) ok.sv
 refine ⟨pn, bn, rn, ?_⟩
 rw [e1]
 refine e2.trans ?_
 rw [List.append_nil] at e3
 refine e3.trans ?_
 show (if ([] : Bs) = [] ∧ 0 + 1 + b.ps.length + b.segs.length + b.svs.length ≠ 0 then endF { b with pn := pn, bn := bn, rn := rn } else _) = _
 rw [if_pos ⟨rfl, by omega⟩]
 unfold endF
 rw [show QcU { b with pn := pn, bn := bn, rn := rn } = QcU b from rfl, h]
theorem QnY {α : Type} (f : α → List Bs) (R : Bs) : ∀ l : List α, nL (QaL 10 (Qa5 f l ++ R)) ≤ l.length + nL (QaL 10 R)
 | [] => by simp [Qa5]
 | x :: l => by
  have := QnY f R l
  rw [Qim, Qnq, QdT _ (QgL _), QrE, List.length_cons]
  split <;> omega
theorem QlP {α : Type} {f : α → List Bs} {R p : Bs} : ∀ {l : List α}, p ∈ QaL 10 (Qa5 f l ++ R) → (∃ x ∈ l, p = QaO (f x)) ∨ p ∈ QaL 10 R
 | [], h => .inr (by simpa [Qa5] using h)
 | x :: l, h => by
  rw [Qim, Qnq, QdT _ (QgL _)] at h
  rcases List.mem_cons.1 h with h | h
  ·exact .inl ⟨x, List.mem_cons_self .., h⟩
  ·rcases QlP h with ⟨y, h1, h2⟩ | h
   ·exact .inl ⟨y, List.mem_cons_of_mem _ h1, h2⟩
   ·exact .inr h
structure NumOk (b : Bk) : Prop where
 lim : J64 b.lim
 grp : J64 b.grp
 sg : ∀ s ∈ b.segs, J64 s.num ∧ J64 s.day ∧ J64 s.dep ∧ J64 s.arr ∧ J64 s.st ∧ J64 s.mar
 sv : ∀ x ∈ b.svs, J64 x.pe ∧ J64 x.sg
theorem QxQ {b : Bk} (ok : SmallOk b) (hn : NumOk b) : PrOk b where
 loc := by have := ok.loc; omega
 lim := hn.lim
 grp := hn.grp
 psn := by have := ok.ps; omega
 ps := fun p hp => by have := ok.pe p hp; exact ⟨by omega, by omega, by omega⟩
 sgn := by have := ok.segs; omega
 sg := fun s hs => by have := ok.sg s hs; exact ⟨⟨by omega, by omega, by omega, by omega⟩, hn.sg s hs⟩
 svn := by have := ok.svs; omega
 sv := fun x hx => by have := ok.sv x hx; exact ⟨by omega, hn.sv x hx⟩
theorem QuP {b : Bk} (ok : SmallOk b) (hn : NumOk b) : nL (QaL 10 (QaF b)) ≤ 1000 ∧ ∀ p ∈ QaL 10 (QaF b), p.length ≤ 10000 := by
 have n1 := ok.ps
 have n2 := ok.segs
 have n3 := ok.svs
 have hz : QaL 10 ([] : Bs) = [[]] := rfl
 refine ⟨?_, fun p hp => ?_⟩
 ·unfold QaF Qh6 Qig Qfb
  simp only [List.append_assoc]
  rw [Qnq, QdT _ (QgL _), QrE]
  have a1 := QnY peWs (Qa5 sgWs b.segs ++ Qa5 svWs b.svs) b.ps
  have a2 := QnY sgWs (Qa5 svWs b.svs) b.segs
  have a3 := QnY svWs [] b.svs
  rw [List.append_nil, hz] at a3
  have a4 : nL [([] : Bs)] = 0 := rfl
  split <;> omega
 ·unfold QaF Qh6 Qig Qfb at hp
  simp only [List.append_assoc] at hp
  rw [Qnq, QdT _ (QgL _)] at hp
  have bound : ∀ w : List Bs, Qa7 w ≤ 2000 → w.length ≤ 11 → (QaO w).length ≤ 10000 := fun w h1 h2 => by have := Qj0 w; omega
  rcases List.mem_cons.1 hp with h | h
  ·rw [h]
   have a1 := Qbb hn.lim.1 hn.lim.2
   have a2 := Qbb hn.grp.1 hn.grp.2
   have := ok.loc
   exact bound _ (by simp [Qa7, QbX, bookingW]; omega) (by simp [QbX])
  ·rcases QlP h with ⟨x, hx, rfl⟩ | h
   ·have a1 := ok.pe x hx
    have a2 : (peT x).length ≤ 302 := by
     unfold peT
     cases QbP x && Qb9 x with
     | false => exact Nat.zero_le _
     | true => simp; omega
    exact bound _ (by simp [Qa7, peWs, personW]; omega) (by simp [peWs])
   ·rcases QlP h with ⟨s, hs, rfl⟩ | h
    ·have a := ok.sg s hs
     obtain ⟨k1, k2, k3, k4, k5, k6⟩ := hn.sg s hs
     have a1 := Qbb k1.1 k1.2
     have a2 := Qbb k2.1 k2.2
     have a3 := Qbb k3.1 k3.2
     have a4 := Qbb k4.1 k4.2
     have a6 := Qbb k6.1 k6.2
     have a7 := Qto s.st
     exact bound _ (by simp [Qa7, sgWs, segWd]; omega) (by simp [sgWs])
    ·rw [← List.append_nil (Qa5 svWs b.svs)] at h
     rcases QlP h with ⟨x, hx, rfl⟩ | h
     ·have a := ok.sv x hx
      obtain ⟨k1, k2⟩ := hn.sv x hx
      have a1 := Qbb k1.1 k1.2
      have a2 := Qbb k2.1 k2.2
      exact bound _ (by simp [Qa7, svWs, serviceW]; omega) (by simp [svWs])
     ·rw [hz] at h
      rw [List.mem_singleton.1 h]; exact Nat.zero_le _
theorem QvP (a : Bk) (p1 b1 r1 : Bool) : Qs6 { a with pn := p1, bn := b1, rn := r1 } a = true := by
 simp [Qs6, Qjb QxN, Qjb Qyz, Qjb QxH]
theorem QqP (b : Bk) (hn : NumOk b) : Ret 1 Qde [.agg (bkE b)] (.bool true) := by
 have hA := Qwp
 have hS := Qxf 1 b
 have eqn : ∀ n, top 1 n Qde [.agg (bkE b)] = _ := fun n => Qmv 1 n b.loc b.pn (b.ps.map peE) b.grp b.bn (b.segs.map sgE) b.rn (b.svs.map svE) b.lim
 cases hb : QmH b with
 | false =>
  rw [hb] at hS
  exact .top rfl (Evt.imp2 hS hA fun n c h => by rw [eqn]; exact stO _ c (stO _ (QaU _) (stT rfl (stO _ h rfl))))
 | true =>
  rw [hb] at hS
  have ok := QxZ hb
  have pr := QxQ ok hn
  obtain ⟨c1, c2⟩ := pr.checks 1
  have p1 := Qn2 1 b pr c1
  have p2 := QsB 1 b pr c2
  have hbase := Evt.imp2 (Evt.imp2 hA hS fun n x y => And.intro x y) (Evt.imp2 p1 p2 fun n x y => And.intro x y) fun n x y => And.intro x y
  have good : ∀ (x : Bk) (k g : Int), Ret 1 QaM [.str (prT b)] (psV (x, k, g)) → (prE b = 0 → k = 0 ∧ g = 0 ∧ Ret 1 QaI [.agg (bkE x), .agg (bkE b)] (.bool true)) → Ret 1 Qde [.agg (bkE b)] (.bool true) := fun x k g hP hg => by
   by_cases h0 : prE b = 0
   ·obtain ⟨rfl, rfl, hs⟩ := hg h0
    refine .top rfl (Evt.imp2 hbase (Evt.imp2 hP hs fun n x y => And.intro x y) fun n ⟨⟨h, c⟩, d1, d2⟩ ⟨e1, e2⟩ => ?_)
    rw [eqn]
    refine stO _ c (stO _ (QaU _) (stF rfl (stO _ d1 (stO _ rfl (stO _ rfl (stO _ rfl (stO _ rfl (stO _ d2 (stO _ rfl (stO _ rfl (stO _ rfl (stO _ rfl (stO _ rfl (stO _ rfl (stF (by simp) (stO _ (Qae ..) (stO _ (Qae ..) (stF (bneF rfl) ?_))))))))))))))))))
    refine stO _ e1 (stO _ rfl (stO _ rfl (stO _ rfl (stO _ rfl (stO _ rfl (stO _ rfl (stO _ rfl (stC rfl (stO _ rfl (stO _ rfl (stO _ rfl (stO _ rfl (stO _ rfl (stO _ rfl (stO _ (Qae ..) ?_)))))))))))))))
    exact stF (bneF h0) (stO _ (Qae ..) (stT rfl (stO _ (Qae ..) (stT rfl (stO _ e2 (stO _ (QaU _) (stT rfl (stO _ h rfl))))))))
   ·refine .top rfl (Evt.imp2 hbase hP fun n ⟨⟨h, c⟩, d1, d2⟩ e1 => ?_)
    rw [eqn]
    refine stO _ c (stO _ (QaU _) (stF rfl (stO _ d1 (stO _ rfl (stO _ rfl (stO _ rfl (stO _ rfl (stO _ d2 (stO _ rfl (stO _ rfl (stO _ rfl (stO _ rfl (stO _ rfl (stO _ rfl (stF (by simp) (stO _ (Qae ..) (stO _ (Qae ..) (stF (bneF rfl) ?_))))))))))))))))))
    refine stO _ e1 (stO _ rfl (stO _ rfl (stO _ rfl (stO _ rfl (stO _ rfl (stO _ rfl (stO _ rfl (stC rfl (stO _ rfl (stO _ rfl (stO _ rfl (stO _ rfl (stO _ rfl (stO _ rfl (stO _ (Qae ..) ?_)))))))))))))))
    exact stT (bneT h0) (stO _ h rfl)
  have none : prE b ≠ 0 → prT b = [] → Ret 1 Qde [.agg (bkE b)] (.bool true) := fun h1 h2 => by
   have hP := Qi2 0 [] (by decide) (fun _ p hp => by rw [show QaL 10 ([] : Bs) = [[]] from rfl] at hp; rw [List.mem_singleton.1 hp]; exact Nat.zero_le _)
   exact good (QjR []).1 (QjR []).2.1 (QjR []).2.2 (by rw [h2]; exact hP) (fun h => absurd h h1)
  cases hbb : QcU b with
  | cons f l => exact none (by unfold prE; rw [hbb]; exact QxS (b := b) (by rw [hbb]; exact List.mem_cons_self ..)) (by unfold prT; rw [hbb])
  | nil =>
   by_cases hl : (QaF b).length > 65536
   ·exact none (by unfold prE; rw [hbb]; show (if _ then (4 : Int) else 0) ≠ 0; rw [if_pos hl]; decide) (by unfold prT; rw [hbb]; exact if_pos hl)
   ·have hT : prT b = QaF b := by unfold prT; rw [hbb]; exact if_neg hl
    obtain ⟨pn, bn, rn, hpp⟩ := Qvc pr hbb hl
    obtain ⟨s1, s2⟩ := QuP ok hn
    have hP := Qi2 0 (QaF b) s1 (fun _ => s2)
    rw [hpp] at hP
    have q1 := ok.ps
    have q2 := ok.segs
    have q3 := ok.svs
    have hs := Quq 1 { b with pn := pn, bn := bn, rn := rn } b (by show b.ps.length ≤ _; omega) (by show b.segs.length ≤ _; omega) (by show b.svs.length ≤ _; omega)
    rw [QvP] at hs
    exact good _ 0 0 (by rw [hT]; exact hP) (fun _ => ⟨rfl, rfl, hs⟩)
end Go.Proofs
