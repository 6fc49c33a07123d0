/- Chapter 35: the law BookingMarried on plain data. Conditions: as each says. -/
import Derived.Test.YtigmcfhmpcajlaaGreatDoorCm
import Derived.Test.YtigmcfhmpcajlaaGreatDoorCc1
set_option linter.unusedSimpArgs false
set_option linter.unusedVariables false
namespace Go.Proofs
open Go.Am
def actE (a : Int × Int) : List CV := [.int .u8 a.1, .int .u8 a.2]
theorem QpT (loc : Bs) (pn : Bool) (ps : List (List CV)) (g : Int) (l : List Sg) (rn : Bool) (rs : List (List CV)) (lim x e : Int) (x0 : 0 ≤ x) (x1 : x < (l.length : Int)) :
  (QjO loc pn ps g l rn rs lim x e = .tup [noB, .list true [], .int .i64 10]) ∨
  (∃ s, l[x.toNat]? = some s ∧ QaO s.st e ≠ 0 ∧ QjO loc pn ps g l rn rs lim x e = chgV loc pn ps g rn rs lim (allF l x e) false (chgF e (allF l x e) l)) := by
 unfold QjO
 rw [if_neg (by omega)]
 obtain ⟨s, hs⟩ : ∃ s, l[x.toNat]? = some s := ⟨_, List.getElem?_eq_getElem (by omega)⟩
 rw [hs]
 simp only
 by_cases ha : QaO s.st e = 0
 ·rw [if_pos ha]; exact .inl rfl
 ·rw [if_neg ha]; exact .inr ⟨s, rfl, ha, rfl⟩
theorem Qt9 (b : Bk) (acts : List (Int × Int)) (an : Bool) (h20 : acts.length ≤ 20) (hu : ∀ a ∈ acts, 0 ≤ a.1 ∧ a.1 ≤ 255 ∧ 0 ≤ a.2 ∧ a.2 ≤ 255) : ∀ (t p : List (Int × Int)), p ++ t = acts → ∀ (bn : Bool) (l : List Sg), (bn = true → l = []) → 0 < l.length → l.length ≤ 49 → marE (mars l) = 0 → QmF l →
  Evt fun n => ∀ k, t.length < k → l35_BookingMarried_L1 1 n k b.loc b.pn (b.ps.map peE) b.grp b.bn (b.segs.map sgE) b.rn (b.svs.map svE) b.lim an (acts.map actE) (p.length : Int) (.str b.loc) (.list b.pn (b.ps.map peE)) (.int .i64 b.grp) (.list bn (l.map sgE)) (.list b.rn (b.svs.map svE)) (.int .i64 b.lim) = some (.bool true)
 | [], p, h, bn, l, hbn, hl0, hl, hm, hE => awake35_ok.mono fun n ha k hk => by
  obtain ⟨k, rfl⟩ : ∃ i, k = i + 1 := ⟨k - 1, by simp at hk; omega⟩
  have hp : p = acts := by simpa using h
  rw [Qbg]
  refine stF (decF (by simp [hp])) ?_
  rw [QiO]
  exact stO _ ha rfl
 | a :: t, p, h, bn, l, hbn, hl0, hl, hm, hE => by
  have hpl : p.length + (t.length + 1) = acts.length := by rw [← h]; simp
  have hw : IntKind.wrap .i64 ((p.length : Int) + 1) = ((p ++ [a]).length : Int) := by rw [QaB (by omega) (by omega)]; simp
  have hat : atL (acts.map actE) (p.length : Int) = some (actE a) := Qbz (by rw [List.getElem?_map, ← h]; simp)
  have hlt : (p.length : Int) < (((acts.map actE).length : Nat) : Int) := by simp; omega
  obtain ⟨u1, u2, u3, u4⟩ := hu a (by rw [← h]; simp)
  have same := Qt9 b acts an h20 hu t (p ++ [a]) (by rw [← h]; simp) bn l hbn hl0 hl hm hE
  obtain ⟨e, he⟩ : ∃ e, IntKind.wrap .i64 (Int.tmod a.2 9) = e := ⟨_, rfl⟩
  have hx : ∃ x, Int.tmod (IntKind.wrap .i64 a.1) (((l.map sgE).length : Nat) : Int) = x ∧ 0 ≤ x ∧ x < (l.length : Int) := by
   rw [QaB (by omega) (by omega), List.length_map]
   exact ⟨_, rfl, Int.tmod_nonneg _ u1, Int.tmod_lt_of_pos _ (by omega)⟩
  obtain ⟨x, hxe, x0, x1⟩ := hx
  by_cases h5 : e = 5
  ·refine same.mono fun n hi k hk => ?_
   obtain ⟨k, rfl⟩ : ∃ i, k = i + 1 := ⟨k - 1, by simp at hk; omega⟩
   rw [Qbg, hw]
   exact stT (decT hlt) (stO _ hat (stC rfl (stO _ rfl (stO _ (QaK ..) (stT (beqT (he.trans h5)) (hi k (by simp at hk; omega)))))))
  by_cases h6 : e = 6
  ·refine same.mono fun n hi k hk => ?_
   obtain ⟨k, rfl⟩ : ∃ i, k = i + 1 := ⟨k - 1, by simp at hk; omega⟩
   rw [Qbg, hw]
   exact stT (decT hlt) (stO _ hat (stC rfl (stO _ rfl (stO _ (QaK ..) (stF (beqF (by show IntKind.wrap .i64 (Int.tmod a.2 9) ≠ 5; rw [he]; exact h5)) (stT (beqT (he.trans h6)) (hi k (by simp at hk; omega))))))))
  by_cases h7 : e = 7
  ·refine same.mono fun n hi k hk => ?_
   obtain ⟨k, rfl⟩ : ∃ i, k = i + 1 := ⟨k - 1, by simp at hk; omega⟩
   rw [Qbg, hw]
   exact stT (decT hlt) (stO _ hat (stC rfl (stO _ rfl (stO _ (QaK ..) (stF (beqF (by show IntKind.wrap .i64 (Int.tmod a.2 9) ≠ 5; rw [he]; exact h5)) (stF (beqF (by show IntKind.wrap .i64 (Int.tmod a.2 9) ≠ 6; rw [he]; exact h6)) (stT (beqT (he.trans h7)) (hi k (by simp at hk; omega)))))))))
  have g5 : IntKind.wrap .i64 (Int.tmod a.2 9) ≠ 5 := by rw [he]; exact h5
  have g6 : IntKind.wrap .i64 (Int.tmod a.2 9) ≠ 6 := by rw [he]; exact h6
  have g7 : IntKind.wrap .i64 (Int.tmod a.2 9) ≠ 7 := by rw [he]; exact h7
  have hC := QtU 1 b.loc b.pn (b.ps.map peE) b.grp bn l b.rn (b.svs.map svE) b.lim x e hbn hl
  rw [← hxe, ← he] at hC
  have hne : (((l.map sgE).length : Nat) : Int) ≠ 0 := by rw [List.length_map]; omega
  rcases QpT b.loc b.pn (b.ps.map peE) b.grp l b.rn (b.svs.map svE) b.lim x e x0 x1 with hV | ⟨s, hs, ha, hV⟩
  ·rw [← hxe, ← he] at hV
   rw [hV] at hC
   refine Evt.imp2 hC same fun n c1 hi k hk => ?_
   obtain ⟨k, rfl⟩ : ∃ i, k = i + 1 := ⟨k - 1, by simp at hk; omega⟩
   rw [Qbg, hw]
   exact stT (decT hlt) (stO _ hat (stC rfl (stO _ rfl (stO _ (QaK ..) (stF (beqF g5) (stF (beqF g6) (stF (beqF g7) (stO _ hat (stC rfl (stO _ rfl (stO _ (QaK ..) (stO _ rfl (stC (bneT hne) (stO _ c1 (stO _ rfl (stO _ rfl (stO _ rfl (stO _ rfl (stO _ rfl (stO _ rfl (stO _ rfl (stC rfl (stO _ rfl (stO _ rfl (stO _ rfl (stO _ rfl (stO _ rfl (stO _ rfl (stO _ (QaK ..) (stF rfl (stO _ (QaK ..) (stF rfl (stO _ (QaK ..) (stF rfl (hi k (by simp at hk; omega))))))))))))))))))))))))))))))))))))
  ·obtain ⟨l', hF⟩ := Qs4 hm hE x0 x1 h5 h6 h7 hs ha
   rw [hF] at hV
   rw [← hxe, ← he] at hV
   rw [hV] at hC
   obtain ⟨hS, hall⟩ := QsX hm x0 x1 h5 h6 h7 hF
   have hE' := Qu6 hS hE
   have next := Qt9 b acts an h20 hu t (p ++ [a]) (by rw [← h]; simp) false l' (by simp) (by rw [hS.len]; exact hl0) (by rw [hS.len]; exact hl) (by rw [Qu0 hS]; exact hm) hE'
   have hev := Qsp 1 { b with bn := false, segs := l' } (by show l'.length ≤ 1000000; rw [hS.len]; omega)
   rw [show Qhl [] ({ b with bn := false, segs := l' } : Bk).segs = true from (QrD l').2 hE'] at hev
   refine Evt.imp2 hC (Evt.imp2 hev next fun n x y => And.intro x y) fun n c1 ⟨c2, hi⟩ k hk => ?_
   obtain ⟨k, rfl⟩ : ∃ i, k = i + 1 := ⟨k - 1, by simp at hk; omega⟩
   rw [Qbg, hw]
   exact stT (decT hlt) (stO _ hat (stC rfl (stO _ rfl (stO _ (QaK ..) (stF (beqF g5) (stF (beqF g6) (stF (beqF g7) (stO _ hat (stC rfl (stO _ rfl (stO _ (QaK ..) (stO _ rfl (stC (bneT hne) (stO _ c1 (stO _ rfl (stO _ rfl (stO _ rfl (stO _ rfl (stO _ rfl (stO _ rfl (stO _ rfl (stC rfl (stO _ rfl (stO _ rfl (stO _ rfl (stO _ rfl (stO _ rfl (stO _ rfl (stO _ (QaK ..) (stF rfl (stO _ (QaK ..) (stT rfl (stO _ rfl (stO _ rfl (stF (bneF (by simp [hS.len])) (stO _ c2 (stO _ (QaM _) (stF rfl (stO _ (QaK ..) (stT rfl (hi k (by simp at hk; omega))))))))))))))))))))))))))))))))))))))))))
theorem QvN {b : Bk} (h : QkV b = []) : marE (mars b.segs) = 0 ∧ b.segs.length ≤ 24 := by
 unfold QkV QoX at h
 simp only [List.append_eq_nil_iff] at h
 have h1 := h.1.1.2
 have h2 := h.1.1.1.2
 refine ⟨?_, ?_⟩
 ·by_cases hm : marE (mars b.segs) = 0
  ·exact hm
  ·rw [bneT hm] at h1; simp [Qav] at h1
 ·by_cases hl : (b.segs.length : Int) > 24
  ·rw [decT hl] at h2; simp [Qav] at h2
  ·omega
theorem Qm9 (b : Bk) (hbn : b.bn = true → b.segs = []) (an : Bool) (acts : List (Int × Int)) (hu : ∀ a ∈ acts, 0 ≤ a.1 ∧ a.1 ≤ 255 ∧ 0 ≤ a.2 ∧ a.2 ≤ 255) : Ret 1 QaR [.agg (bkE b), .list an (acts.map actE)] (.bool true) := by
 have hA := awake35_ok
 have hS := QuM 1 b
 have eqn : ∀ n, top 1 n QaR [.agg (bkE b), .list an (acts.map actE)] = _ := fun n => Qj1 1 n b.loc b.pn (b.ps.map peE) b.grp b.bn (b.segs.map sgE) b.rn (b.svs.map svE) b.lim an (acts.map actE)
 cases hb : Qmu b with
 | false =>
  rw [hb] at hS
  exact .top rfl (Evt.imp2 hA hS fun n h c => by rw [eqn]; exact stO _ c (stO _ (QaM _) (stT rfl (stO _ h rfl))))
 | true =>
 rw [hb] at hS
 have ok := Qvb hb
 have hAS := Evt.imp2 hA hS fun n x y => And.intro x y
 by_cases h20 : acts.length > 20
 ·exact .top rfl (hAS.mono fun n ⟨h, c⟩ => by rw [eqn]; exact stO _ c (stO _ (QaM _) (stF rfl (stT (decT (by simp; omega)) (stO _ h rfl)))))
 by_cases h0 : b.segs.length = 0
 ·exact .top rfl (hAS.mono fun n ⟨h, c⟩ => by rw [eqn]; exact stO _ c (stO _ (QaM _) (stF rfl (stF (decF (by simp; omega)) (stT (beqT (by simp [h0])) (stO _ h rfl))))))
 have hR := (QsB 1 ok).2
 have hne : (((b.segs.map sgE).length : Nat) : Int) ≠ 0 := by rw [List.length_map]; omega
 cases hk : QkV b with
 | cons f r =>
  rw [hk] at hR
  exact .top rfl (Evt.imp2 hAS hR fun n ⟨h, c⟩ d => by rw [eqn]; exact stO _ c (stO _ (QaM _) (stF rfl (stF (decF (by simp; omega)) (stF (beqF hne) (stO _ d (stO _ rfl (stT (decT (by simp)) (stO _ h rfl)))))))))
 | nil =>
  rw [hk] at hR
  obtain ⟨hm, hl⟩ := QvN hk
  have hE := Qsp 1 b (by omega)
  have hEv := Evt.imp2 hR hE fun n x y => And.intro x y
  cases he : Qhl [] b.segs with
  | false =>
   rw [he] at hEv
   exact .top rfl (Evt.imp2 hAS hEv fun n ⟨h, c⟩ ⟨d, e⟩ => by rw [eqn]; exact stO _ c (stO _ (QaM _) (stF rfl (stF (decF (by simp; omega)) (stF (beqF hne) (stO _ d (stO _ rfl (stF rfl (stO _ e (stO _ (QaM _) (stT rfl (stO _ h rfl))))))))))))
  | true =>
   rw [he] at hEv
   have hL := Evt.diag (Qt9 b acts an (by omega) hu acts [] rfl b.bn b.segs hbn (by omega) (by omega) hm ((QrD _).1 he))
   exact .top rfl (Evt.imp2 (Evt.imp2 hAS hL fun n x y => And.intro x y) hEv fun n ⟨⟨h, c⟩, g⟩ ⟨d, e⟩ => by rw [eqn]; exact stO _ c (stO _ (QaM _) (stF rfl (stF (decF (by simp; omega)) (stF (beqF hne) (stO _ d (stO _ rfl (stF rfl (stO _ e (stO _ (QaM _) (stF rfl g)))))))))))
end Go.Proofs
