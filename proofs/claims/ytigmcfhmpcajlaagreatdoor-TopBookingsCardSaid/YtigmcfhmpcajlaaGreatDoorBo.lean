/- Chapter 35: the law TopBookings on plain data. Conditions: as each says. -/
import Derived.Test.YtigmcfhmpcajlaaGreatDoorBD
import Derived.Test.YtigmcfhmpcajlaaGreatDoorBC
import Derived.Test.YtigmcfhmpcajlaaGreatDoorGe
import Derived.Test.YtigmcfhmpcajlaaGreatDoorWt
set_option linter.unusedSimpArgs false
set_option linter.unusedVariables false
namespace Go.Proofs
open Go.Am
variable (lb : Nat)
theorem Qq6 (n jk jS : Nat) (jf : List UInt8) (jb : Bool) (aper3 : List (List CV)) (je : Int) (ja : Bool) (aseg6 : List (List CV)) (jd : Bool) (aser9 : List (List CV)) (jc : Int) (jm : Bool) (b12 : List (List CV)) (jn : Bool) (c14 : List (List CV)) (jl : Int) (jE jF : CV) (jP : Int) (jD jy jx ju jq jt jz : CV) (c1524 : List CV) (jM : CV) (c1526 : List CV) (jN jO : CV) (c1979 : List CV) (j2 we wa j6 j4 jX wh j9 j8 jT jB : CV) (c1991 : List CV) (j5 wb jY wg j7 wc j3 jZ jU wd jJ jK jI jH jL : CV) (l l' : List Sg) (hS : Stay l l') (K : Nat) (hK : jP = (K : Int)) (bn bn' : Bool) (hv : jq = .list bn (l.map sgE)) (hx : jB = .list bn' (l'.map sgE)) (s s' : Sg) (hs : l[K]? = some s) (hs' : l'[K]? = some s') (e8 : j8 = .int .i64 s.st) (e9 : jT = .int .i64 s.mar) (e20 : jU = .int .i64 s'.st) (hlen : l.length ≤ 1000) : ∀ (d j : Nat), j + d = K → ∀ k, d < k →
  QaJ lb n k jk jS jf jb aper3 je ja aseg6 jd aser9 jc jm b12 jn c14 jl jE jF jP jD jy jx ju jq jt jz c1524 jM c1526 jN jO c1979 j2 we wa j6 j4 jX wh j9 j8 jT jB c1991 j5 wb jY wg j7 wc j3 jZ jU wd jJ jK jI jH jL (j : Int) = QbZ lb n jS jk jf jb aper3 je ja aseg6 jd aser9 jc jm b12 jn c14 jl jE jF jD jy jx ju jq jt jz c1524 jM c1526 jN jO jJ jK jI jB jH jL (IntKind.wrap .i64 (jP + 1))
 | 0, j, h, k, hk => by
  obtain ⟨k, rfl⟩ : ∃ i, k = i + 1 := ⟨k - 1, by omega⟩
  rw [QdN]
  refine stF (decF (by omega)) ?_
  rw [Qhf]
 | d + 1, j, h, k, hk => by
  obtain ⟨k, rfl⟩ : ∃ i, k = i + 1 := ⟨k - 1, by omega⟩
  have hKl : K < l.length := (List.getElem?_eq_some_iff.1 hs).1
  obtain ⟨t, ht⟩ : ∃ t, l[j]? = some t := ⟨_, List.getElem?_eq_getElem (by omega)⟩
  obtain ⟨t', ht'⟩ : ∃ t, l'[j]? = some t := ⟨_, List.getElem?_eq_getElem (by rw [hS.len]; omega)⟩
  have hw : IntKind.wrap .i64 ((j : Int) + 1) = ((j + 1 : Nat) : Int) := by rw [Qba (by omega) (by omega)]; omega
  have ih := Qq6 n jk jS jf jb aper3 je ja aseg6 jd aser9 jc jm b12 jn c14 jl jE jF jP jD jy jx ju jq jt jz c1524 jM c1526 jN jO c1979 j2 we wa j6 j4 jX wh j9 j8 jT jB c1991 j5 wb jY wg j7 wc j3 jZ jU wd jJ jK jI jH jL l l' hS K hK bn bn' hv hx s s' hs hs' e8 e9 e20 hlen d (j + 1) (by omega) k (by omega)
  have hp := hS.pair K j s t s' t' hs ht hs' ht'
  have a1 : atL (l.map sgE) (j : Int) = some (sgE t) := QbP (by rw [List.getElem?_map, ht]; rfl)
  have a2 : atL (l'.map sgE) (j : Int) = some (sgE t') := QbP (by rw [List.getElem?_map, ht']; rfl)
  subst hv; subst hx; subst e8; subst e9; subst e20
  rw [QdN, hw]
  refine stT (decT (by omega)) (stO _ (Qaq ..) ?_)
  by_cases h1 : s.mar > 0
  ·refine stT (decT h1) (stO _ rfl (stO _ a1 (stC rfl (stO _ rfl (stO _ (Qaq ..) (stO _ (Qaq ..) ?_))))))
   by_cases h2 : s.mar = t.mar
   ·refine stT (beqT h2) (stO _ rfl (stO _ a1 (stC rfl (stO _ rfl (stO _ (Qaq ..) (stO _ (Qaq ..) ?_))))))
    by_cases h3 : s.st = t.st
    ·refine stT (beqT h3) (stO _ rfl (stO _ a2 (stC rfl (stO _ rfl (stO _ (Qaq ..) (stO _ (Qaq ..) ?_))))))
     exact stF (bneF (hp h1 h2 h3)) ih
    ·exact stF (beqF h3) ih
   ·exact stF (beqF h2) ih
  ·exact stF (decF h1) ih
theorem Qq8 (n jk : Nat) (jf : List UInt8) (jb : Bool) (aper3 : List (List CV)) (je : Int) (ja : Bool) (aseg6 : List (List CV)) (jd : Bool) (aser9 : List (List CV)) (jc : Int) (jm : Bool) (b12 : List (List CV)) (jn : Bool) (c14 : List (List CV)) (jl : Int) (jE jF jD jy jx ju jq jt jz : CV) (c1524 : List CV) (jM : CV) (c1526 : List CV) (jN jO jJ jK jI jB jH jL : CV) (l l' : List Sg) (hS : Stay l l') (bn bn' : Bool) (hv : jq = .list bn (l.map sgE)) (hx : jB = .list bn' (l'.map sgE)) (hlen : l.length ≤ 1000) (hn : l.length < n)
  (hseat : ∀ s ∈ l', C lb n Qcw [.int .i64 s.st] = some (.bool (QgN s.st))) (hlive : ∀ s ∈ l', C lb n Qda [.int .i64 s.st] = some (.bool (QjB s.st))) : ∀ (d K : Nat), K + d = l.length → ∀ k, d < k →
  QbZ lb n k jk jf jb aper3 je ja aseg6 jd aser9 jc jm b12 jn c14 jl jE jF jD jy jx ju jq jt jz c1524 jM c1526 jN jO jJ jK jI jB jH jL (K : Int) = top_TopBookings_L1 lb n jk jf jb aper3 je ja aseg6 jd aser9 jc jm b12 jn c14 (IntKind.wrap .i64 (jl + 1)) jJ jK jI jB jH jL
 | 0, K, h, k, hk => by
  obtain ⟨k, rfl⟩ : ∃ i, k = i + 1 := ⟨k - 1, by omega⟩
  subst hv
  rw [QdP]
  refine stO _ rfl (stF (decF (by simp; omega)) ?_)
  rw [Qg7, Qhm]
 | d + 1, K, h, k, hk => by
  obtain ⟨k, rfl⟩ : ∃ i, k = i + 1 := ⟨k - 1, by omega⟩
  obtain ⟨s, hs⟩ : ∃ s, l[K]? = some s := ⟨_, List.getElem?_eq_getElem (by omega)⟩
  obtain ⟨s', hs'⟩ : ∃ s, l'[K]? = some s := ⟨_, List.getElem?_eq_getElem (by rw [hS.len]; omega)⟩
  obtain ⟨q1, q2⟩ := hS.seg K s s' hs hs'
  have hm := List.mem_of_getElem? hs'
  have c1 := hseat s' hm
  have c2 := hlive s' hm
  have hw : IntKind.wrap .i64 ((K : Int) + 1) = ((K + 1 : Nat) : Int) := by rw [Qba (by omega) (by omega)]; omega
  have ih := Qq8 n jk jf jb aper3 je ja aseg6 jd aser9 jc jm b12 jn c14 jl jE jF jD jy jx ju jq jt jz c1524 jM c1526 jN jO jJ jK jI jB jH jL l l' hS bn bn' hv hx hlen hn hseat hlive d (K + 1) (by omega) k (by omega)
  have a1 : atL (l.map sgE) (K : Int) = some (sgE s) := QbP (by rw [List.getElem?_map, hs]; rfl)
  have a2 : atL (l'.map sgE) (K : Int) = some (sgE s') := QbP (by rw [List.getElem?_map, hs']; rfl)
  obtain ⟨z, hz⟩ : ∃ z, s'.st = z := ⟨_, rfl⟩
  rw [hz] at q1 q2
  subst q1
  subst hv; subst hx
  have hNext : QaJ lb n n jk k jf jb aper3 je ja aseg6 jd aser9 jc jm b12 jn c14 jl jE jF (K : Int) jD jy jx ju (.list bn (l.map sgE)) jt jz c1524 jM c1526 jN jO (sgE s) (.str s.car) (.int .i64 s.num) (.int .i64 s.day) (.str s.fr) (.str s.to) (.int .i64 s.dep) (.int .i64 s.arr) (.str s.cls) (.int .i64 s.st) (.int .i64 s.mar) (.list bn' (l'.map sgE)) (sgE (Qbr s z)) (.str s.car) (.int .i64 s.num) (.int .i64 s.day) (.str s.fr) (.str s.to) (.int .i64 s.dep) (.int .i64 s.arr) (.str s.cls) (.int .i64 z) (.int .i64 s.mar) jJ jK jI jH jL 0 = _ :=
   (Qq6 lb _ _ _ _ _ _ _ _ _ _ _ _ _ _ _ _ _ _ _ _ _ _ _ _ _ _ _ _ _ _ _ _ _ _ _ _ _ _ _ _ _ _ _ _ _ _ _ _ _ _ _ _ _ _ _ _ _ _ _ _ l l' hS K rfl bn bn' rfl rfl s (Qbr s z) hs hs' rfl rfl rfl hlen K 0 (by omega) n (by omega)).trans ((congrArg _ hw).trans ih)
  rw [QdP]
  refine stO _ rfl (stT (decT (by simp; omega)) (stO _ rfl (stO _ a1 (stC rfl (stO _ rfl (stO _ rfl (stO _ rfl (stO _ rfl (stO _ rfl (stO _ rfl (stO _ rfl (stO _ rfl (stO _ rfl (stO _ rfl (stO _ rfl (stO _ a2 (stC rfl (stO _ rfl (stO _ rfl (stO _ rfl (stO _ rfl (stO _ rfl (stO _ rfl (stO _ rfl (stO _ rfl (stO _ rfl (stO _ rfl (stO _ c1 (stO _ (Qbl _) ?_)))))))))))))))))))))))))))))
  cases hq : QgN (Qbr s z).st with
  | true =>
   refine stT rfl (stO _ c2 (stO _ (Qbl _) (stF (by rw [QpA hq]; rfl) (stO _ (Qaq ..) ?_))))
   by_cases h7 : s.st = 7
   ·exact stT (beqT h7) (stO _ (Qaq ..) (stF (bneF (q2 h7)) (stO _ rfl (stO _ rfl (stO _ (Qaq ..) (stO _ (Qaq ..) (stO _ (Qaq ..) (stO _ (Qaq ..) (stO _ rfl (stO _ rfl (stO _ rfl (stO _ rfl (stO _ (Qaq ..) (stO _ (Qaq ..) (stO _ (Qaq ..) (stO _ (Qaq ..) (stO _ rfl (stO _ rfl (stF (by simp [Qbr]) (stO _ (Qaq ..) (stO _ (Qaq ..) (stF (by simp [Qbr]) hNext))))))))))))))))))))))
   ·exact stF (beqF h7) (stO _ rfl (stO _ rfl (stO _ (Qaq ..) (stO _ (Qaq ..) (stO _ (Qaq ..) (stO _ (Qaq ..) (stO _ rfl (stO _ rfl (stO _ rfl (stO _ rfl (stO _ (Qaq ..) (stO _ (Qaq ..) (stO _ (Qaq ..) (stO _ (Qaq ..) (stO _ rfl (stO _ rfl (stF (by simp [Qbr]) (stO _ (Qaq ..) (stO _ (Qaq ..) (stF (by simp [Qbr]) hNext))))))))))))))))))))
  | false =>
   refine stF rfl (stO _ (Qaq ..) ?_)
   by_cases h7 : s.st = 7
   ·exact stT (beqT h7) (stO _ (Qaq ..) (stF (bneF (q2 h7)) (stO _ rfl (stO _ rfl (stO _ (Qaq ..) (stO _ (Qaq ..) (stO _ (Qaq ..) (stO _ (Qaq ..) (stO _ rfl (stO _ rfl (stO _ rfl (stO _ rfl (stO _ (Qaq ..) (stO _ (Qaq ..) (stO _ (Qaq ..) (stO _ (Qaq ..) (stO _ rfl (stO _ rfl (stF (by simp [Qbr]) (stO _ (Qaq ..) (stO _ (Qaq ..) (stF (by simp [Qbr]) hNext))))))))))))))))))))))
   ·exact stF (beqF h7) (stO _ rfl (stO _ rfl (stO _ (Qaq ..) (stO _ (Qaq ..) (stO _ (Qaq ..) (stO _ (Qaq ..) (stO _ rfl (stO _ rfl (stO _ rfl (stO _ rfl (stO _ (Qaq ..) (stO _ (Qaq ..) (stO _ (Qaq ..) (stO _ (Qaq ..) (stO _ rfl (stO _ rfl (stF (by simp [Qbr]) (stO _ (Qaq ..) (stO _ (Qaq ..) (stF (by simp [Qbr]) hNext))))))))))))))))))))
theorem QmU (loc : Bs) (pn : Bool) (ps : List (List CV)) (g : Int) (l : List Sg) (rn : Bool) (rs : List (List CV)) (lim x e : Int) :
  (∃ c : Int, c ≠ 0 ∧ Qhu loc pn ps g l rn rs lim x e = .tup [noB, .list true [], .int .i64 c]) ∨
  (∃ l', 0 ≤ x ∧ x < (l.length : Int) ∧ chgF e (allF l x e) l = some l' ∧ Qhu loc pn ps g l rn rs lim x e = chgV loc pn ps g rn rs lim (allF l x e) false (some l')) := by
 unfold Qhu
 by_cases h : x < 0 ∨ x ≥ (l.length : Int)
 ·rw [if_pos h]; exact .inl ⟨7, by decide, rfl⟩
 ·rw [if_neg h]
  obtain ⟨s, hs⟩ : ∃ s, l[x.toNat]? = some s := ⟨_, List.getElem?_eq_getElem (by omega)⟩
  rw [hs]
  simp only
  by_cases ha : QaE s.st e = 0
  ·rw [if_pos ha]; exact .inl ⟨10, by decide, rfl⟩
  ·rw [if_neg ha]
   cases hc : chgF e (allF l x e) l with
   | none => exact .inl ⟨18, by decide, rfl⟩
   | some l' => exact .inr ⟨l', by omega, by omega, rfl, rfl⟩
theorem Qpj (jf : List UInt8) (jb : Bool) (aper3 : List (List CV)) (je : Int) (ja : Bool) (aseg6 : List (List CV)) (jd : Bool) (aser9 : List (List CV)) (jc : Int) (an : Bool) (ats : List Int) (cn : Bool) (evs : List Int) (hle : ats.length ≤ evs.length) (h12 : ats.length ≤ 12) : ∀ (t p : List Int), p ++ t = ats → ∀ (bn : Bool) (l : List Sg), (bn = true → l = []) → l.length ≤ 8 → marE (mars l) = 0 →
  Evt fun n => ∀ k, t.length < k → top_TopBookings_L1 0 n k jf jb aper3 je ja aseg6 jd aser9 jc an (ats.map icv) cn (evs.map icv) (p.length : Int) (.str jf) (.list jb aper3) (.int .i64 je) (.list bn (l.map sgE)) (.list jd aser9) (.int .i64 jc) = some (.bool true)
 | [], p, h, bn, l, hbn, hl, hm => topAwake_ok.mono fun n ha k hk => by
  obtain ⟨k, rfl⟩ : ∃ i, k = i + 1 := ⟨k - 1, by simp at hk; omega⟩
  have hp : p = ats := by simpa using h
  rw [Qa4]
  refine stF (decF (by simp [hp])) ?_
  rw [Qhb]
  exact stO _ ha rfl
 | x :: t, p, h, bn, l, hbn, hl, hm => by
  have hpl : p.length + (t.length + 1) = ats.length := by rw [← h]; simp
  have hw : IntKind.wrap .i64 ((p.length : Int) + 1) = ((p ++ [x]).length : Int) := by rw [Qba (by omega) (by omega)]; simp
  have hxa : atL (ats.map icv) (p.length : Int) = some (icv x) := QbP (by rw [List.getElem?_map, ← h]; simp)
  obtain ⟨e, he⟩ : ∃ e, evs[p.length]? = some e := ⟨_, List.getElem?_eq_getElem (by omega)⟩
  have hea : atL (evs.map icv) (p.length : Int) = some (icv e) := QbP (by rw [List.getElem?_map, he]; rfl)
  have hlt : (p.length : Int) < (((ats.map icv).length : Nat) : Int) := by simp; omega
  have same := Qpj jf jb aper3 je ja aseg6 jd aser9 jc an ats cn evs hle h12 t (p ++ [x]) (by rw [← h]; simp) bn l hbn hl hm
  by_cases h5 : e = 5
  ·refine same.mono fun n hi k hk => ?_
   obtain ⟨k, rfl⟩ : ∃ i, k = i + 1 := ⟨k - 1, by simp at hk; omega⟩
   rw [Qa4]
   refine stT (decT hlt) (stO _ hea (stC rfl (stO _ rfl (stO _ (Qaq ..) (stT (beqT h5) ?_)))))
   rw [QcY, hw]
   exact hi k (by simp at hk; omega)
  by_cases h6 : e = 6
  ·refine same.mono fun n hi k hk => ?_
   obtain ⟨k, rfl⟩ : ∃ i, k = i + 1 := ⟨k - 1, by simp at hk; omega⟩
   rw [Qa4]
   refine stT (decT hlt) (stO _ hea (stC rfl (stO _ rfl (stO _ (Qaq ..) (stF (beqF h5) (stO _ hea (stC rfl (stO _ rfl (stO _ (Qaq ..) (stT (beqT h6) ?_))))))))))
   rw [QcY, hw]
   exact hi k (by simp at hk; omega)
  by_cases h7 : e = 7
  ·refine same.mono fun n hi k hk => ?_
   obtain ⟨k, rfl⟩ : ∃ i, k = i + 1 := ⟨k - 1, by simp at hk; omega⟩
   rw [Qa4]
   refine stT (decT hlt) (stO _ hea (stC rfl (stO _ rfl (stO _ (Qaq ..) (stF (beqF h5) (stO _ hea (stC rfl (stO _ rfl (stO _ (Qaq ..) (stF (beqF h6) (stO _ hea (stC rfl (stO _ rfl (stO _ (Qaq ..) (stT (beqT h7) ?_)))))))))))))))
   rw [QcY, hw]
   exact hi k (by simp at hk; omega)
  have hC := Qo9 0 jf jb aper3 je bn l jd aser9 jc x e hbn (by omega)
  rcases QmU jf jb aper3 je l jd aser9 jc x e with ⟨c, hc, hV⟩ | ⟨l', x0, x1, hF, hV⟩
  ·rw [hV] at hC
   refine Evt.imp2 hC same fun n c1 hi k hk => ?_
   obtain ⟨k, rfl⟩ : ∃ i, k = i + 1 := ⟨k - 1, by simp at hk; omega⟩
   rw [Qa4]
   refine stT (decT hlt) (stO _ hea (stC rfl (stO _ rfl (stO _ (Qaq ..) (stF (beqF h5) (stO _ hea (stC rfl (stO _ rfl (stO _ (Qaq ..) (stF (beqF h6) (stO _ hea (stC rfl (stO _ rfl (stO _ (Qaq ..) (stF (beqF h7) (stO _ hxa (stC rfl (stO _ rfl (stO _ hea (stC rfl (stO _ rfl (stO _ c1 (stO _ rfl (stO _ rfl (stO _ rfl (stO _ rfl (stO _ rfl (stO _ rfl (stO _ rfl (stC rfl (stO _ rfl (stO _ rfl (stO _ rfl (stO _ rfl (stO _ rfl (stO _ rfl (stO _ (Qaq ..) (stT (bneT hc) ?_))))))))))))))))))))))))))))))))))))))
   rw [Qhy, hw]
   exact hi k (by simp at hk; omega)
  ·rw [hV] at hC
   obtain ⟨hS, hne⟩ := Qor hm x0 x1 h5 h6 h7 hF
   have hl' : l'.length ≤ 8 := by rw [hS.len]; exact hl
   have next := Qpj jf jb aper3 je ja aseg6 jd aser9 jc an ats cn evs hle h12 t (p ++ [x]) (by rw [← h]; simp) false l' (by simp) hl' (by rw [QpB hS]; exact hm)
   have seats : Evt fun n => ∀ s ∈ l', C 0 n Qcw [.int .i64 s.st] = some (.bool (QgN s.st)) := Evt.fin l' fun s _ => Qnr 0 s.st
   have lives : Evt fun n => ∀ s ∈ l', C 0 n Qda [.int .i64 s.st] = some (.bool (QjB s.st)) := Evt.fin l' fun s _ => Qqr 0 s.st
   refine Evt.imp2 hC (Evt.imp2 (Evt.imp2 seats lives fun n a b => And.intro a b) (Evt.imp2 next (Evt.ge 20) fun n a b => And.intro a b) fun n a b => And.intro a b) fun n c1 ⟨⟨hs, hv⟩, hi, hn⟩ k hk => ?_
   obtain ⟨k, rfl⟩ : ∃ i, k = i + 1 := ⟨k - 1, by simp at hk; omega⟩
   rw [Qa4]
   refine stT (decT hlt) (stO _ hea (stC rfl (stO _ rfl (stO _ (Qaq ..) (stF (beqF h5) (stO _ hea (stC rfl (stO _ rfl (stO _ (Qaq ..) (stF (beqF h6) (stO _ hea (stC rfl (stO _ rfl (stO _ (Qaq ..) (stF (beqF h7) (stO _ hxa (stC rfl (stO _ rfl (stO _ hea (stC rfl (stO _ rfl (stO _ c1 (stO _ rfl (stO _ rfl (stO _ rfl (stO _ rfl (stO _ rfl (stO _ rfl (stO _ rfl (stC rfl (stO _ rfl (stO _ rfl (stO _ rfl (stO _ rfl (stO _ rfl (stO _ rfl (stO _ (Qaq ..) (stF rfl (stO _ rfl (stO _ rfl (stF (bneF ?_) (stO _ rfl (stF (beqF ?_) ?_)))))))))))))))))))))))))))))))))))))))))))
   ·simp [hS.len]
   ·have : (allF l x e).length ≠ 0 := by simpa using hne
    simp; exact hne
   ·refine (Qq8 0 _ _ _ _ _ _ _ _ _ _ _ _ _ _ _ _ _ _ _ _ _ _ _ _ _ _ _ _ _ _ _ _ _ _ _ _ l l' hS bn false rfl rfl (by omega) (by omega) hs hv l.length 0 (by omega) n (by omega)).trans ?_
    rw [hw]
    exact hi k (by simp at hk; omega)
theorem QpW {loc : Bs} {ps : List Pe} {g : Int} {l : List Sg} {svs : List Sv} {lim : Int} (h : Qlt loc ps g l svs lim = []) : marE (mars l) = 0 := by
 unfold Qlt at h
 simp only [List.append_eq_nil_iff] at h
 have := h.1.1.2
 by_cases hm : marE (mars l) = 0
 ·exact hm
 ·rw [bneT hm] at this; simp [QaC] at this
theorem QlU (loc : Bs) (pn : Bool) (ps : List Pe) (g : Int) (bn : Bool) (l : List Sg) (rn : Bool) (svs : List Sv) (lim : Int) (an : Bool) (ats : List Int) (cn : Bool) (evs : List Int)
  (hloc : loc.length ≤ 281474976710656) (hps : ∀ p ∈ ps, PeOk p) (hbn : bn = true → l = []) (hsg : ∀ s ∈ l, s.car.length ≤ 281474976710656 ∧ s.fr.length ≤ 281474976710656 ∧ s.to.length ≤ 281474976710656) (hsv : ∀ x ∈ svs, x.cd.length ≤ 281474976710656) :
  Ret 0 Qaa [.agg [.str loc, .list pn (ps.map peE), .int .i64 g, .list bn (l.map sgE), .list rn (svs.map svE), .int .i64 lim], .list an (ats.map icv), .list cn (evs.map icv)] (.bool true) := by
 have hA := topAwake_ok
 by_cases h1 : l.length > 8
 ·exact .top rfl (hA.mono fun n h => by rw [Qbh]; exact stT (decT (by simp; omega)) (stO _ h rfl))
 by_cases h2 : ps.length > 9
 ·exact .top rfl (hA.mono fun n h => by rw [Qbh]; exact stF (decF (by simp; omega)) (stT (decT (by simp; omega)) (stO _ h rfl)))
 by_cases h3 : svs.length > 8
 ·exact .top rfl (hA.mono fun n h => by rw [Qbh]; exact stF (decF (by simp; omega)) (stF (decF (by simp; omega)) (stT (decT (by simp; omega)) (stO _ h rfl))))
 by_cases h4 : ats.length > 12
 ·exact .top rfl (hA.mono fun n h => by rw [Qbh]; exact stF (decF (by simp; omega)) (stF (decF (by simp; omega)) (stF (decF (by simp; omega)) (stT (decT (by simp; omega)) (stO _ h rfl)))))
 by_cases h5 : evs.length < ats.length
 ·exact .top rfl (hA.mono fun n h => by rw [Qbh]; exact stF (decF (by simp; omega)) (stF (decF (by simp; omega)) (stF (decF (by simp; omega)) (stF (decF (by simp; omega)) (stT (decT (by simp; omega)) (stO _ h rfl))))))
 have hB := QjP 0 loc pn ps g bn l rn svs lim hloc (by omega) hps (by omega) hsg (by omega) hsv
 cases hb : Qlt loc ps g l svs lim with
 | cons f r =>
  rw [hb] at hB
  exact .top rfl (Evt.imp2 hA hB fun n h c => by rw [Qbh]; exact stF (decF (by simp; omega)) (stF (decF (by simp; omega)) (stF (decF (by simp; omega)) (stF (decF (by simp; omega)) (stF (decF (by simp; omega)) (stO _ c (stO _ rfl (stT (decT (by simp)) (stO _ h rfl)))))))))
 | nil =>
  rw [hb] at hB
  have hL := Evt.diag (Qpj loc pn (ps.map peE) g bn (l.map sgE) rn (svs.map svE) lim an ats cn evs (by omega) (by omega) ats [] rfl bn l hbn (by omega) (QpW hb))
  exact .top rfl (Evt.imp2 hL hB fun n h c => by rw [Qbh]; exact stF (decF (by simp; omega)) (stF (decF (by simp; omega)) (stF (decF (by simp; omega)) (stF (decF (by simp; omega)) (stF (decF (by simp; omega)) (stO _ c (stO _ rfl (stF rfl h))))))))
end Go.Proofs
