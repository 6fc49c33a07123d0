/- '==' of two struct values is what the abstract machine reckons. Conditions: none. -/
import Derived.Test.YtiffhngfneikoaaDoorAmT
import Derived.Laws.StructEq
namespace Go.Am
open Go.RowKit
variable {P : Program} {w : World}

def eqOne (t : TypeDesc) (x y : CV) : Option Bool :=
  match t with
  | .int k => match x.asI k, y.asI k with
    | some a, some b => some (a == b)
    | _, _ => none
  | .string => match x.asS, y.asS with
    | some a, some b => some (a == b)
    | _, _ => none
  | .bool => match x.asB, y.asB with
    | some a, some b => some (a == b)
    | _, _ => none
  | _ => none
def eqFlatO : List TypeDesc → List CV → List CV → Option Bool
  | [], _, _ => some true
  | t :: ts, x :: xs, y :: ys => match eqOne t x y, eqFlatO ts xs ys with
    | some h, some r => some (h && r)
    | _, _ => none
  | _ :: _, _, _ => none

theorem exec_eqFlat {β : Type} {call : FuncId → List CV → Option CV} {σ : St} : ∀ {ts : List TypeDesc} {a b : List CV} {acc : List Loc} {f : Bool → List Loc → Option β} {r : β},
    (eqFlat ts a b).exec call σ acc f = some r → ∃ z, eqFlatO ts a b = some z ∧ f z acc = some r
  | [], a, b, acc, f, r, h => ⟨true, rfl, by simpa [eqFlat, M.exec] using h⟩
  | t :: ts, [], b, acc, f, r, h => by simp [eqFlat, M.exec] at h
  | t :: ts, x :: xs, [], acc, f, r, h => by simp [eqFlat, M.exec] at h
  | t :: ts, x :: xs, y :: ys, acc, f, r, h => by
    unfold eqFlat at h
    have fin : ∀ {z : Bool}, eqOne t x y = some z → (eqFlat ts xs ys).exec call σ acc (fun q acc' => f (z && q) acc') = some r → ∃ z, eqFlatO (t :: ts) (x :: xs) (y :: ys) = some z ∧ f z acc = some r := by
      intro z hz h
      obtain ⟨q, h1, h2⟩ := exec_eqFlat h
      exact ⟨z && q, by simp [eqFlatO, hz, h1], h2⟩
    cases t with
    | int k =>
      simp only [M.exec_bind', M.exec] at h
      obtain ⟨p, hp, h⟩ := optO_some h
      obtain ⟨q, hq, h⟩ := optO_some h
      exact fin (z := p == q) (by simp [eqOne, hp, hq]) h
    | string =>
      simp only [M.exec_bind', M.exec] at h
      obtain ⟨p, hp, h⟩ := optO_some h
      obtain ⟨q, hq, h⟩ := optO_some h
      exact fin (z := p == q) (by simp [eqOne, hp, hq]) h
    | bool =>
      simp only [M.exec_bind', M.exec] at h
      obtain ⟨p, hp, h⟩ := optO_some h
      obtain ⟨q, hq, h⟩ := optO_some h
      exact fin (z := p == q) (by simp [eqOne, hp, hq]) h
    | _ => simp [M.exec_bind', M.exec] at h

theorem eqFlatO_append : ∀ {t1 t2 : List TypeDesc} {a b : List CV} {z : Bool}, eqFlatO (t1 ++ t2) a b = some z →
    ∃ z1 z2, eqFlatO t1 (a.take t1.length) (b.take t1.length) = some z1 ∧ eqFlatO t2 (a.drop t1.length) (b.drop t1.length) = some z2 ∧ z = (z1 && z2) ∧ t1.length ≤ a.length ∧ t1.length ≤ b.length
  | [], t2, a, b, z, h => ⟨true, z, rfl, by simpa using h, by simp, by simp, by simp⟩
  | t :: t1, t2, [], b, z, h => by simp [eqFlatO] at h
  | t :: t1, t2, x :: xs, [], z, h => by simp [eqFlatO] at h
  | t :: t1, t2, x :: xs, y :: ys, z, h => by
    simp only [List.cons_append, eqFlatO] at h
    split at h
    · rename_i p q h1 h2
      simp only [Option.some.injEq] at h
      subst h
      obtain ⟨z1, z2, e1, e2, rfl, l1, l2⟩ := eqFlatO_append h2
      exact ⟨p && z1, z2, by simp [eqFlatO, h1, e1], by simpa using e2, by simp [Bool.and_assoc], by simpa using l1, by simpa using l2⟩
    · cases h

theorem CRepV.drop {h : Hw} : ∀ (k : Nat) {cs : List CV} {vs : List Value}, CRepV w h cs vs → CRepV w h (cs.drop k) (vs.drop k)
  | 0, cs, vs, x => by simpa using x
  | k + 1, [], vs, x => by simp only [CRepV] at x; subst x; simp [CRepV]
  | k + 1, c :: cs, vs, x => by
    simp only [CRepV] at x
    obtain ⟨v, r, rfl, _, _, h4⟩ := x
    simpa using CRepV.drop k h4
theorem CRepV.take {h : Hw} : ∀ (k : Nat) {cs : List CV} {vs : List Value}, CRepV w h cs vs → CRepV w h (cs.take k) (vs.take k)
  | 0, cs, vs, x => by simp [CRepV]
  | k + 1, [], vs, x => by simp only [CRepV] at x; subst x; simp [CRepV]
  | k + 1, c :: cs, vs, x => by
    simp only [CRepV] at x
    obtain ⟨v, r, rfl, h2, h3, h4⟩ := x
    simp only [List.take_succ_cons, CRepV]
    exact ⟨v, _, rfl, h2, h3, CRepV.take k h4⟩

/-- the value that cells of a type make -/
def valOf (P : Program) (t : TypeId) (vs : List Value) : Value := if isAggT P t = true then .agg vs.toArray else vs.getD 0 undef

theorem flatFields_ext {rec : TypeId → Option (List TypeDesc)} : ∀ {fs : List Field} {acc ts : List TypeDesc}, flatFields P rec fs acc = some ts → ∃ rest, ts = acc ++ rest
  | [], acc, ts, h => by simp only [flatFields, Option.some.injEq] at h; exact ⟨[], by simp [h]⟩
  | f :: r, acc, ts, h => by
    unfold flatFields at h
    split at h
    · split at h
      · obtain ⟨rest, e⟩ := flatFields_ext h
        exact ⟨_, by rw [e, List.append_assoc]⟩
      · cases h
    · cases h

theorem flatEq_some {n : Nat} {t : TypeId} {ts : List TypeDesc} (h : flatEq P n t = some ts) : (P.underlying t).isSome = true ∧ (isAggT P t = false → ts.length = 1) := by
  cases n with
  | zero => simp [flatEq] at h
  | succ n =>
    unfold flatEq at h
    split at h <;> rename_i hu
    · simp only [Option.some.injEq] at h; subst h; simp [hu]
    · simp only [Option.some.injEq] at h; subst h; simp [hu]
    · simp only [Option.some.injEq] at h; subst h; simp [hu]
    · simp [hu, isAggT]
    · cases h

theorem run_part {n : Nat} {t : TypeId} {ts : List TypeDesc} (h : flatEq P n t = some ts) (hc : P.cellsOf t = ts.length) {vs : List Value} {off : Nat} (hl : off + ts.length ≤ vs.length) :
    (part t vs.toArray off).run P w = .ok (valOf P t ((vs.drop off).take ts.length)) w := by
  obtain ⟨hs, h1⟩ := flatEq_some h
  unfold part
  simp only [Sem.run_bind, run_isAgg hs, Result.andThen_ok]
  by_cases ha : isAggT P t = true
  · simp only [ha, if_true, Sem.run_bind, run_sizeOf_of hs, Result.andThen_ok, Sem.run_pure, valOf, hc]
    congr 2
    apply Array.ext'
    simp
  · simp only [Bool.not_eq_true] at ha
    have := h1 ha
    have hlt : off < vs.length := by omega
    simp [ha, valOf, this, hlt, List.getD, List.take_one]

theorem flatEq_sound {h : Hw} : ∀ {n : Nat} {t : TypeId} {ts : List TypeDesc}, flatEq P n t = some ts → ∀ {a b : List CV} {vs us : List Value} {z : Bool} {d : Nat},
    CRepV w h a vs → CRepV w h b us → eqFlatO ts a b = some z → n ≤ d → (Op.equalIn (d + 1) t (valOf P t vs) (valOf P t us)).run P w = .ok z w
  | 0, t, ts, e, a, b, vs, us, z, d, ha, hb, hz, hd => by simp [flatEq] at e
  | n + 1, t, ts, e, a, b, vs, us, z, d, ha, hb, hz, hd => by
    unfold flatEq at e
    have one : ∀ {k : TypeDesc}, ts = [k] → ∃ x y a' b' u u' r r', a = x :: a' ∧ b = y :: b' ∧ vs = u :: r ∧ us = u' :: r' ∧ CRep w h x u ∧ CRep w h y u' ∧ eqOne k x y = some z := by
      intro k hk
      subst hk
      cases a with
      | nil => simp [eqFlatO] at hz
      | cons x a' =>
        cases b with
        | nil => simp [eqFlatO] at hz
        | cons y b' =>
          simp only [CRepV] at ha hb
          obtain ⟨u, r, h1, _, h2, _⟩ := ha
          obtain ⟨u', r', h3, _, h4, _⟩ := hb
          refine ⟨x, y, a', b', u, u', r, r', rfl, rfl, h1, h3, h2, h4, ?_⟩
          simp only [eqFlatO] at hz
          split at hz
          · rename_i p q hp hq
            simp only [Option.some.injEq] at hq hz
            subst hq hz
            simp [hp]
          · cases hz
    split at e <;> rename_i hu
    · simp only [Option.some.injEq] at e
      obtain ⟨x, y, a', b', u, u', r, r', rfl, rfl, rfl, rfl, h1, h2, h3⟩ := one e.symm
      simp only [eqOne] at h3
      split at h3
      · rename_i p q hp hq
        rw [asB_some hp] at h1
        rw [asB_some hq] at h2
        simp only [CRep] at h1 h2
        subst h1 h2
        simp only [Option.some.injEq] at h3
        subst h3
        simp [valOf, isAggT, hu, run_equalIn_bool' w d t p q hu]
      · cases h3
    · rename_i k
      simp only [Option.some.injEq] at e
      obtain ⟨x, y, a', b', u, u', r, r', rfl, rfl, rfl, rfl, h1, h2, h3⟩ := one e.symm
      simp only [eqOne] at h3
      split at h3
      · rename_i p q hp hq
        rw [asI_some hp] at h1
        rw [asI_some hq] at h2
        simp only [CRep] at h1 h2
        subst h1 h2
        simp only [Option.some.injEq] at h3
        subst h3
        simp [valOf, isAggT, hu, run_equalIn_int w d t k k p q hu]
      · cases h3
    · simp only [Option.some.injEq] at e
      obtain ⟨x, y, a', b', u, u', r, r', rfl, rfl, rfl, rfl, h1, h2, h3⟩ := one e.symm
      simp only [eqOne] at h3
      split at h3
      · rename_i p q hp hq
        rw [asS_some hp] at h1
        rw [asS_some hq] at h2
        simp only [CRep] at h1 h2
        subst h1 h2
        simp only [Option.some.injEq] at h3
        subst h3
        simp [valOf, isAggT, hu, run_equalIn_string w d t _ _ hu, ByteArray.toList_eq]
      · cases h3
    · rename_i fs
      split at e
      · rename_i hst
        have hf : P.fieldsOf t = fs := by simp [Program.fieldsOf, hu]
        have hagg : isAggT P t = true := by simp [isAggT, hu]
        obtain ⟨d, rfl⟩ : ∃ d', d = d' + 1 := ⟨d - 1, by omega⟩
        simp only [valOf, hagg, if_true]
        rw [run_equalIn_struct w (d + 1) t _ _ (by rw [hf]; exact hu) hst, hf]
        have key : ∀ {fl : List Field} {ac : List TypeDesc} {rest : List TypeDesc} {z : Bool}, flatFields P (flatEq P n) fl ac = some (ac ++ rest) → ac.length ≤ a.length → ac.length ≤ b.length → eqFlatO rest (a.drop ac.length) (b.drop ac.length) = some z →
            (Op.eqFields (d + 1) vs.toArray us.toArray fl).run P w = .ok z w := by
          intro fl
          induction fl with
          | nil =>
            intro ac rest z h1 _ _ h2
            simp only [flatFields, Option.some.injEq] at h1
            have : rest = [] := by simpa using h1
            subst this
            simp only [eqFlatO, Option.some.injEq] at h2
            subst h2
            simp [Op.eqFields]
          | cons f fl ih =>
            intro ac rest z h1 hla hlb h2
            unfold flatFields at h1
            split at h1
            · rename_i tf htf
              split at h1
              · rename_i hchk
                simp only [Bool.and_eq_true, bne_iff_ne, ne_eq, beq_iff_eq] at hchk
                obtain ⟨⟨hn, ho⟩, hc⟩ := hchk
                obtain ⟨rest', hr⟩ := flatFields_ext h1
                rw [List.append_assoc] at hr
                have hr := List.append_cancel_left hr
                subst hr
                obtain ⟨z1, z2, e1, e2, rfl, l1, l2⟩ := eqFlatO_append h2
                have hvl := CRepV.length ha
                have hul := CRepV.length hb
                simp only [List.length_drop] at l1 l2
                have pa := run_part (w := w) htf hc (vs := vs) (off := ac.length) (by omega)
                have pb := run_part (w := w) htf hc (vs := us) (off := ac.length) (by omega)
                have q1 := flatEq_sound htf ((ha.drop ac.length).take tf.length) ((hb.drop ac.length).take tf.length) e1 (d := d) (by omega)
                simp only [List.drop_drop] at e2
                have q2 := ih (ac := ac ++ tf) (rest := rest') (z := z2) (by rw [List.append_assoc]; exact h1) (by simp; omega) (by simp; omega) (by simpa using e2)
                simp only [Op.eqFields, hn, not_false_eq_true, if_true, ne_eq, Sem.run_bind, ho, pa, pb, Result.andThen_ok, q1]
                cases z1
                · simp
                · simpa using q2
              · cases h1
            · cases h1
        obtain ⟨rest, hr⟩ := flatFields_ext e
        simp only [List.nil_append] at hr
        subst hr
        exact key (ac := []) (rest := ts) (by simpa using e) (by simp) (by simp) (by simpa using hz)
      · cases e
    · cases e

theorem structEqOk (P : Program) : StructEqOk P := by
  intro β call σ acc r f op t ts a b vs us w h fs ht hte ha hb hx
  unfold topEq at hte
  split at hte
  · rename_i hg
    rw [M.exec_bind] at hx
    obtain ⟨z, hz, hx⟩ := exec_eqFlat hx
    obtain ⟨c, v, acc', h1, h2, h3⟩ : ∃ c v acc', f c acc' = some r ∧ CRep w h c v ∧ (binOp op t (.agg vs.toArray) (.agg us.toArray)).run P w = .ok v w := by
      have hq := flatEq_sound hte ha hb hz (d := 9999) (by omega)
      have hagg : isAggT P t = true := by simp [isAggT, ht]
      simp only [valOf, hagg, if_true] at hq
      cases op with
      | eql =>
        simp only [eqOp, M.exec] at hx
        exact ⟨_, .bool z, _, hx, by simp only [CRep], by rw [run_eql_struct, hq]; rfl⟩
      | neq =>
        simp only [eqOp, M.exec] at hx
        exact ⟨_, .bool !z, _, hx, by simp only [CRep], by rw [run_neq_struct, hq]; rfl⟩
      | _ => simp [eqOp, M.exec] at hx
    exact ⟨c, v, acc', h1, h2, h3, fun ox oy => run_eqGuard_agg w op t ox oy _ _ hg⟩
  · cases hte
end Go.Am
