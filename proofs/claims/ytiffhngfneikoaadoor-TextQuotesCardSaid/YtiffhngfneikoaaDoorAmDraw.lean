/- A region of the abstract machine whose order is drawn is sound. Conditions: none. -/
import Derived.Test.YtiffhngfneikoaaDoorAmReg
namespace Go.Am
open Go.RowKit
variable {P : Program} {B : Nat} {W0 : Base} {d : Nat} {σ : St} {a : Act} {w : World} {G : Gh} {β : Type} {call : FuncId → List CV → Option CV}
  {inl : FuncId → List AV → MemT → (AV → MemT → Option β) → Option β} {acc : List Loc} {r : β} {o : Oper} {ops : Array Oper}

/-! the table of what comes before what -/
def lookStep (look : Nat → Nat) (s : Nat) (e : Edge) : Nat := if Region.binds .any e then s ||| 2 ^ e.on ||| look e.on else s
theorem edges_bit (look : Nat → Nat) {i : Nat} : ∀ (l : List Edge) (s : Nat), (l.foldl (lookStep look) s).testBit i = true → s.testBit i = true ∨ ∃ e ∈ l, Region.binds .any e = true ∧ (e.on = i ∨ (look e.on).testBit i = true)
  | [], s, h => .inl h
  | e :: l, s, h => by
    rcases edges_bit look l _ h with h | ⟨e', h1, h2⟩
    · unfold lookStep at h
      by_cases hb : Region.binds .any e
      · rw [if_pos hb] at h
        rw [Nat.testBit_or, Nat.testBit_or, Bool.or_eq_true, Bool.or_eq_true] at h
        rcases h with (h | h) | h
        · exact .inl h
        · rw [Nat.testBit_two_pow] at h
          exact .inr ⟨e, by simp, hb, .inl (by simpa using h)⟩
        · exact .inr ⟨e, by simp, hb, .inr h⟩
      · rw [if_neg hb] at h; exact .inl h
    · exact .inr ⟨e', by simp [h1], h2⟩
def befStep (acc : Array Nat) (o : Oper) : Array Nat := acc.push (o.after.toList.foldl (lookStep fun i => acc.getD i 0) 0)
theorem before_fold (ops : Array Oper) : Region.before ops = ops.toList.foldl befStep #[] := by
  unfold Region.before
  rw [← Array.foldl_toList]
  congr 1
  funext acc o
  unfold befStep lookStep
  rw [Array.foldl_toList]
theorem bef_size : ∀ (l : List Oper) (A : Array Nat), (l.foldl befStep A).size = A.size + l.length
  | [], A => by simp
  | o :: l, A => by rw [List.foldl_cons, bef_size l]; simp [befStep]; omega
theorem bef_get : ∀ (l : List Oper) (A : Array Nat) (j : Nat), j < A.size → (l.foldl befStep A).getD j 0 = A.getD j 0
  | [], A, j, _ => rfl
  | o :: l, A, j, h => by
    rw [List.foldl_cons, bef_get l _ j (by simp [befStep]; omega)]
    simp [befStep, Array.getElem?_push, Nat.ne_of_lt h]
theorem bef_bit : ∀ (l : List Oper) (A : Array Nat) (t i : Nat) (o : Oper), l[t]? = some o → ((l.foldl befStep A).getD (A.size + t) 0).testBit i = true →
    ∃ e ∈ o.after.toList, Region.binds .any e = true ∧ (e.on = i ∨ (e.on < A.size + t ∧ ((l.foldl befStep A).getD e.on 0).testBit i = true))
  | [], A, t, i, o, h, _ => by simp at h
  | x :: l, A, 0, i, o, h, hb => by
    simp only [List.getElem?_cons_zero, Option.some.injEq] at h
    subst h
    rw [List.foldl_cons, Nat.add_zero, bef_get l _ _ (by simp [befStep])] at hb
    have e1 : (befStep A x).getD A.size 0 = x.after.toList.foldl (lookStep fun i => A.getD i 0) 0 := by simp [befStep]
    rw [e1] at hb
    rcases edges_bit _ _ _ hb with hb | ⟨e, h1, h2, h3⟩
    · simp at hb
    · refine ⟨e, h1, h2, ?_⟩
      rcases h3 with h3 | h3
      · exact .inl h3
      · have hlt : e.on < A.size := Decidable.byContradiction fun hn => by
          have : A.getD e.on 0 = 0 := by rw [Array.getD_eq_getD_getElem?, Array.getElem?_eq_none (by omega)]; rfl
          rw [this] at h3; simp at h3
        refine .inr ⟨by omega, ?_⟩
        rw [List.foldl_cons, bef_get l _ _ (by simp [befStep]; omega)]
        have : (befStep A x).getD e.on 0 = A.getD e.on 0 := by
          have := bef_get [x] A e.on hlt
          simpa using this
        rw [this]; exact h3
  | x :: l, A, t + 1, i, o, h, hb => by
    simp only [List.foldl_cons] at hb ⊢
    have hs : (befStep A x).size = A.size + 1 := by simp [befStep]
    rw [show A.size + (t + 1) = (befStep A x).size + t by omega] at hb ⊢
    exact bef_bit l (befStep A x) t i o (by simpa using h) hb
def bitOf (ops : Array Oper) (j i : Nat) : Bool := (nthD 0 (Region.before ops).toList j).testBit i
theorem bitOf_spec {j i : Nat} (h : bitOf ops j i = true) : ∃ o, ops[j]? = some o ∧ ∃ e ∈ o.after, Region.binds .any e = true ∧ (e.on = i ∨ (e.on < j ∧ bitOf ops e.on i = true)) := by
  have key : ∀ j, nthD 0 (Region.before ops).toList j = (ops.toList.foldl befStep #[]).getD j 0 := fun j => by
    rw [nthD_get, before_fold, Array.getD_eq_getD_getElem?, Array.getElem?_toList]
  unfold bitOf at *
  simp only [key] at *
  cases ho : ops[j]? with
  | none =>
    have : ops.size ≤ j := by simpa using ho
    have e : (ops.toList.foldl befStep #[]).getD j 0 = 0 := by
      rw [Array.getD_eq_getD_getElem?, Array.getElem?_eq_none (by rw [bef_size]; simpa using this)]; rfl
    rw [e] at h; simp at h
  | some o =>
    have := bef_bit ops.toList #[] j i o (by simpa using ho) (by simpa using h)
    obtain ⟨e, h1, h2, h3⟩ := this
    exact ⟨o, rfl, e, by simpa using h1, h2, by simpa using h3⟩

/-- whatever is listed waited for what it waits for -/
def Closed (ops : Array Oper) (L : Array Bool) : Prop := ∀ j o, L.getD j false = true → ops[j]? = some o → ∀ e ∈ o.after, Region.binds .any e = true → L.getD e.on false = true
theorem closed_bit {L : Array Bool} (hc : Closed ops L) : ∀ j i, (∀ o, ops[j]? = some o → ∀ e ∈ o.after, Region.binds .any e = true → L.getD e.on false = true) → bitOf ops j i = true → L.getD i false = true := by
  intro j
  induction j using Nat.strongRecOn with
  | _ j ih =>
    intro i hj h
    obtain ⟨o, ho, e, he, hb, h⟩ := bitOf_spec h
    have h1 := hj o ho e he hb
    rcases h with h | ⟨hlt, h⟩
    · rw [← h]; exact h1
    · exact ih e.on hlt i (fun o' ho' => hc e.on o' h1 ho') h

/-! what 'agree' says -/
theorem agree_spec {before : List Nat} : ∀ {ds : List Did} {n : Nat}, agree before n ds = true → ds.length ≤ n → ∀ p q x y, p < q → ds.reverse[p]? = some y → ds.reverse[q]? = some x →
    (nthD 0 before (n - ds.length + q)).testBit (n - ds.length + p) = true ∨ x.conflict y = false
  | [], n, _, _, p, q, x, y, _, h, _ => by simp at h
  | z :: r, n, h, hn, p, q, x, y, hpq, hy, hx => by
    simp only [agree, Bool.and_eq_true, List.all_eq_true] at h
    obtain ⟨h1, h2⟩ := h
    simp only [List.length_cons] at hn
    rw [List.reverse_cons] at hx hy
    have hq : q < r.length + 1 := by
      have := (List.getElem?_eq_some_iff.1 hx).1
      simpa using this
    have hyr : r.reverse[p]? = some y := by
      rw [List.getElem?_append_left (by simp; omega)] at hy; exact hy
    have en : n - (z :: r).length = n - 1 - r.length := by simp; omega
    rw [en]
    by_cases hlast : q = r.length
    · subst hlast
      have hxz : x = z := by
        rw [List.getElem?_append_right (by simp)] at hx
        simpa using hx.symm
      subst hxz
      have hyk : r[r.length - 1 - p]? = some y := by
        rw [List.getElem?_reverse (by omega)] at hyr; exact hyr
      have := h1 (y, r.length - 1 - p) (by rw [List.mem_zipIdx_iff_getElem?]; exact hyk)
      simp only [Bool.or_eq_true, Bool.not_eq_true'] at this
      have e1 : n - 1 - r.length + r.length = n - 1 := by omega
      have e2 : n - 2 - (r.length - 1 - p) = n - 1 - r.length + p := by omega
      rw [e1, ← e2]
      exact this
    · have hxr : r.reverse[q]? = some x := by
        rw [List.getElem?_append_left (by simp; omega)] at hx; exact hx
      exact agree_spec h2 (by omega) p q x y hpq hyr hxr
theorem conflict_no {x y : Did} (h : x.conflict y = false) : (∀ v ∈ x.writes, ∀ l ∈ y.reads, l.hit v = false) ∧ (∀ v ∈ y.writes, ∀ l ∈ x.reads, l.hit v = false) ∧ (∀ v ∈ x.writes, ∀ u ∈ y.writes, u.clash v = false) := by
  unfold Did.conflict at h
  simp only [Bool.or_eq_false_iff, List.any_eq_false, Bool.or_eq_true, not_or, List.any_eq_true, not_exists, not_and, Bool.not_eq_true] at h
  exact ⟨fun v hv l hl => (h.1 v hv).1 l hl, fun v hv l hl => h.2 v hv l hl, fun v hv u hu => (h.1 v hv).2 u hu⟩

/-! a stretch without calls in place -/
def Steps (P : Program) (B : Nat) (W0 : Base) (d : Nat) (ops : Array Oper) : St → Nat → List Did → St → Prop
  | σ, _, [], σ' => σ' = σ
  | σ, i, D :: E, σ' => (∃ o, ops[i]? = some o ∧ Moves P B W0 d ops o σ D) ∧ Steps P B W0 d ops (applyW σ D.writes) (i + 1) E σ'

/-- a call in place at m, and what comes after it -/
def Turns (P : Program) (B : Nat) (W0 : Base) (d : Nat) (ops : Array Oper) (rest : St → Prop) (σ : St) (o : Oper) : Prop :=
  ∀ a w G, Sim P B W0 d σ a w G → ∀ (K : Act → World → Prop) (Q : Exit → Act → World → Prop),
    (∀ a' w' G' σ', Sim P B W0 d σ' a' w' G' → Keeps B d w w' G G' → rest σ' → K a' w') → wpO P ops Q o K a w

noncomputable abbrev drawK (P : Program) (call : FuncId → List CV → Option CV) (inl : FuncId → List AV → MemT → (AV → MemT → Option β) → Option β) (d : Nat) (ops : Array Oper) (i : Nat) (ds : List Did) (k : St → Option β) (σ : St) : Option β :=
  opsDrawK P call inl d (Region.before ops).toList ops.toList (ops.toList.drop i) i ds k σ

theorem draw_segment (SE : StructEqOk P) (CO : CallOK P B W0 call) (Iok : InlOK P B W0 inl) {k : St → Option β} : ∀ (l : List Oper) (i : Nat), i ≤ ops.size → ops.toList.drop i = l → ∀ (ds : List Did) (σ : St), drawK P call inl d ops i ds k σ = some r →
    ∃ E σ', Steps P B W0 d ops σ i E σ' ∧
      ((i + E.length = ops.size ∧ agree (Region.before ops).toList ops.size (E.reverse ++ ds) = true ∧ k σ' = some r) ∨
       (i + E.length < ops.size ∧ agree (Region.before ops).toList (i + E.length) (E.reverse ++ ds) = true ∧ barrier (Region.before ops).toList (i + E.length) ops.size = true ∧
         ∃ o, ops[i + E.length]? = some o ∧ Turns P B W0 d ops (fun σ'' => drawK P call inl d ops (i + E.length + 1) [] k σ'' = some r) σ' o))
  | [], i, hi, hl, ds, σ, h => by
    have hn : ops.size = i := by
      have : ops.size ≤ i := by simpa using hl
      omega
    unfold drawK at h
    rw [hl] at h
    change endDraw (Region.before ops).toList ops.toList.length ds k σ = some r at h
    obtain ⟨h1, h2⟩ := chkO_some h
    exact ⟨[], σ, rfl, .inl ⟨by simp [hn], by simpa using h1, h2⟩⟩
  | o :: l, i, hi, hl, ds, σ, h => by
    have hlt : i < ops.size := Decidable.byContradiction fun hn => by
      rw [List.drop_eq_nil_of_le (by simp; omega)] at hl; cases hl
    have ho : ops[i]? = some o := by
      have : (ops.toList.drop i)[0]? = some o := by rw [hl]; rfl
      simpa using this
    have hl' : ops.toList.drop (i + 1) = l := by
      have : (ops.toList.drop i).drop 1 = l := by rw [hl]; rfl
      simpa [List.drop_drop, Nat.add_comm] using this
    unfold drawK at h
    rw [hl] at h
    change stepK P call inl d σ ops.toList o (barrier (Region.before ops).toList i ops.toList.length && agree (Region.before ops).toList i ds) (drawDid (opsDrawK P call inl d (Region.before ops).toList ops.toList l) i ds k)
      (opsDrawK P call inl d (Region.before ops).toList ops.toList l (i + 1) [] k) = some r at h
    rcases step_sound SE CO Iok h with ⟨D, h, hm⟩ | ⟨hp, hm⟩
    · have h : drawK P call inl d ops (i + 1) (D :: ds) k (applyW σ D.writes) = some r := by unfold drawK; rw [hl']; exact h
      obtain ⟨E, σ', h1, h2⟩ := draw_segment SE CO Iok l (i + 1) (by omega) hl' (D :: ds) _ h
      refine ⟨D :: E, σ', ⟨⟨o, ho, hm⟩, h1⟩, ?_⟩
      have e : i + (D :: E).length = i + 1 + E.length := by simp; omega
      have e2 : (D :: E).reverse ++ ds = E.reverse ++ (D :: ds) := by simp
      rw [e, e2]
      exact h2
    · rw [Bool.and_eq_true] at hp
      refine ⟨[], σ, rfl, .inr ⟨by simpa using hlt, by simpa using hp.2, by simpa using hp.1, o, by simpa using ho, ?_⟩⟩
      intro a w G S K Q hK
      refine hm a w G S K Q fun a' w' G' σ' S' K' h => hK a' w' G' σ' S' K' ?_
      unfold drawK
      simp only [List.length_nil, Nat.add_zero]
      rw [hl']; exact h
end Go.Am
