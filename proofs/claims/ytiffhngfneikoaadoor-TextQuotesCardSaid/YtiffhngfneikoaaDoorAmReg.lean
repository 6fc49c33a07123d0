/- A region of the abstract machine is sound, in whichever order its operations are taken. Conditions: none. -/
import Derived.Test.YtiffhngfneikoaaDoorAmZ
namespace Go.Am
open Go.RowKit
variable {P : Program} {B : Nat} {W0 : Base} {d : Nat} {σ : St} {a : Act} {w : World} {G : Gh} {β : Type} {call : FuncId → List CV → Option CV}
  {inl : FuncId → List AV → MemT → (AV → MemT → Option β) → Option β} {acc : List Loc} {r : β} {o : Oper} {ops : Array Oper}

/-! in the given order -/
theorem wpOps_wpO {i : Nat} (hi : ops[i]? = some o) {rest : List Nat} {Q : Exit → Act → World → Prop} : wpOps P ops Q (i :: rest) a w = wpO P ops Q o (wpOps P ops Q rest) a w := by
  simp only [wpOps, hi, wpO]
theorem opsK_sound (SE : StructEqOk P) (CO : CallOK P B W0 call) (Iok : InlOK P B W0 inl) {Q : Exit → Act → World → Prop} : ∀ (l : List Oper) (i : Nat), ops.toList.drop i = l → ∀ {k : St → Option β} {σ : St},
    opsK P call inl d ops.toList l k σ = some r → ∀ a w G, Sim P B W0 d σ a w G → (∀ a' w' G' σ', Sim P B W0 d σ' a' w' G' → Keeps B d w w' G G' → k σ' = some r → Q .normal a' w') →
    wpOps P ops Q (List.range' i (ops.size - i)) a w
  | [], i, hl, k, σ, h, a, w, G, S, hQ => by
    have : ops.size ≤ i := by simpa using hl
    rw [show ops.size - i = 0 by omega]
    simp only [List.range'_zero, wpOps]
    exact hQ _ _ G σ S (Keeps.refl _ _ _ _) h
  | o :: l, i, hl, k, σ, h, a, w, G, S, hQ => by
    have hi : i < ops.size := Decidable.byContradiction fun hn => by
      rw [List.drop_eq_nil_of_le (by simp; omega)] at hl; cases hl
    have ho : ops[i]? = some o := by
      have : (ops.toList.drop i)[0]? = some o := by rw [hl]; rfl
      simpa using this
    have hl' : ops.toList.drop (i + 1) = l := by
      have : (ops.toList.drop i).drop 1 = l := by rw [hl]; rfl
      simpa [List.drop_drop, Nat.add_comm] using this
    rw [show ops.size - i = (ops.size - (i + 1)) + 1 by omega, List.range'_succ, wpOps_wpO ho]
    change stepK P call inl d σ ops.toList o true (dropDid (opsK P call inl d ops.toList l k)) (opsK P call inl d ops.toList l k) = some r at h
    rcases step_sound SE CO Iok h with ⟨D, h, hm⟩ | ⟨_, hm⟩
    · refine hm σ ⟨rfl, rfl, fun _ => rfl⟩ (fun l _ => by cases l <;> simp [Loc.same]) a w G S _ Q fun a' w' G' S' K' => ?_
      exact opsK_sound SE CO Iok l (i + 1) hl' h a' w' G' S' fun a'' w'' G'' σ'' S'' K'' hk => hQ _ _ _ _ S'' (K'.trans K'') hk
    · refine hm a w G S _ Q fun a' w' G' σ' S' K' h => ?_
      exact opsK_sound SE CO Iok l (i + 1) hl' h a' w' G' S' fun a'' w'' G'' σ'' S'' K'' hk => hQ _ _ _ _ S'' (K'.trans K'') hk

/-! writes that touch different things -/
theorem setN_comm {α : Type} : ∀ (l : List α) {i j : Nat} (x y : α), i ≠ j → setN (setN l i x) j y = setN (setN l j y) i x
  | [], _, _, _, _, _ => rfl
  | _ :: _, 0, 0, _, _, h => absurd rfl h
  | _ :: _, 0, _ + 1, _, _, _ => rfl
  | _ :: _, _ + 1, 0, _, _, _ => rfl
  | z :: l, i + 1, j + 1, x, y, h => by simp only [setN, setN_comm l x y (fun e => h (congrArg (· + 1) e))]
theorem setN_setN {α : Type} : ∀ (l : List α) {i : Nat} (x y : α), setN (setN l i x) i y = setN l i y
  | [], _, _, _ => rfl
  | _ :: _, 0, _, _ => rfl
  | z :: l, i + 1, x, y => by simp only [setN, setN_setN l x y]
theorem box?_setBox (m : MemT) (d s : Nat) (c : List AV) (d' s' : Nat) : box? (setBox m d s c) d' s' = if d' = d ∧ s' = s ∧ d < m.length ∧ s < (nthD [] m d).length then some c else box? m d' s' := by
  unfold box? setBox
  rw [nthD_setN]
  by_cases h : d' = d ∧ d < m.length
  · rw [if_pos h]
    obtain ⟨rfl, h⟩ := h
    rw [nthD_setN]
    by_cases h2 : s' = s ∧ s < (nthD [] m d').length
    · rw [if_pos h2, if_pos ⟨rfl, h2.1, h, h2.2⟩]
    · rw [if_neg h2, if_neg (fun q => h2 ⟨q.2.1, q.2.2.2⟩)]
  · rw [if_neg h, if_neg (fun q => h ⟨q.1, q.2.2.1⟩)]
theorem setBox_comm (m : MemT) {d s d' s' : Nat} (c c' : List AV) (h : ¬ (d = d' ∧ s = s')) : setBox (setBox m d s c) d' s' c' = setBox (setBox m d' s' c') d s c := by
  unfold setBox
  by_cases hd : d = d'
  · subst hd
    have hs : s ≠ s' := fun e => h ⟨rfl, e⟩
    rw [setN_setN, setN_setN, nthD_setN, nthD_setN]
    by_cases hl : d < m.length
    · rw [if_pos ⟨rfl, hl⟩, if_pos ⟨rfl, hl⟩, setN_comm _ _ _ hs]
    · rw [if_neg (fun q => hl q.2), if_neg (fun q => hl q.2)]
      have : ∀ x, setN m d x = m := fun x => by
        have : ∀ (m : MemT) (d : Nat), ¬ d < m.length → setN m d x = m := by
          intro m
          induction m with
          | nil => intro d _; rfl
          | cons y m ih => intro d h; cases d with
            | zero => simp at h
            | succ d => simp only [setN]; rw [ih d (by simpa using h)]
        exact this m d hl
      rw [this, this]
  · rw [nthD_setN, nthD_setN, if_neg (fun q => hd q.1.symm), if_neg (fun q => hd q.1), setN_comm _ _ _ hd]
theorem setCell_some {m : MemT} {d s o : Nat} {v : AV} {c : List AV} (h : box? m d s = some c) : setCell m d s o v = setBox m d s (setN c o v) := by simp [setCell, h]
theorem setCell_none {m : MemT} {d s o : Nat} {v : AV} (h : box? m d s = none) : setCell m d s o v = m := by simp [setCell, h]
theorem box?_lt {m : MemT} {d s : Nat} {c : List AV} (h : box? m d s = some c) : d < m.length ∧ s < (nthD [] m d).length := by
  unfold box? at h
  refine ⟨Decidable.byContradiction fun hn => ?_, Decidable.byContradiction fun hn => ?_⟩
  · rw [nthD_get [] m, List.getElem?_eq_none (by omega)] at h; simp [nthD] at h
  · rw [nthD_get none, List.getElem?_eq_none (by omega)] at h; simp at h
theorem setCell_setBox (m : MemT) {d s o d' s' : Nat} (v : AV) (c : List AV) (h : ¬ (d = d' ∧ s = s')) : setCell (setBox m d' s' c) d s o v = setBox (setCell m d s o v) d' s' c := by
  have e : box? (setBox m d' s' c) d s = box? m d s := by rw [box?_setBox, if_neg (fun q => h ⟨q.1, q.2.1⟩)]
  cases hb : box? m d s with
  | none => rw [setCell_none hb, setCell_none (e.trans hb)]
  | some x => rw [setCell_some hb, setCell_some (e.trans hb), setBox_comm _ _ _ (fun q => h ⟨q.1.symm, q.2.symm⟩)]
theorem setBox_setBox (m : MemT) (d s : Nat) (c c' : List AV) : setBox (setBox m d s c) d s c' = setBox m d s c' := by
  unfold setBox
  rw [setN_setN, nthD_setN]
  by_cases hl : d < m.length
  · rw [if_pos ⟨rfl, hl⟩, setN_setN]
  · rw [if_neg (fun q => hl q.2)]
theorem setCell_comm (m : MemT) {d s o d' s' o' : Nat} (v v' : AV) (h : ¬ (d = d' ∧ s = s' ∧ o = o')) : setCell (setCell m d s o v) d' s' o' v' = setCell (setCell m d' s' o' v') d s o v := by
  by_cases hb : d = d' ∧ s = s'
  · obtain ⟨rfl, rfl⟩ := hb
    have ho : o ≠ o' := fun e => h ⟨rfl, rfl, e⟩
    cases hx : box? m d s with
    | none => rw [setCell_none hx, setCell_none hx, setCell_none hx]
    | some c =>
      have hlt := box?_lt hx
      have e : ∀ c', box? (setBox m d s c') d s = some c' := fun c' => by rw [box?_setBox, if_pos ⟨rfl, rfl, hlt.1, hlt.2⟩]
      rw [setCell_some hx, setCell_some hx, setCell_some (e _), setCell_some (e _), setBox_setBox, setBox_setBox, setN_comm _ _ _ ho]
  · cases hx : box? m d s with
    | none =>
      rw [setCell_none hx]
      cases hy : box? m d' s' with
      | none => rw [setCell_none hy, setCell_none hx]
      | some c => rw [setCell_some hy, setCell_none]; rw [box?_setBox, if_neg (fun q => hb ⟨q.1, q.2.1⟩)]; exact hx
    | some c =>
      rw [setCell_some hx, setCell_setBox _ _ _ (fun q => hb ⟨q.1.symm, q.2.symm⟩)]
      refine (setCell_some ?_).symm
      cases hy : box? m d' s' with
      | none => rw [setCell_none hy]; exact hx
      | some c' => rw [setCell_some hy, box?_setBox, if_neg (fun q => hb ⟨q.1, q.2.1⟩)]; exact hx

theorem W.comm (σ : St) {x y : W} (h : x.clash y = false) : y.apply (x.apply σ) = x.apply (y.apply σ) := by
  cases x <;> cases y <;> simp only [W.clash, W.apply, beq_eq_false_iff_ne, ne_eq] at h ⊢
  · rw [setN_comm _ _ _ h]
  · rename_i d s o v d' s' o' v'
    rw [setCell_comm _ _ _ (by intro q; simp [q] at h)]
  · rename_i d s o v d' s' c
    rw [setCell_setBox _ _ _ (by intro q; simp [q] at h)]
  · rename_i d s c d' s' o v
    rw [setCell_setBox _ _ _ (by intro q; simp [q] at h)]
  · rename_i d s c d' s' c'
    rw [setBox_comm _ _ _ (by intro q; simp [q] at h)]
theorem applyW_comm1 (x : W) : ∀ (ws : List W) (σ : St), (∀ y ∈ ws, x.clash y = false) → applyW (x.apply σ) ws = x.apply (applyW σ ws)
  | [], _, _ => rfl
  | y :: ws, σ, h => by
    simp only [applyW]
    rw [W.comm σ (h y (by simp)), applyW_comm1 x ws _ fun z hz => h z (by simp [hz])]
theorem applyW_comm : ∀ (ws vs : List W) (σ : St), (∀ x ∈ ws, ∀ y ∈ vs, x.clash y = false) → applyW (applyW σ ws) vs = applyW (applyW σ vs) ws
  | [], _, _, _ => rfl
  | x :: ws, vs, σ, h => by
    simp only [applyW]
    rw [applyW_comm ws vs _ fun z hz => h z (by simp [hz]), applyW_comm1 x vs σ (h x (by simp))]

/-! what a write leaves as it was -/
theorem W.shape (σ : St) (x : W) : Shape σ (x.apply σ) := by
  have hbox : ∀ (m : MemT) (d s : Nat) (c : List AV), (setBox m d s c).length = m.length ∧ ∀ e, (nthD [] (setBox m d s c) e).length = (nthD [] m e).length := fun m d s c => by
    refine ⟨by simp [setBox, length_setN], fun e => ?_⟩
    unfold setBox
    rw [nthD_setN]
    by_cases h : e = d ∧ d < m.length
    · rw [if_pos h, length_setN, h.1]
    · rw [if_neg h]
  cases x with
  | tmp i v => exact ⟨by simp [W.apply, length_setN], rfl, fun _ => rfl⟩
  | cell d s o v =>
    simp only [W.apply, setCell]
    split
    · exact ⟨rfl, (hbox _ _ _ _).1, (hbox _ _ _ _).2⟩
    · exact ⟨rfl, rfl, fun _ => rfl⟩
  | box d s c => exact ⟨rfl, (hbox _ _ _ _).1, (hbox _ _ _ _).2⟩
theorem Shape.refl (σ : St) : Shape σ σ := ⟨rfl, rfl, fun _ => rfl⟩
theorem Shape.trans {a b c : St} (h : Shape a b) (k : Shape b c) : Shape a c := ⟨k.1.trans h.1, k.2.1.trans h.2.1, fun d => (k.2.2 d).trans (h.2.2 d)⟩
theorem Shape.symm {a b : St} (h : Shape a b) : Shape b a := ⟨h.1.symm, h.2.1.symm, fun d => (h.2.2 d).symm⟩
theorem applyW_shape : ∀ (ws : List W) (σ : St), Shape σ (applyW σ ws)
  | [], σ => Shape.refl σ
  | x :: ws, σ => (x.shape σ).trans (applyW_shape ws _)
theorem Loc.same.refl (σ : St) (l : Loc) : Loc.same σ σ l := by cases l <;> simp [Loc.same]
theorem Loc.same.trans {a b c : St} {l : Loc} (h : Loc.same a b l) (k : Loc.same b c l) : Loc.same a c l := by
  cases l with
  | tmp i => exact Eq.trans k h
  | glob g => exact Eq.trans k h
  | cell d s o => exact ⟨k.1.trans h.1, k.2.trans h.2⟩
  | box d s => exact Eq.trans k h
theorem Loc.same.symm {a b : St} {l : Loc} (h : Loc.same a b l) : Loc.same b a l := by
  cases l with
  | tmp i => exact Eq.symm h
  | glob g => exact Eq.symm h
  | cell d s o => exact ⟨h.1.symm, h.2.symm⟩
  | box d s => exact Eq.symm h
theorem box?_setCell (m : MemT) (d s o : Nat) (v : AV) (d' s' : Nat) : box? (setCell m d s o v) d' s' = if d' = d ∧ s' = s then (box? m d s).map (fun c => setN c o v) else box? m d' s' := by
  cases hx : box? m d s with
  | none =>
    rw [setCell_none hx]
    by_cases h : d' = d ∧ s' = s
    · rw [if_pos h, h.1, h.2, hx]; rfl
    · rw [if_neg h]
  | some c =>
    have hlt := box?_lt hx
    rw [setCell_some hx, box?_setBox]
    by_cases h : d' = d ∧ s' = s
    · rw [if_pos ⟨h.1, h.2, hlt.1, hlt.2⟩, if_pos h]; rfl
    · rw [if_neg (fun q => h ⟨q.1, q.2.1⟩), if_neg h]
theorem W.miss (σ : St) {x : W} {l : Loc} (h : l.hit x = false) : Loc.same σ (x.apply σ) l := by
  cases x with
  | tmp i v => cases l with
    | tmp j => simp only [Loc.hit, beq_eq_false_iff_ne, ne_eq] at h; simp only [Loc.same, W.apply]; rw [nthD_setN, if_neg (fun q => h q.1)]
    | cell _ _ _ => simp [Loc.same, W.apply, St.has]
    | box _ _ => simp [Loc.same, W.apply]
    | glob _ => simp [Loc.same, W.apply]
  | cell d s o v => cases l with
    | tmp j => simp [Loc.same, W.apply]
    | glob _ => simp [Loc.same, W.apply]
    | cell d' s' o' =>
      simp only [Loc.hit] at h
      simp only [Loc.same, W.apply, St.has, cellOf]
      rw [box?_setCell]
      by_cases e : d' = d ∧ s' = s
      · obtain ⟨rfl, rfl⟩ := e
        have ho : o' ≠ o := fun q => by simp [q] at h
        rw [if_pos ⟨rfl, rfl⟩]
        cases box? σ.mem d' s' with
        | none => exact ⟨rfl, rfl⟩
        | some c => simp [length_setN, nthD_setN, ho]
      · rw [if_neg e]; exact ⟨rfl, rfl⟩
    | box d' s' =>
      simp only [Loc.same, W.apply]
      rw [box?_setCell]
      by_cases e : d' = d ∧ s' = s
      · rw [if_pos e, e.1, e.2]; cases box? σ.mem d s <;> rfl
      · rw [if_neg e]
  | box d s c => cases l with
    | tmp j => simp [Loc.same, W.apply]
    | glob _ => simp [Loc.same, W.apply]
    | cell d' s' o' =>
      simp only [Loc.hit] at h
      have e : box? (setBox σ.mem d s c) d' s' = box? σ.mem d' s' := by rw [box?_setBox, if_neg (fun q => by simp [q.1, q.2.1] at h)]
      simp only [Loc.same, W.apply, St.has, cellOf, e, and_self]
    | box d' s' =>
      simp only [Loc.hit] at h
      have e : box? (setBox σ.mem d s c) d' s' = box? σ.mem d' s' := by rw [box?_setBox, if_neg (fun q => by simp [q.1, q.2.1] at h)]
      simp only [Loc.same, W.apply, e]
/-- the same write keeps the same the same -/
theorem W.both {σ σ' : St} (hs : Shape σ σ') {l : Loc} (h : Loc.same σ σ' l) (x : W) : Loc.same (x.apply σ) (x.apply σ') l := by
  cases hh : l.hit x with
  | false => exact ((W.miss σ hh).symm.trans h).trans (W.miss σ' hh)
  | true =>
    cases x with
    | tmp i v => cases l with
      | tmp j => simp only [Loc.hit, beq_iff_eq] at hh; subst hh; simp only [Loc.same, W.apply, nthD_setN, hs.1]; split <;> first | rfl | exact h
      | cell _ _ _ => simp [Loc.hit] at hh
      | box _ _ => simp [Loc.hit] at hh
      | glob _ => simp [Loc.hit] at hh
    | cell d s o v => cases l with
      | tmp j => simp [Loc.hit] at hh
      | glob _ => simp [Loc.hit] at hh
      | box _ _ => simp [Loc.hit] at hh
      | cell d' s' o' =>
        simp only [Loc.hit, Bool.and_eq_true, beq_iff_eq] at hh
        obtain ⟨⟨rfl, rfl⟩, rfl⟩ := hh
        simp only [Loc.same, W.apply, St.has, cellOf] at h ⊢
        rw [box?_setCell, box?_setCell, if_pos ⟨rfl, rfl⟩, if_pos ⟨rfl, rfl⟩]
        obtain ⟨h1, _⟩ := h
        cases hx : box? σ.mem d' s' with
        | none => cases hy : box? σ'.mem d' s' with
          | none => exact ⟨rfl, rfl⟩
          | some c =>
            rw [hx, hy] at h1
            simp only [decide_eq_false_iff_not, Nat.not_lt] at h1
            have e : ¬ o' < c.length := by omega
            simp only [Option.map_some, Option.map_none, length_setN, nthD_setN, e, decide_false, and_false, if_false, true_and]
            rw [nthD_get, List.getElem?_eq_none h1]; rfl
        | some c => cases hy : box? σ'.mem d' s' with
          | none =>
            rw [hx, hy] at h1
            have h1 : ¬ o' < c.length := by simpa using h1.symm
            simp only [Option.map_some, Option.map_none, length_setN, nthD_setN, h1, decide_false, and_false, if_false, true_and]
            rw [nthD_get, List.getElem?_eq_none (by omega)]; rfl
          | some c' =>
            rw [hx, hy] at h1
            have h1 : (o' < c'.length) = (o' < c.length) := by simpa using h1
            simp only [Option.map_some, length_setN, nthD_setN, h1, true_and]
            by_cases e : o' < c.length
            · simp [e]
            · simp only [e, if_false]
              have e' : ¬ o' < c'.length := by rw [h1]; exact e
              rw [nthD_get, nthD_get, List.getElem?_eq_none (by omega), List.getElem?_eq_none (by omega)]
    | box d s c => cases l with
      | tmp j => simp [Loc.hit] at hh
      | glob _ => simp [Loc.hit] at hh
      | cell d' s' o' =>
        simp only [Loc.hit, Bool.and_eq_true, beq_iff_eq] at hh
        obtain ⟨rfl, rfl⟩ := hh
        simp only [Loc.same, W.apply, St.has, cellOf] at h ⊢
        rw [box?_setBox, box?_setBox]
        simp only [hs.2.1, hs.2.2 d', true_and]
        by_cases e : d' < σ.mem.length ∧ s' < (nthD [] σ.mem d').length
        · rw [if_pos e, if_pos e]; exact ⟨rfl, rfl⟩
        · rw [if_neg e, if_neg e]; exact h
      | box d' s' =>
        simp only [Loc.hit, Bool.and_eq_true, beq_iff_eq] at hh
        obtain ⟨rfl, rfl⟩ := hh
        simp only [Loc.same, W.apply] at h ⊢
        rw [box?_setBox, box?_setBox]
        simp only [hs.2.1, hs.2.2 d', true_and]
        split
        · rfl
        · exact h
theorem applyW_both : ∀ (ws : List W) {σ σ' : St}, Shape σ σ' → ∀ {l : Loc}, Loc.same σ σ' l → Loc.same (applyW σ ws) (applyW σ' ws) l ∧ Shape (applyW σ ws) (applyW σ' ws)
  | [], _, _, hs, _, h => ⟨h, hs⟩
  | x :: ws, σ, σ', hs, l, h => by
    simp only [applyW]
    exact applyW_both ws (((x.shape σ).symm.trans hs).trans (x.shape σ')) (W.both hs h x)
theorem applyW_miss : ∀ (ws : List W) (σ : St) {l : Loc}, (∀ x ∈ ws, l.hit x = false) → Loc.same σ (applyW σ ws) l
  | [], σ, l, _ => Loc.same.refl σ l
  | x :: ws, σ, l, h => by
    simp only [applyW]
    exact (W.miss σ (h x (by simp))).trans (applyW_miss ws _ fun y hy => h y (by simp [hy]))
end Go.Am
