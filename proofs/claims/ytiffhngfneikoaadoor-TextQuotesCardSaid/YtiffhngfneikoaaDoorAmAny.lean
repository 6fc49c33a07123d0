/- A region of the abstract machine is sound in every order that can be drawn. Conditions: none. -/
import Derived.Test.YtiffhngfneikoaaDoorAmDraw
namespace Go.Am
open Go.RowKit
variable {P : Program} {B : Nat} {W0 : Base} {d : Nat} {σ : St} {a : Act} {w : World} {G : Gh} {β : Type} {call : FuncId → List CV → Option CV}
  {inl : FuncId → List AV → MemT → (AV → MemT → Option β) → Option β} {acc : List Loc} {r : β} {o : Oper} {ops : Array Oper}

/-- the state behind those operations of a stretch that are listed -/
def part (L : Nat → Bool) : St → Nat → List Did → St
  | σ, _, [] => σ
  | σ, i, D :: E => part L (if L i then applyW σ D.writes else σ) (i + 1) E
theorem part_shape (L : Nat → Bool) : ∀ (E : List Did) (σ : St) (i : Nat), Shape σ (part L σ i E)
  | [], σ, _ => Shape.refl σ
  | D :: E, σ, i => by
    simp only [part]
    refine Shape.trans ?_ (part_shape L E _ _)
    split
    · exact applyW_shape _ _
    · exact Shape.refl σ
theorem part_congr {L L' : Nat → Bool} : ∀ (E : List Did) (σ : St) (i : Nat), (∀ q, q < E.length → L (i + q) = L' (i + q)) → part L σ i E = part L' σ i E
  | [], _, _, _ => rfl
  | D :: E, σ, i, h => by
    simp only [part]
    have h0 := h 0 (by simp)
    simp only [Nat.add_zero] at h0
    rw [h0]
    exact part_congr E _ _ fun q hq => by
      have := h (q + 1) (by simpa using hq)
      rw [show i + 1 + q = i + (q + 1) by omega]; exact this
theorem part_none {L : Nat → Bool} : ∀ (E : List Did) (σ : St) (i : Nat), (∀ q, q < E.length → L (i + q) = false) → part L σ i E = σ
  | [], _, _, _ => rfl
  | D :: E, σ, i, h => by
    simp only [part]
    have h0 := h 0 (by simp)
    simp only [Nat.add_zero] at h0
    rw [h0]
    exact part_none E _ _ fun q hq => by
      have := h (q + 1) (by simpa using hq)
      rw [show i + 1 + q = i + (q + 1) by omega]; exact this
theorem part_miss {L : Nat → Bool} {l : Loc} : ∀ (E : List Did) (σ : St) (i : Nat), (∀ q D, E[q]? = some D → L (i + q) = true → ∀ v ∈ D.writes, l.hit v = false) → Loc.same σ (part L σ i E) l
  | [], σ, _, _ => Loc.same.refl σ l
  | D :: E, σ, i, h => by
    simp only [part]
    have ht : ∀ σ, Loc.same σ (part L σ (i + 1) E) l := fun σ => part_miss E σ (i + 1) fun q D' hq hl => h (q + 1) D' (by simpa using hq) (by rw [show i + (q + 1) = i + 1 + q by omega]; exact hl)
    by_cases hl : L i = true
    · rw [if_pos hl]
      exact (applyW_miss D.writes σ (h 0 D (by simp) (by simpa using hl))).trans (ht _)
    · rw [if_neg hl]; exact ht σ
theorem part_read {L : Nat → Bool} {l : Loc} : ∀ (E : List Did) (p i : Nat) (σ σ' : St), Shape σ σ' → Loc.same σ σ' l → L (i + p) = false →
    (∀ q D, E[q]? = some D → (q < p ∧ L (i + q) = false) ∨ (p < q ∧ L (i + q) = true) → ∀ v ∈ D.writes, l.hit v = false) → Loc.same (part (fun _ => true) σ i (E.take p)) (part L σ' i E) l
  | [], p, i, σ, σ', _, h, _, _ => by simpa [part] using h
  | D :: E, 0, i, σ, σ', _, h, hp, hh => by
    simp only [List.take_zero, part]
    rw [Nat.add_zero] at hp
    rw [if_neg (by rw [hp]; simp)]
    exact h.trans (part_miss E σ' (i + 1) fun q D' hq hl => hh (q + 1) D' (by simpa using hq) (.inr ⟨by omega, by rw [show i + (q + 1) = i + 1 + q by omega]; exact hl⟩))
  | D :: E, p + 1, i, σ, σ', hs, h, hp, hh => by
    simp only [List.take_succ_cons, part, if_true]
    have hp' : L (i + 1 + p) = false := by rw [show i + 1 + p = i + (p + 1) by omega]; exact hp
    have hh' : ∀ q D, E[q]? = some D → (q < p ∧ L (i + 1 + q) = false) ∨ (p < q ∧ L (i + 1 + q) = true) → ∀ v ∈ D.writes, l.hit v = false := fun q D' hq hor => by
      refine hh (q + 1) D' (by simpa using hq) ?_
      rw [show i + (q + 1) = i + 1 + q by omega]
      rcases hor with ⟨h1, h2⟩ | ⟨h1, h2⟩
      · exact .inl ⟨by omega, h2⟩
      · exact .inr ⟨by omega, h2⟩
    by_cases hl : L i = true
    · rw [if_pos hl]
      obtain ⟨h1, h2⟩ := applyW_both D.writes hs h
      exact part_read E p (i + 1) _ _ h2 h1 hp' hh'
    · rw [if_neg hl]
      refine part_read E p (i + 1) _ _ ((applyW_shape D.writes σ).symm.trans hs) ?_ hp' hh'
      exact (applyW_miss D.writes σ (hh 0 D (by simp) (.inl ⟨by omega, by simpa using hl⟩))).symm.trans h
theorem part_comm {L : Nat → Bool} {ws : List W} : ∀ (E : List Did) (σ : St) (i : Nat), (∀ q D, E[q]? = some D → L (i + q) = true → ∀ u ∈ ws, ∀ v ∈ D.writes, u.clash v = false) → part L (applyW σ ws) i E = applyW (part L σ i E) ws
  | [], _, _, _ => rfl
  | D :: E, σ, i, h => by
    simp only [part]
    have ht : ∀ σ, part L (applyW σ ws) (i + 1) E = applyW (part L σ (i + 1) E) ws := fun σ => part_comm E σ (i + 1) fun q D' hq hl => h (q + 1) D' (by simpa using hq) (by rw [show i + (q + 1) = i + 1 + q by omega]; exact hl)
    by_cases hl : L i = true
    · rw [if_pos hl, if_pos hl, applyW_comm ws D.writes σ (h 0 D (by simp) (by simpa using hl))]
      exact ht _
    · rw [if_neg hl, if_neg hl]; exact ht σ
theorem part_add {L L' : Nat → Bool} {D : Did} : ∀ (E : List Did) (p i : Nat) (σ : St), E[p]? = some D → L (i + p) = false → (∀ j, L' j = if j = i + p then true else L j) →
    (∀ q D', E[q]? = some D' → p < q → L (i + q) = true → ∀ u ∈ D.writes, ∀ v ∈ D'.writes, u.clash v = false) → part L' σ i E = applyW (part L σ i E) D.writes
  | [], p, i, σ, h, _, _, _ => by simp at h
  | D0 :: E, 0, i, σ, h, hp, hL, hc => by
    simp only [List.getElem?_cons_zero, Option.some.injEq] at h
    subst h
    simp only [part]
    rw [Nat.add_zero] at hp
    rw [if_neg (show ¬ L i = true by rw [hp]; simp), if_pos (by rw [hL i]; simp)]
    rw [part_congr (L := L') (L' := L) E _ (i + 1) fun q _ => by rw [hL]; rw [if_neg (by omega)]]
    exact part_comm E σ (i + 1) fun q D' hq hl => hc (q + 1) D' (by simpa using hq) (by omega) (by rw [show i + (q + 1) = i + 1 + q by omega]; exact hl)
  | D0 :: E, p + 1, i, σ, h, hp, hL, hc => by
    simp only [part]
    have e : L' i = L i := by rw [hL, if_neg (by omega)]
    rw [e]
    refine part_add E p (i + 1) _ (by simpa using h) (by rw [show i + 1 + p = i + (p + 1) by omega]; exact hp) (fun j => by rw [hL, show i + 1 + p = i + (p + 1) by omega]) fun q D' hq hpq hl => ?_
    exact hc (q + 1) D' (by simpa using hq) (by omega) (by rw [show i + (q + 1) = i + 1 + q by omega]; exact hl)

theorem Steps.get : ∀ {E : List Did} {σ σ' : St} {i : Nat}, Steps P B W0 d ops σ i E σ' → σ' = part (fun _ => true) σ i E ∧
    ∀ p D, E[p]? = some D → ∃ o, ops[i + p]? = some o ∧ Moves P B W0 d ops o (part (fun _ => true) σ i (E.take p)) D
  | [], σ, σ', i, h => ⟨h, fun p D hp => by simp at hp⟩
  | D0 :: E, σ, σ', i, h => by
    obtain ⟨⟨o, ho, hm⟩, h⟩ := h
    obtain ⟨h1, h2⟩ := Steps.get h
    refine ⟨by simpa [part] using h1, fun p D hp => ?_⟩
    cases p with
    | zero => simp at hp; subst hp; exact ⟨o, by simpa using ho, by simpa [part] using hm⟩
    | succ p =>
      obtain ⟨o', q1, q2⟩ := h2 p D (by simpa using hp)
      exact ⟨o', by rw [show i + (p + 1) = i + 1 + p by omega]; exact q1, by simpa [part] using q2⟩

/-! how many are left -/
def unl (f : Nat → Bool) : Nat → Nat
  | 0 => 0
  | n + 1 => (if f n then 0 else 1) + unl f n
theorem unl_zero {f : Nat → Bool} : ∀ {n : Nat}, unl f n = 0 → ∀ j, j < n → f j = true
  | 0, _, j, h => by omega
  | n + 1, h, j, hj => by
    simp only [unl] at h
    by_cases e : j = n
    · subst e
      cases hf : f j with
      | true => rfl
      | false => rw [hf] at h; simp at h
    · exact unl_zero (n := n) (by omega) j (by omega)
theorem unl_same {f f' : Nat → Bool} : ∀ {n : Nat}, (∀ j, j < n → f' j = f j) → unl f' n = unl f n
  | 0, _ => rfl
  | n + 1, h => by simp only [unl]; rw [h n (by omega), unl_same fun j hj => h j (by omega)]
theorem unl_less {f f' : Nat → Bool} {i : Nat} (hi : f i = false) (h : ∀ j, f' j = if j = i then true else f j) : ∀ {n : Nat}, i < n → unl f' n + 1 = unl f n
  | 0, hn => by omega
  | n + 1, hn => by
    simp only [unl]
    by_cases e : i = n
    · subst e
      rw [h i, if_pos rfl, hi, unl_same (f := f) (f' := f') fun j hj => by rw [h, if_neg (by omega)]]
      simp; omega
    · have e1 : f' n = f n := by rw [h n, if_neg (Ne.symm e)]
      have := unl_less hi h (n := n) (by omega)
      rw [e1]
      omega

theorem edgesDown_spec : ∀ (l : List Oper) (i : Nat), edgesDown i l = true → ∀ j o, l[j]? = some o → ∀ e ∈ o.after, Region.binds .any e = true → e.on < i + j
  | [], _, _, j, o, h, _, _, _ => by simp at h
  | x :: l, i, h, 0, o, ho, e, he, hb => by
    simp only [edgesDown, Bool.and_eq_true, List.all_eq_true, Bool.or_eq_true, decide_eq_true_eq] at h
    simp at ho; subst ho
    rcases h.1 e (by simpa using he) with q | q
    · exact q
    · rw [hb] at q; cases q
  | x :: l, i, h, j + 1, o, ho, e, he, hb => by
    simp only [edgesDown, Bool.and_eq_true] at h
    have := edgesDown_spec l (i + 1) h.2 j o (by simpa using ho) e he hb
    omega
theorem ready_spec {L : Array Bool} (hs : L.size = ops.size) {j : Nat} : j ∈ Region.ready .any ops L ↔ j < ops.size ∧ L.getD j false = false ∧ ∀ o, ops[j]? = some o → ∀ e ∈ o.after, Region.binds .any e = true → L.getD e.on false = true := by
  rw [mem_ready]
  constructor
  · rintro ⟨h0, o, ho, h⟩
    have hlt : j < ops.size := (Array.getElem?_eq_some_iff.1 ho).1
    refine ⟨hlt, ?_, fun o' ho' => ?_⟩
    · have : j < L.size := by omega
      simp [this] at h0 ⊢; exact h0
    · rw [ho] at ho'; cases ho'; exact h
  · rintro ⟨hlt, h0, h⟩
    have : j < L.size := by omega
    refine ⟨by simp [this] at h0 ⊢; exact h0, ops[j], by simp [hlt], h _ (by simp [hlt])⟩
theorem ready_or {L : Array Bool} (hs : L.size = ops.size) (he : edgesDown 0 ops.toList = true) : ∀ m, m ≤ ops.size → (∀ j, j < m → L.getD j false = true) ∨ ∃ i, i ∈ Region.ready .any ops L
  | 0, _ => .inl fun j hj => by omega
  | m + 1, hm => by
    rcases ready_or hs he m (by omega) with h | h
    · cases hL : L.getD m false with
      | true => refine .inl fun j hj => ?_
                by_cases e : j = m
                · rw [e]; exact hL
                · exact h j (by omega)
      | false =>
        refine .inr ⟨m, (ready_spec hs).2 ⟨by omega, hL, fun o ho e hee hbb => ?_⟩⟩
        have := edgesDown_spec ops.toList 0 he m o (by simpa using ho) e hee hbb
        exact h e.on (by omega)
    · exact .inr h
theorem barrier_spec {m n : Nat} (h : barrier (Region.before ops).toList m n = true) : (∀ j, j < m → bitOf ops m j = true) ∧ ∀ i, m < i → i < n → bitOf ops i m = true := by
  simp only [barrier, Bool.and_eq_true, List.all_eq_true, List.mem_range] at h
  refine ⟨fun j hj => h.1 j hj, fun i h1 h2 => ?_⟩
  have := h.2 (i - m - 1) (by omega)
  rw [show m + 1 + (i - m - 1) = i by omega] at this
  exact this

theorem getD_set {L : Array Bool} {i : Nat} (hi : i < L.size) (j : Nat) : (L.setIfInBounds i true).getD j false = if j = i then true else L.getD j false := by
  by_cases e : j = i
  · subst e; simp [hi]
  · rw [if_neg e]; exact getD_set_ne false (Ne.symm e)

theorem draw_any (SE : StructEqOk P) (CO : CallOK P B W0 call) (Iok : InlOK P B W0 inl) {k : St → Option β} {Q : Exit → Act → World → Prop} (he : edgesDown 0 ops.toList = true) :
    ∀ (fuel s : Nat) (E : List Did) (σ σ' : St) (L : Array Bool) (a : Act) (w : World) (G : Gh), L.size = ops.size → Steps P B W0 d ops σ s E σ' →
      agree (Region.before ops).toList (s + E.length) E.reverse = true →
      ((s + E.length = ops.size ∧ k σ' = some r) ∨
       (s + E.length < ops.size ∧ barrier (Region.before ops).toList (s + E.length) ops.size = true ∧
         ∃ o, ops[s + E.length]? = some o ∧ Turns P B W0 d ops (fun σ'' => drawK P call inl d ops (s + E.length + 1) [] k σ'' = some r) σ' o)) →
      (∀ j, j < s → L.getD j false = true) → (∀ j, s + E.length ≤ j → L.getD j false = false) → Closed ops L → unl (fun j => L.getD j false) ops.size ≤ fuel →
      Sim P B W0 d (part (fun j => L.getD j false) σ s E) a w G →
      (∀ a' w' G' σ', Sim P B W0 d σ' a' w' G' → Keeps B d w w' G G' → k σ' = some r → Q .normal a' w') →
      wpAny P .any ops Q fuel L a w := by
  intro fuel
  induction fuel with
  | zero =>
    intro s E σ σ' L a w G hsz hst hag htl hlo hhi hcl hun S hQ
    have hall := unl_zero (Nat.le_zero.1 hun)
    refine ⟨List.eq_nil_iff_forall_not_mem.2 fun i hi => ?_, ?_⟩
    · have h1 := (ready_spec hsz).1 hi
      have := hall i h1.1
      rw [h1.2.1] at this; cases this
    · obtain ⟨h1, _⟩ := hst.get
      rcases htl with ⟨hn, hk⟩ | ⟨hn, _⟩
      · rw [part_congr (L' := fun _ => true) E σ s fun q hq => hall _ (by omega), ← h1] at S
        exact hQ _ _ G _ S (Keeps.refl _ _ _ _) hk
      · have := hall _ hn
        rw [hhi _ (Nat.le_refl _)] at this; cases this
  | succ fuel ih =>
    intro s E σ σ' L a w G hsz hst hag htl hlo hhi hcl hun S hQ
    obtain ⟨h1, h2⟩ := hst.get
    refine ⟨fun hnil => ?_, fun i hi => ?_⟩
    · have hall : ∀ j, j < ops.size → L.getD j false = true := by
        rcases ready_or hsz he ops.size (Nat.le_refl _) with h | ⟨i, hi⟩
        · exact h
        · rw [hnil] at hi; cases hi
      rcases htl with ⟨hn, hk⟩ | ⟨hn, _⟩
      · rw [part_congr (L' := fun _ => true) E σ s fun q hq => hall _ (by omega), ← h1] at S
        exact hQ _ _ G _ S (Keeps.refl _ _ _ _) hk
      · have := hall _ hn
        rw [hhi _ (Nat.le_refl _)] at this; cases this
    · obtain ⟨hin, hil, hie⟩ := (ready_spec hsz).1 hi
      have hisz : i < L.size := by omega
      have hset := fun j => getD_set hisz j
      have hcl' : Closed ops (L.setIfInBounds i true) := by
        intro j o hj ho e hee hb
        rw [hset] at hj ⊢
        by_cases e2 : e.on = i
        · rw [if_pos e2]
        · rw [if_neg e2]
          by_cases e1 : j = i
          · subst e1; exact hie o ho e hee hb
          · rw [if_neg e1] at hj; exact hcl j o hj ho e hee hb
      have hun' : unl (fun j => (L.setIfInBounds i true).getD j false) ops.size ≤ fuel := by
        have := unl_less (f := fun j => L.getD j false) (f' := fun j => (L.setIfInBounds i true).getD j false) hil hset hin
        omega
      have hsz' : (L.setIfInBounds i true).size = ops.size := by simpa using hsz
      by_cases him : i < s + E.length
      · -- an operation of the stretch
        have his : s ≤ i := Decidable.byContradiction fun hn => by rw [hlo i (by omega)] at hil; cases hil
        obtain ⟨p, rfl⟩ : ∃ p, i = s + p := ⟨i - s, by omega⟩
        have hp : p < E.length := by omega
        obtain ⟨D, hD⟩ : ∃ D, E[p]? = some D := ⟨E[p], by simp [hp]⟩
        obtain ⟨o, ho, hm⟩ := h2 p D hD
        have hagree := fun p q x y hpq hy hx => agree_spec hag (by simp) p q x y hpq (by rw [List.reverse_reverse]; exact hy) (by rw [List.reverse_reverse]; exact hx)
        rw [List.length_reverse, Nat.add_sub_cancel] at hagree
        have before_p : ∀ q D', E[q]? = some D' → q < p → L.getD (s + q) false = false → D.conflict D' = false := fun q D' hq hqp hL => by
          rcases hagree q p D D' hqp hq hD with h | h
          · have := closed_bit hcl (s + p) (s + q) hie h
            rw [hL] at this; cases this
          · exact h
        have after_p : ∀ q D', E[q]? = some D' → p < q → L.getD (s + q) false = true → D'.conflict D = false := fun q D' hq hqp hL => by
          rcases hagree p q D' D hqp hD hq with h | h
          · have := closed_bit hcl (s + q) (s + p) (fun o ho => hcl _ o hL ho) h
            rw [hil] at this; cases this
          · exact h
        unfold wpOp
        rw [ho]
        refine hm (part (fun j => L.getD j false) σ s E) ((part_shape _ _ _ _).symm.trans (part_shape _ _ _ _)) (fun l hl => ?_) a w G S _ Q fun a' w' G' S' K' => ?_
        · refine part_read E p s σ σ (Shape.refl σ) (Loc.same.refl σ l) hil fun q D' hq hor v hv => ?_
          rcases hor with ⟨q1, q2⟩ | ⟨q1, q2⟩
          · exact (conflict_no (before_p q D' hq q1 q2)).2.1 v hv l hl
          · exact (conflict_no (after_p q D' hq q1 q2)).1 v hv l hl
        · refine ih s E σ σ' _ a' w' G' hsz' hst hag htl (fun j hj => ?_) (fun j hj => ?_) hcl' hun' ?_ fun a'' w'' G'' σ'' S'' K'' => hQ _ _ _ _ S'' (K'.trans K'')
          · rw [hset]; split
            · rfl
            · exact hlo j hj
          · rw [hset, if_neg (by omega)]; exact hhi j hj
          · rw [part_add (L := fun j => L.getD j false) E p s σ hD hil hset fun q D' hq hpq hL u hu v hv => (conflict_no (after_p q D' hq hpq hL)).2.2 v hv u hu]
            exact S'
      · -- the call in place behind the stretch
        rcases htl with ⟨hn, hk⟩ | ⟨hn, hbar, o, ho, ht⟩
        · omega
        · obtain ⟨b1, b2⟩ := barrier_spec hbar
          have hi_eq : i = s + E.length := Decidable.byContradiction fun hne => by
            have := closed_bit hcl i (s + E.length) hie (b2 i (by omega) hin)
            rw [hhi _ (Nat.le_refl _)] at this; cases this
          subst hi_eq
          have hall : ∀ j, j < s + E.length → L.getD j false = true := fun j hj => closed_bit hcl _ j hie (b1 j hj)
          rw [part_congr (L' := fun _ => true) E σ s fun q hq => hall _ (by omega), ← h1] at S
          unfold wpOp
          rw [ho]
          refine ht a w G S _ Q fun a' w' G' σ'' S' K' hk => ?_
          obtain ⟨E', τ, hst', htl'⟩ := draw_segment SE CO Iok _ (s + E.length + 1) (by omega) rfl [] σ'' hk
          rw [List.append_nil] at htl'
          have hpart : part (fun j => (L.setIfInBounds (s + E.length) true).getD j false) σ'' (s + E.length + 1) E' = σ'' :=
            part_none E' σ'' _ fun q _ => by rw [hset, if_neg (by omega)]; exact hhi _ (by omega)
          refine ih (s + E.length + 1) E' σ'' τ _ a' w' G' hsz' hst' ?_ ?_ (fun j hj => ?_) (fun j hj => ?_) hcl' hun' (by rw [hpart]; exact S') fun a'' w'' G'' σ3 S'' K'' => hQ _ _ _ _ S'' (K'.trans K'')
          · rcases htl' with ⟨q1, q2, _⟩ | ⟨_, q2, _⟩
            · rw [q1]; exact q2
            · exact q2
          · rcases htl' with ⟨q1, _, q3⟩ | ⟨q1, _, q3, q4⟩
            · exact .inl ⟨q1, q3⟩
            · exact .inr ⟨q1, q3, q4⟩
          · rw [hset]; split
            · rfl
            · exact hall j (by omega)
          · rw [hset, if_neg (by omega)]; exact hhi j (by omega)

/-- a region whose order is drawn -/
theorem opsDrawK_sound (SE : StructEqOk P) (CO : CallOK P B W0 call) (Iok : InlOK P B W0 inl) (hmix : P.follows .mixedOrders = true) {k : St → Option β} {Q : Exit → Act → World → Prop} {id : Nat}
    (h : chkO (edgesDown 0 ops.toList) (opsDrawK P call inl d (Region.before ops).toList ops.toList ops.toList 0 [] k σ) = some r) (S : Sim P B W0 d σ a w G)
    (hQ : ∀ a' w' G' σ', Sim P B W0 d σ' a' w' G' → Keeps B d w w' G G' → k σ' = some r → Q .normal a' w') : (Code.region id ops true).wp P Q a w := by
  obtain ⟨he, h⟩ := chkO_some h
  refine wp_region_any hmix ?_
  have hb : Below B w { w with drawn := w.drawn + 1 } := ⟨rfl, rfl, rfl, Nat.le_refl _, fun _ _ => rfl⟩
  have K0 : Keeps B d w { w with drawn := w.drawn + 1 } G G := Keeps.sameHeap rfl hb
  obtain ⟨E, σ', hst, htl⟩ := draw_segment SE CO Iok _ 0 (by omega) rfl [] σ h
  rw [List.append_nil] at htl
  have hL : ∀ j, (Array.replicate ops.size false).getD j false = false := fun j => by
    rw [Array.getD_eq_getD_getElem?, Array.getElem?_replicate]; split <;> rfl
  refine draw_any SE CO Iok he ops.size 0 E σ σ' _ a _ G (by simp) hst ?_ ?_ (fun j hj => by omega) (fun j _ => hL j) (fun j o hj => by rw [hL] at hj; cases hj) ?_ ?_ fun a' w' G' σ'' S' K' => hQ _ _ _ _ S' (K0.trans K')
  · rcases htl with ⟨q1, q2, _⟩ | ⟨_, q2, _⟩
    · rw [q1]; exact q2
    · exact q2
  · rcases htl with ⟨q1, _, q3⟩ | ⟨q1, _, q3, q4⟩
    · exact .inl ⟨q1, q3⟩
    · exact .inr ⟨q1, q3, q4⟩
  · have : ∀ n, unl (fun j => (Array.replicate ops.size false).getD j false) n ≤ n := fun n => by
      induction n with
      | zero => simp [unl]
      | succ n ih => simp only [unl]; split <;> omega
    exact this _
  · rw [part_none E σ 0 fun q _ => hL _]
    exact S.sameHeap rfl hb
end Go.Am
