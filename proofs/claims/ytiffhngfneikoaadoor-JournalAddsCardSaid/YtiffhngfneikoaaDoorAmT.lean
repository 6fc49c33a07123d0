/- The operations of the abstract machine on cells: struct values, loads, conversions. Conditions: none. -/
import Derived.Test.YtiffhngfneikoaaDoorAmQ
import Derived.Laws.Cells
import Derived.Laws.BytesString
namespace Go.Am
open Go.RowKit
variable {P : Program} {B : Nat} {W0 : Base} {d : Nat} {σ : St} {a : Act} {w : World} {G : Gh} {β : Type} {call : FuncId → List CV → Option CV}
  {acc : List Loc} {r : β} {o : Oper} {ops : List Oper}

/-- values that fill cells -/
structure Cells (P : Program) (w : World) (G : Gh) (pl : Nat → Place) (cs : List AV) (us : List Value) : Prop where
  len : us.length = cs.length
  rep : ∀ i, i < cs.length → ∃ u, us[i]? = some u ∧ u.oneCell' = true ∧ ARep P w G (pl i) (nthD .any cs i) u

theorem Cells.nil {pl : Nat → Place} : Cells P w G pl [] [] := ⟨rfl, fun i h => by simp at h⟩
theorem Cells.cons {pl : Nat → Place} {c : AV} {cs : List AV} {u : Value} {us : List Value} (h1 : u.oneCell' = true) (h2 : ARep P w G (pl 0) c u) (h3 : Cells P w G (fun i => pl (i + 1)) cs us) :
    Cells P w G pl (c :: cs) (u :: us) := by
  refine ⟨by simp [h3.len], fun i hi => ?_⟩
  cases i with
  | zero => exact ⟨u, by simp, h1, by simpa [nthD] using h2⟩
  | succ i =>
    obtain ⟨z, q1, q2, q3⟩ := h3.rep i (by simpa using hi)
    exact ⟨z, by simpa using q1, q2, by simpa [nthD] using q3⟩
theorem Cells.uncons {pl : Nat → Place} {c : AV} {cs : List AV} {us : List Value} (h : Cells P w G pl (c :: cs) us) :
    ∃ u r, us = u :: r ∧ u.oneCell' = true ∧ ARep P w G (pl 0) c u ∧ Cells P w G (fun i => pl (i + 1)) cs r := by
  cases us with
  | nil => have := h.len; simp at this
  | cons u r =>
    obtain ⟨z, q1, q2, q3⟩ := h.rep 0 (by simp)
    simp at q1; subst q1
    refine ⟨u, r, rfl, q2, by simpa [nthD] using q3, by have := h.len; simpa using this, fun i hi => ?_⟩
    obtain ⟨z, q1, q2, q3⟩ := h.rep (i + 1) (by simpa using hi)
    exact ⟨z, by simpa using q1, q2, by simpa [nthD] using q3⟩
theorem Cells.weaken {pl pl' : Nat → Place} {cs : List AV} {us : List Value} (h : Cells P w G pl cs us) (f : ∀ i u, i < cs.length → ARep P w G (pl i) (nthD .any cs i) u → ARep P w G (pl' i) (nthD .any cs i) u) : Cells P w G pl' cs us :=
  ⟨h.len, fun i hi => let ⟨u, q1, q2, q3⟩ := h.rep i hi; ⟨u, q1, q2, f i u hi q3⟩⟩
theorem nthD_map {α γ : Type} (f : α → γ) (x : α) (y : γ) (h : f x = y) : ∀ (l : List α) (i : Nat), nthD y (l.map f) i = f (nthD x l i)
  | [], i => by simp [nthD, h]
  | z :: l, 0 => by simp [nthD]
  | z :: l, i + 1 => by simp [nthD, nthD_map f x y h l i]
theorem Cells.copy {pl pl' : Nat → Place} {cs : List AV} {us : List Value} (h : Cells P w G pl cs us) : Cells P w G pl' (cs.map AV.copy) us :=
  ⟨by simp [h.len], fun i hi => by
    obtain ⟨u, q1, q2, q3⟩ := h.rep i (by simpa using hi)
    exact ⟨u, q1, q2, by rw [nthD_map AV.copy .any .any rfl]; exact q3.copy⟩⟩

theorem ARep.oneCell {p : Place} {v : AV} {x : Value} (hv : ARep P w G p v x) (h : v.isCell = true) : x.oneCell' = true := by
  cases v with
  | any => simp [AV.isCell] at h
  | undef => simp [AV.isCell] at h
  | agg _ => simp [AV.isCell] at h
  | tup _ => simp [AV.isCell] at h
  | val c =>
    simp only [ARep] at hv
    simp only [AV.isCell] at h
    cases c with
    | agg _ => simp [CV.isCell] at h
    | tup _ => simp [CV.isCell] at h
    | list isnil l => simp only [CRep] at hv; rcases hv with ⟨_, _, rfl⟩ | ⟨_, _, _, _, _, rfl, _⟩ <;> rfl
    | err => simp only [CRep] at hv; obtain ⟨_, _, rfl⟩ := hv; rfl
    | _ => simp only [CRep] at hv; subst hv; rfl
  | siter _ _ => simp [AV.isCell] at h
  | bld _ => simp [AV.isCell] at h
  | lst own n e l => simp only [ARep] at hv; rcases hv with ⟨_, _, rfl⟩ | ⟨_, _, _, _, rfl, _⟩ <;> rfl
  | ptr _ _ _ => simp only [ARep] at hv; obtain ⟨_, _, rfl⟩ := hv; rfl
  | cptr _ _ => simp only [ARep] at hv; obtain ⟨_, _, rfl, _⟩ := hv; rfl
  | clo _ _ => simp only [ARep] at hv; obtain ⟨_, rfl, _⟩ := hv; rfl
theorem cells_oneCell {x : Value} (h : x.oneCell' = true) : x.cells = #[x] := by
  cases x <;> simp [Value.oneCell', Value.cells] at h ⊢

theorem CRepV.cells {pl : Nat → Place} : ∀ {c : List CV} {us : List Value}, CRepV w G.hw c us → Cells P w G pl (c.map AV.val) us
  | [], us, h => by simp only [CRepV] at h; subst h; exact Cells.nil
  | x :: c, us, h => by
    simp only [CRepV] at h
    obtain ⟨v, s, rfl, h2, h3, h4⟩ := h
    exact Cells.cons h2 (by simpa only [ARep] using h3) h4.cells

theorem nths_sound {c : List CV} : ∀ {n off : Nat} {f : List AV → List Loc → Option β}, (nths c off n).exec call σ acc f = some r →
    f (((c.drop off).take n).map AV.val) acc = some r ∧ off + n ≤ max c.length off
  | 0, off, f, h => ⟨by simpa [nths, M.exec] using h, by omega⟩
  | n + 1, off, f, h => by
    simp only [nths, M.exec] at h
    obtain ⟨x, hx, h⟩ := optO_some h
    rw [M.exec_bind] at h
    obtain ⟨h1, h2⟩ := nths_sound (f := fun r acc' => f (.val x :: r) acc') h
    have hl : off < c.length := (List.getElem?_eq_some_iff.1 hx).1
    refine ⟨?_, by omega⟩
    have : (c.drop off).take (n + 1) = x :: (c.drop (off + 1)).take n := by
      have e := (List.getElem?_eq_some_iff.1 hx).2
      rw [List.drop_eq_getElem_cons hl, List.take_succ_cons, e]
    rw [this]; exact h1

theorem cellsM_sound {p : Place} {agg : Bool} {n : Nat} {v : AV} {x : Value} (hv : ARep P w G p v x) {f : List AV → List Loc → Option β} (h : (cellsM agg n v).exec call σ acc f = some r) :
    ∃ cs, f cs acc = some r ∧ cs.length = n ∧ Cells P w G (fun _ => if agg then .none else p) cs x.cells.toList ∧ (agg = false → cs = [v]) ∧ (agg = true → ∃ us : List Value, x = .agg us.toArray) := by
  unfold cellsM at h
  split at h
  · simp only [M.exec] at h
    obtain ⟨hc, h⟩ := chkO_some h
    simp only [Bool.and_eq_true, beq_iff_eq] at hc
    have h1 := hv.oneCell hc.2
    refine ⟨_, h, by simp [hc.1], ?_, fun _ => rfl, by simp⟩
    rw [cells_oneCell h1]
    exact Cells.cons h1 (by simpa using hv) Cells.nil
  · split at h
    · simp only [M.exec] at h
      obtain ⟨c, hcc, h⟩ := optO_some h
      obtain ⟨hl, h⟩ := chkO_some h
      obtain ⟨h, h2⟩ := nths_sound (f := f) h
      simp only [ARep] at hv
      rw [asA_some hcc] at hv
      simp only [CRep] at hv
      obtain ⟨us, rfl, hr⟩ := hv
      have hl : c.length = n := by simpa using hl
      have e : ((c.drop 0).take n) = c := by rw [← hl]; simp
      rw [e] at h
      refine ⟨_, h, by simp [hl], ?_, by simp, fun _ => ⟨us, rfl⟩⟩
      simpa [Value.cells] using hr.cells
    · simp only [M.exec] at h
      obtain ⟨hl, h⟩ := chkO_some h
      simp only [ARep] at hv
      obtain ⟨us, rfl, hr, h1⟩ := hv
      refine ⟨_, h, by simpa using hl, ?_, by simp, fun _ => ⟨us, rfl⟩⟩
      have : ∀ {cs : List AV} {us : List Value}, ARepL P w G cs us → us.all Value.oneCell' = true → Cells P w G (fun _ => .none) cs us := by
        intro cs
        induction cs with
        | nil => intro us h _; simp only [ARepL] at h; subst h; exact Cells.nil
        | cons c cs ih =>
          intro us h h1
          simp only [ARepL] at h
          obtain ⟨v, s, rfl, h3, h4⟩ := h
          simp only [List.all_cons, Bool.and_eq_true] at h1
          exact Cells.cons h1.1 h3 (ih h4 h1.2)
      simpa [Value.cells] using this hr h1
    · simp [M.exec] at h

theorem allCV_sound : ∀ {cs : List AV} {us : List Value} {vs : List CV} {pl : Nat → Place}, Cells P w G pl cs us → allCV cs = some vs → CRepV w G.hw vs us ∧ CRepT w G.hw vs us ∧ vs.length = cs.length
  | [], us, vs, pl, h, e => by
    simp [allCV] at e; subst e
    have := h.len
    have : us = [] := List.eq_nil_of_length_eq_zero (by simpa using this)
    subst this
    simp [CRepV, CRepT]
  | c :: cs, us, vs, pl, h, e => by
    obtain ⟨u, r', rfl, h1, h2, h3⟩ := h.uncons
    cases c with
    | val v =>
      simp only [allCV, Option.map_eq_some_iff] at e
      obtain ⟨ws, e, rfl⟩ := e
      obtain ⟨q1, q2, q3⟩ := allCV_sound h3 e
      simp only [ARep] at h2
      exact ⟨by simp only [CRepV]; exact ⟨_, _, rfl, h1, h2, q1⟩, by simp only [CRepT]; exact ⟨_, _, rfl, h2, q2⟩, by simp [q3]⟩
    | lst own n el l =>
      simp only [allCV, Option.map_eq_some_iff] at e
      obtain ⟨ws, e, rfl⟩ := e
      obtain ⟨q1, q2, q3⟩ := allCV_sound h3 e
      have h2 := h2.list
      exact ⟨by simp only [CRepV]; exact ⟨_, _, rfl, h1, h2, q1⟩, by simp only [CRepT]; exact ⟨_, _, rfl, h2, q2⟩, by simp [q3]⟩
    | _ => simp [allCV] at e

theorem Cells.toL : ∀ {cs : List AV} {us : List Value} {pl : Nat → Place}, Cells P w G pl cs us → ARepL P w G (cs.map AV.copy) us ∧ us.all Value.oneCell' = true
  | [], us, pl, h => by
    have := h.len
    have : us = [] := List.eq_nil_of_length_eq_zero (by simpa using this)
    subst this
    simp [ARepL]
  | c :: cs, us, pl, h => by
    obtain ⟨u, r', rfl, h1, h2, h3⟩ := h.uncons
    obtain ⟨q1, q2⟩ := Cells.toL h3
    exact ⟨by simp only [List.map_cons, ARepL]; exact ⟨_, _, rfl, h2.copy, q1⟩, by simp [h1, q2]⟩

theorem mkAgg_sound {pl : Nat → Place} {cs : List AV} {us : List Value} (h : Cells P w G pl cs us) (p : Place) : ARep P w G p (mkAgg cs) (.agg us.toArray) := by
  unfold mkAgg
  split
  · rename_i vs e
    simp only [ARep, CRep]
    exact ⟨us, rfl, (allCV_sound h e).1⟩
  · simp only [ARep]
    exact ⟨us, rfl, h.toL.1, h.toL.2⟩

/-! boxes by number -/
theorem box_setBox {m : MemT} {d s : Nat} {c : List AV} {d' s' : Nat} :
    box? (setBox m d s c) d' s' = if d' = d ∧ s' = s ∧ d < m.length ∧ s < (nthD [] m d).length then some c else box? m d' s' := by
  unfold box? setBox
  rw [nthD_setN]
  by_cases h1 : d' = d ∧ d < m.length
  · rw [if_pos h1, nthD_setN, h1.1]
    by_cases h2 : s' = s ∧ s < (nthD [] m d).length
    · rw [if_pos h2, if_pos ⟨rfl, h2.1, h1.2, h2.2⟩]
    · rw [if_neg h2, if_neg (fun q => h2 ⟨q.2.1, q.2.2.2⟩)]
  · rw [if_neg h1, if_neg (fun q => h1 ⟨q.1, q.2.2.1⟩)]
theorem box_in {m : MemT} {d s : Nat} {c : List AV} (h : box? m d s = some c) : d < m.length ∧ s < (nthD [] m d).length := by
  unfold box? at h
  constructor
  · refine Decidable.byContradiction fun q => ?_
    rw [nthD_get [] m d, List.getElem?_eq_none (by omega)] at h
    simp [nthD] at h
  · refine Decidable.byContradiction fun q => ?_
    rw [nthD_get none, List.getElem?_eq_none (by omega)] at h
    simp at h
theorem box_setCell {m : MemT} {d s o : Nat} {v : AV} {c : List AV} (h : box? m d s = some c) {d' s' : Nat} :
    box? (setCell m d s o v) d' s' = if d' = d ∧ s' = s then some (setN c o v) else box? m d' s' := by
  unfold setCell
  rw [h]
  simp only
  rw [box_setBox]
  have := box_in h
  by_cases q : d' = d ∧ s' = s
  · rw [if_pos q, if_pos ⟨q.1, q.2, this.1, this.2⟩]
  · rw [if_neg q, if_neg (fun z => q ⟨z.1, z.2.1⟩)]
theorem length_setBox {m : MemT} {d s : Nat} {c : List AV} : (setBox m d s c).length = m.length := by simp [setBox, length_setN]
theorem length_setCell {m : MemT} {d s o : Nat} {v : AV} : (setCell m d s o v).length = m.length := by
  unfold setCell; split
  · exact length_setBox
  · rfl

theorem ARep.place {p q : Place} {v : AV} {x : Value} (h : v.owns = false) (hv : ARep P w G p v x) : ARep P w G q v x := by
  have := hv.copy (q := q)
  have e : v.copy = v := by
    cases v with
    | lst own n e l => cases own <;> simp [AV.owns, AV.copy] at h ⊢
    | siter s pos => simp [AV.owns] at h
    | bld T => simp [AV.owns] at h
    | _ => rfl
  rwa [e] at this
theorem owns_copy (v : AV) : v.copy.owns = false := by
  cases v with
  | lst own n e l => cases own <;> rfl
  | _ => rfl

/-- a cell is known less well -/
theorem Mem.weakCell {mem : MemT} (M : Mem P B W0 w G mem) {d s o : Nat} {v : AV} {c : List AV} (hb : box? mem d s = some c)
    (hv : ∀ u, ARep P w G (.cell d s o) (nthD .any c o) u → ARep P w G (.cell d s o) v u) : Mem P B W0 w G (setCell mem d s o v) := by
  refine ⟨M.below, M.base, M.own, M.hw, fun d' s' h => ?_, fun d' s' cs h => ?_, M.inj, M.glob⟩
  · rw [box_setCell hb] at h
    split at h
    · simp at h
    · exact M.blk d' s' h
  · rw [box_setCell hb] at h
    split at h
    · rename_i q
      simp only [Option.some.injEq] at h
      obtain ⟨b, vs, T, fz, R⟩ := M.box d s c hb
      rw [q.1, q.2]
      refine ⟨b, vs, T, fz, R.blk, R.lo, R.heap, R.free, R.hw, R.own, ⟨by rw [← h, length_setN]; exact R.rep.len, fun i hi => ?_⟩⟩
      rw [← h, length_setN] at hi
      obtain ⟨u, q1, q2, q3⟩ := R.rep.rep i hi
      refine ⟨u, q1, q2, ?_⟩
      rw [← h, nthD_setN]
      split
      · rename_i z; rw [z.1] at q3 ⊢; exact hv u q3
      · exact q3
    · exact M.box d' s' cs h

/-- the right to grow leaves a cell that has been weakened -/
theorem Mem.moveCell {mem : MemT} (M : Mem P B W0 w G mem) {d s o : Nat} {q : Place} {b : Nat} (h : G.own b = some (.cell d s o)) (hq : q ≠ .none)
    (hc : ∀ c, box? mem d s = some c → (nthD .any c o).owns = false) : Mem P B W0 w (G.move b q) mem := by
  refine ⟨M.below, M.base, fun k r hk => ?_, M.hw, M.blk, fun d' s' cs hb => ?_, M.inj, M.glob⟩
  · by_cases e : k = b
    · subst e
      simp [Gh.move] at hk
      subst hk
      have := M.own k _ h
      exact ⟨this.1, this.2.1, hq⟩
    · simp [Gh.move, e] at hk
      exact M.own k r hk
  · obtain ⟨b', vs, T, fz, R⟩ := M.box d' s' cs hb
    refine ⟨b', vs, T, fz, R.blk, R.lo, R.heap, R.free, R.hw, ?_, ⟨R.rep.len, fun i hi => ?_⟩⟩
    · have : b' ≠ b := fun e => by subst e; have := R.own; simp [h] at this
      simp [Gh.move, this, R.own]
    · obtain ⟨v, h1, h2, h3⟩ := R.rep.rep i hi
      refine ⟨v, h1, h2, ?_⟩
      have N := same_move (w := w) (q := q) (r := .none) h (by simp)
      by_cases e : d' = d ∧ s' = s ∧ i = o
      · obtain ⟨rfl, rfl, rfl⟩ := e
        have ho := hc cs hb
        exact ARep.place ho (ARep.same N N _ (ARep.place (q := .none) ho h3))
      · exact ARep.same (same_move h (by simp; intro a b c; exact e ⟨a, b, c⟩)) N _ h3

/-- a slice with the right to grow is taken out of a variable -/
theorem Sim.takeCell (S : Sim P B W0 d σ a w G) (o : Oper) {d' s off : Nat} {u : Value} (hh : σ.has (.cell d' s off) = true) (hu : ARep P w G (.cell d' s off) (cellOf σ.mem d' s off) u)
    (hown : (cellOf σ.mem d' s off).isOwn = true) :
    ∃ G', Sim P B W0 d (applyW σ (.cell d' s off (cellOf σ.mem d' s off).copy :: Am.put o (cellOf σ.mem d' s off))) (a.put o.dst u) w G' ∧ Keeps B d w w G G' := by
  obtain ⟨c, hb⟩ : ∃ c, box? σ.mem d' s = some c := by
    simp only [St.has] at hh
    split at hh
    · exact ⟨_, by assumption⟩
    · simp at hh
  have hcell : cellOf σ.mem d' s off = nthD .any c off := by simp [cellOf, hb]
  have M1 := S.mem.weakCell (o := off) (v := (cellOf σ.mem d' s off).copy) hb (fun u' h' => by rw [hcell]; exact h'.copy)
  have S1 : Sim P B W0 d { σ with mem := setCell σ.mem d' s off (cellOf σ.mem d' s off).copy } a w G := ⟨M1, by rw [length_setCell]; exact S.depth, S.fr, S.cfg, S.defers⟩
  simp only [applyW, W.apply]
  generalize hv : cellOf σ.mem d' s off = v at *
  cases v with
  | lst own n e l =>
    cases own with
    | false => simp [AV.isOwn] at hown
    | true =>
      have hu0 := hu
      simp only [ARep] at hu
      rcases hu with hu | ⟨g1, b, bo, cap, g2, g3, g4, g5, g6, g7⟩
      · exact ⟨G, S1.put o fun t _ => by simp only [ARep]; exact .inl hu, Keeps.refl _ _ _ _⟩
      · rcases g7 with g7 | ⟨_, g7⟩
        · exact ⟨G, S1.put o fun t _ => by simp only [ARep]; exact .inr ⟨g1, b, bo, cap, g2, g3, g4, g5, g6, .inl g7⟩, Keeps.refl _ _ _ _⟩
        · have ho := g7.1
          cases hd : o.dst with
          | none => exact ⟨G, by simpa [Am.put, hd, applyW, Act.put] using S1, Keeps.refl _ _ _ _⟩
          | some t =>
            refine ⟨G.move b (.tmp d t), ?_, Keeps.move ho (by simp)⟩
            have M2 := M1.moveCell (q := .tmp d t) ho (by simp) (fun c' hc' => by
              rw [box_setCell hb, if_pos ⟨rfl, rfl⟩] at hc'
              simp only [Option.some.injEq] at hc'
              rw [← hc', nthD_setN]
              split
              · exact owns_copy _
              · rename_i z
                have := hh
                simp only [St.has, hb, decide_eq_true_eq] at this
                exact (z ⟨rfl, this⟩).elim)
            have N := same_move (w := w) (q := .tmp d t) (r := .none) ho (by simp)
            have F2 : Fr P w (G.move b (.tmp d t)) d σ.tmps a.tmps := ⟨S.fr.len, fun i => ARep.same (same_move ho (by simp)) N _ (S.fr.rep i)⟩
            have S2 : Sim P B W0 d { σ with mem := setCell σ.mem d' s off (AV.copy (.lst true n e l)) } a w (G.move b (.tmp d t)) := ⟨M2, by rw [length_setCell]; exact S.depth, F2, S.cfg, S.defers⟩
            simp only [Am.put, hd, applyW, W.apply]
            refine S2.setTmp ?_
            simp only [ARep]
            refine .inr ⟨g1, b, bo, cap, g2, g3, g4, g5, ?_, .inr ⟨trivial, ?_⟩⟩
            · exact CRepLL.keep (Keep.refl _ _) l (by rw [sum_len g4]; exact g5) g6
            · obtain ⟨q1, q2, q3, q4, cur, q5, q6⟩ := g7
              exact ⟨by simp [Gh.move], q2, q3, q4, cur, q5, q6⟩
  | _ => simp [AV.isOwn] at hown

/-! loads -/
theorem run_isAgg {t : TypeId} (h : (P.underlying t).isSome = true) (w : World) : (isAgg t).run P w = .ok (isAggT P t) w := by
  cases hu : P.underlying t with
  | none => simp [hu] at h
  | some dsc => cases dsc <;> simp [isAgg, run_underlying hu, isAggT, hu]
theorem run_sizeOf_of {t : TypeId} (h : (P.underlying t).isSome = true) (w : World) : (sizeOf t).run P w = .ok (P.cellsOf t) w := by
  cases hh : P.info? t with
  | none => simp [Program.underlying, hh] at h
  | some i => simp [sizeOf, typeInfo, hh, Program.cellsOf]

theorem getCells_sound {d' s : Nat} : ∀ {n off : Nat} {acc : List Loc} {f : List AV → List Loc → Option β}, (getCells d' s off n).exec call σ acc f = some r →
    ∃ cs acc', f cs acc' = some r ∧ cs.length = n ∧ ∀ i, i < n → σ.has (.cell d' s (off + i)) = true ∧ nthD .any cs i = cellOf σ.mem d' s (off + i)
  | 0, off, acc, f, h => ⟨[], acc, by simpa [getCells, M.exec] using h, rfl, fun i hi => by omega⟩
  | n + 1, off, acc, f, h => by
    simp only [getCells, M.exec] at h
    obtain ⟨h0, h⟩ := chkO_some h
    rw [M.exec_bind] at h
    obtain ⟨cs, acc', h1, h2, h3⟩ := getCells_sound (f := fun r acc' => f (σ.get (.cell d' s off) :: r) acc') h
    refine ⟨_, _, h1, by simp [h2], fun i hi => ?_⟩
    cases i with
    | zero => exact ⟨by simpa using h0, by simp [nthD, St.get]⟩
    | succ i =>
      obtain ⟨q1, q2⟩ := h3 i (by omega)
      have e : off + (i + 1) = off + 1 + i := by omega
      exact ⟨by rw [e]; exact q1, by rw [e]; simpa [nthD] using q2⟩

/-- a cell of a variable in memory -/
theorem cell_of_has (S : Sim P B W0 d σ a w G) {d' s b q : Nat} (hb : G.blk d' s = some b) (h : σ.has (.cell d' s q) = true) :
    ∃ u, w.cell? (cellA b q) = some u ∧ u.oneCell' = true ∧ ARep P w G (.cell d' s q) (cellOf σ.mem d' s q) u := by
  obtain ⟨cs, vs, T, fz, hbox, R⟩ := S.mem.blk_box hb
  simp only [St.has, hbox, decide_eq_true_eq] at h
  obtain ⟨u, q1, q2, q3⟩ := R.rep.rep q h
  refine ⟨u, ?_, q2, by simpa [cellOf, hbox] using q3⟩
  simp [World.cell?, R.heap]
  simpa using q1

theorem op_load (S : Sim P B W0 d σ a w G) {t : TypeId} {x : Operand} (ho : o.op = .load t x) {k : List W → List Loc → Option β}
    (h : (opM P d ops o).exec call σ acc k = some r) : OpDone P B W0 d o σ a w G k r := by
  unfold opM at h
  rw [ho] at h
  simp only [M.exec_bind'] at h
  obtain ⟨v, acc', h, hv⟩ := opd_sound S _ h
  unfold loadM at h
  simp only [M.exec] at h
  obtain ⟨hu, h⟩ := chkO_some h
  split at h
  · -- a variable of the call's own
    rename_i d' s off _
    simp only [ARep] at hv
    obtain ⟨b, hb, hx⟩ := hv
    split at h
    · rename_i hagg
      rw [M.exec_bind] at h
      obtain ⟨cs, acc2, h, hl, hc⟩ := getCells_sound h
      simp only [M.exec] at h
      -- the cells' values
      have : ∃ us : List Value, us.length = P.cellsOf t ∧ ∀ i, i < P.cellsOf t → ∃ u, us[i]? = some u ∧ w.cell? (cellA b (off + i)) = some u ∧ u.oneCell' = true ∧ ARep P w G (.cell d' s (off + i)) (cellOf σ.mem d' s (off + i)) u := by
        have all : ∀ i, i < P.cellsOf t → ∃ u, w.cell? (cellA b (off + i)) = some u ∧ u.oneCell' = true ∧ ARep P w G (.cell d' s (off + i)) (cellOf σ.mem d' s (off + i)) u :=
          fun i hi => cell_of_has S hb (hc i hi).1
        refine ⟨(List.range (P.cellsOf t)).map fun i => (w.cell? (cellA b (off + i))).getD undef, by simp, fun i hi => ?_⟩
        obtain ⟨u, q1, q2, q3⟩ := all i hi
        exact ⟨u, by simp [hi, q1], q1, q2, q3⟩
      obtain ⟨us, hul, hus⟩ := this
      have hcells : Cells P w G (fun i => .cell d' s (off + i)) cs us := by
        refine ⟨by rw [hul, hl], fun i hi => ?_⟩
        obtain ⟨u, q1, q2, q3, q4⟩ := hus i (by omega)
        exact ⟨u, q1, q3, by rw [(hc i (by omega)).2]; exact q4⟩
      refine OpDone.pure (x := .agg us.toArray) S h ?_ fun t _ => mkAgg_sound hcells _
      have hload := run_loadCells_list (P := P) w (cellA b off) us (fun j u hj => by
        have hj' : j < us.length := (List.getElem?_eq_some_iff.1 hj).1
        obtain ⟨u', q1, q2, _⟩ := hus j (by omega)
        rw [add_cellA, q2, ← q1, hj])
      rw [hul] at hload
      simp [execOp, ho, hx, Instr.loadAt, Instr.sureAddr, loadVar, run_isAgg hu, hagg, run_sizeOf_of hu, hload]
    · rename_i hagg
      simp only [M.exec] at h
      obtain ⟨h0, h⟩ := chkO_some h
      obtain ⟨u, q1, q2, q3⟩ := cell_of_has S hb h0
      have hrun : (execOp a.eval o).run P w = .ok (.value u) w := by
        simp [execOp, ho, hx, Instr.loadAt, Instr.sureAddr, loadVar, run_isAgg hu, hagg, q1]
      split at h
      · rename_i hown
        simp only [Bool.and_eq_true] at hown
        obtain ⟨G', S', K⟩ := S.takeCell o h0 q3 (by simpa [St.get] using hown.2)
        exact OpDone.value h hrun S' K
      · exact OpDone.pure S h hrun fun t _ => by simpa [St.get] using q3.copy
  · -- data
    rename_i c off _
    simp only [ARep] at hv
    obtain ⟨b, o', hx, h1, h2⟩ := hv
    split at h
    · rename_i hagg
      rw [M.exec_bind] at h
      obtain ⟨h, h3⟩ := nths_sound h
      simp only [M.exec] at h
      by_cases hoff : off ≤ c.length
      · have hlen : ((c.drop off).take (P.cellsOf t)).length = P.cellsOf t := by simp; omega
        have : ∃ us : List Value, us.length = P.cellsOf t ∧ ∀ i, i < P.cellsOf t → ∃ u z, us[i]? = some u ∧ ((c.drop off).take (P.cellsOf t))[i]? = some z ∧ w.cell? (cellA b (o' + off + i)) = some u ∧ u.oneCell' = true ∧ CRep w G.hw z u := by
          have all : ∀ i, i < P.cellsOf t → ∃ u z, ((c.drop off).take (P.cellsOf t))[i]? = some z ∧ w.cell? (cellA b (o' + off + i)) = some u ∧ u.oneCell' = true ∧ CRep w G.hw z u := by
            intro i hi
            have hz : ((c.drop off).take (P.cellsOf t))[i]? = some (c[off + i]'(by omega)) := by
              rw [List.getElem?_take, if_pos hi, List.getElem?_drop]; simp
            obtain ⟨u, q1, q2, q3⟩ := h2.get (i := off + i) (c := c[off + i]'(by omega)) (by simp)
            exact ⟨u, _, hz, by rw [Nat.add_assoc]; exact q1, q2, q3⟩
          refine ⟨(List.range (P.cellsOf t)).map fun i => (w.cell? (cellA b (o' + off + i))).getD undef, by simp, fun i hi => ?_⟩
          obtain ⟨u, z, q0, q1, q2, q3⟩ := all i hi
          exact ⟨u, z, by simp [hi, q1], q0, q1, q2, q3⟩
        obtain ⟨us, hul, hus⟩ := this
        have hcells : Cells P w G (fun _ => .none) (((c.drop off).take (P.cellsOf t)).map AV.val) us := by
          refine ⟨by rw [hul, List.length_map, hlen], fun i hi => ?_⟩
          obtain ⟨u, z, q1, q2, q3, q4, q5⟩ := hus i (by rw [List.length_map, hlen] at hi; exact hi)
          refine ⟨u, q1, q4, ?_⟩
          rw [nthD_get, List.getElem?_map, q2]
          simpa only [ARep, Option.map_some, Option.getD_some] using q5
        refine OpDone.pure (x := .agg us.toArray) S h ?_ fun t _ => mkAgg_sound hcells _
        have hload := run_loadCells_list (P := P) w (cellA b (o' + off)) us (fun j u hj => by
          have hj' : j < us.length := (List.getElem?_eq_some_iff.1 hj).1
          obtain ⟨u', z, q1, _, q2, _⟩ := hus j (by omega)
          rw [add_cellA, q2, ← q1, hj])
        rw [hul] at hload
        simp [execOp, ho, hx, Instr.loadAt, Instr.sureAddr, loadVar, run_isAgg hu, hagg, run_sizeOf_of hu, hload]
      · -- nothing to load
        have hz : P.cellsOf t = 0 := by omega
        rw [hz] at h
        simp only [List.take_zero, List.map_nil] at h
        refine OpDone.pure (x := .agg #[]) S h ?_ fun t _ => mkAgg_sound (pl := fun _ => .none) Cells.nil _
        have hload := run_loadCells_list (P := P) w (cellA b (o' + off)) [] (fun j u hj => by simp at hj)
        simp only [List.length_nil] at hload
        simp [execOp, ho, hx, Instr.loadAt, Instr.sureAddr, loadVar, run_isAgg hu, hagg, run_sizeOf_of hu, hz, hload]
    · rename_i hagg
      simp only [M.exec] at h
      obtain ⟨z, hz, h⟩ := optO_some h
      obtain ⟨u, q1, q2, q3⟩ := h2.get hz
      refine OpDone.pure (x := u) S h ?_ fun t _ => by simpa only [ARep] using q3
      simp [execOp, ho, hx, Instr.loadAt, Instr.sureAddr, loadVar, run_isAgg hu, hagg, q1]
  · simp [M.exec] at h

theorem Cells.drop {pl : Nat → Place} {cs : List AV} {us : List Value} (h : Cells P w G pl cs us) (n : Nat) : Cells P w G (fun i => pl (n + i)) (cs.drop n) (us.drop n) := by
  refine ⟨by simp [h.len], fun i hi => ?_⟩
  simp only [List.length_drop] at hi
  obtain ⟨u, q1, q2, q3⟩ := h.rep (n + i) (by omega)
  refine ⟨u, by rw [List.getElem?_drop]; exact q1, q2, ?_⟩
  rw [nthD_get, List.getElem?_drop, ← nthD_get]
  exact q3
theorem Cells.take {pl : Nat → Place} {cs : List AV} {us : List Value} (h : Cells P w G pl cs us) (n : Nat) : Cells P w G pl (cs.take n) (us.take n) := by
  refine ⟨by simp [h.len], fun i hi => ?_⟩
  simp only [List.length_take] at hi
  obtain ⟨u, q1, q2, q3⟩ := h.rep i (by omega)
  refine ⟨u, by rw [List.getElem?_take, if_pos (by omega)]; exact q1, q2, ?_⟩
  rw [nthD_get, List.getElem?_take, if_pos (by omega), ← nthD_get]
  exact q3

theorem op_field (S : Sim P B W0 d σ a w G) {t : TypeId} {x : Operand} {f : Nat} (ho : o.op = .field t x f) {k : List W → List Loc → Option β}
    (h : (opM P d ops o).exec call σ acc k = some r) : OpDone P B W0 d o σ a w G k r := by
  unfold opM at h
  rw [ho] at h
  simp only [M.exec_bind'] at h
  obtain ⟨v, acc', h, hv⟩ := opd_sound S _ h
  simp only [M.exec] at h
  obtain ⟨p, hp, h⟩ := optO_some h
  obtain ⟨hu, h⟩ := chkO_some h
  rw [M.exec_bind] at h
  obtain ⟨cs, h, hl, hc, _, hx⟩ := cellsM_sound hv h
  obtain ⟨us, hx⟩ := hx rfl
  rw [hx] at hc
  simp only [Value.cells, if_true] at hc
  unfold fieldOf at hp
  split at hp
  · rename_i fs ht
    simp only [Option.map_eq_some_iff] at hp
    obtain ⟨fd, hfd, rfl⟩ := hp
    dsimp only at hu h
    split at h
    · rename_i hagg
      simp only [M.exec] at h
      have hc2 := (hc.drop fd.offset).take (P.cellsOf fd.type)
      refine OpDone.pure (x := .agg ((us.drop fd.offset).take (P.cellsOf fd.type)).toArray) S h ?_ fun t _ => mkAgg_sound hc2 _
      simp [execOp, ho, hx, Instr.field, run_underlying ht, hfd, asAgg, part, run_isAgg hu, hagg, run_sizeOf_of hu, List.extract_eq_take_drop]
    · rename_i hagg
      simp only [M.exec] at h
      obtain ⟨hlt, h⟩ := chkO_some h
      obtain ⟨u, q1, q2, q3⟩ := hc.rep fd.offset (by simpa using hlt)
      refine OpDone.pure (x := u) S h ?_ fun t _ => q3.copy
      simp [execOp, ho, hx, Instr.field, run_underlying ht, hfd, asAgg, part, run_isAgg hu, hagg, q1]
  · simp at hp

theorem opds_sound (S : Sim P B W0 d σ a w G) : ∀ {l : List Operand} {acc : List Loc} {f : List AV → List Loc → Option β}, (opds l).exec call σ acc f = some r →
    ∃ vs acc', f vs acc' = some r ∧ vs.length = l.length ∧ ∀ i x, l[i]? = some x → ARep P w G (opdPlace d x) (nthD .any vs i) (a.eval x)
  | [], acc, f, h => ⟨[], acc, by simpa [opds, M.exec] using h, rfl, fun i x hi => by simp at hi⟩
  | x :: l, acc, f, h => by
    simp only [opds] at h
    rw [M.exec_bind'] at h
    obtain ⟨v, acc1, h, hv⟩ := opd_sound S _ h
    rw [M.exec_bind'] at h
    obtain ⟨vs, acc2, h, hl, hr⟩ := opds_sound S (f := fun vs acc' => f (v :: vs) acc') h
    refine ⟨_, _, h, by simp [hl], fun i y hi => ?_⟩
    cases i with
    | zero => simp at hi; subst hi; simpa [nthD] using hv
    | succ i => simpa [nthD] using hr i y (by simpa using hi)

theorem ARepL.of : ∀ {l : List Operand} {vs : List AV}, vs.length = l.length → (∀ i x, l[i]? = some x → ARep P w G (opdPlace d x) (nthD .any vs i) (a.eval x)) → ARepL P w G (vs.map AV.copy) (l.map a.eval)
  | [], vs, h, _ => by
    have : vs = [] := List.eq_nil_of_length_eq_zero (by simpa using h)
    subst this; simp [ARepL]
  | x :: l, vs, h, hr => by
    cases vs with
    | nil => simp at h
    | cons v vs =>
      simp only [List.map_cons, ARepL]
      refine ⟨_, _, rfl, ?_, ARepL.of (by simpa using h) fun i y hi => ?_⟩
      · have := hr 0 x (by simp)
        simp only [nthD] at this
        exact this.copy
      · have := hr (i + 1) y (by simpa using hi)
        simpa [nthD] using this

theorem op_makeFunc (S : Sim P B W0 d σ a w G) {g : Fn} {first captured : Array Operand} (ho : o.op = .makeFunc g first captured) {k : List W → List Loc → Option β}
    (h : (opM P d ops o).exec call σ acc k = some r) : OpDone P B W0 d o σ a w G k r := by
  unfold opM at h
  rw [ho] at h
  simp only at h
  split at h
  · rename_i f hfirst
    simp only [M.exec_bind'] at h
    obtain ⟨vs, acc', h, hl, hr⟩ := opds_sound S h
    have hrep := ARepL.of (l := captured.toList) hl hr
    have hf : first = #[] := by simpa using hfirst
    have hrun : (execOp a.eval o).run P w = .ok (.value (.func (.func f) #[] (captured.toList.map a.eval).toArray)) w := by
      rw [show (captured.toList.map a.eval).toArray = captured.map a.eval from by apply Array.ext'; simp]
      simp [execOp, ho, hf, Instr.makeFunc]
    split at h
    · simp only [M.exec] at h
      have : captured.toList = [] := List.eq_nil_of_length_eq_zero (by rw [← hl]; rfl)
      rw [this] at hrun
      exact OpDone.pure S h hrun fun t _ => by simp [ARep, CRep]
    · simp only [M.exec] at h
      exact OpDone.pure S h hrun fun t _ => by simp only [ARep]; exact ⟨_, rfl, hrep⟩
  · simp [M.exec] at h

theorem run_len_slice {t e : TypeId} (ht : P.underlying t = some (.slice e)) (ty : TypeId) (ad : Option Addr) (n c : Nat) (w : World) :
    (Builtin.len_ #[t] ty #[.slice ad n c]).run P w = .ok (.int .i64 n) w := by
  simp [Builtin.len_, run_underlying ht, goInt]
theorem run_len_string {t : TypeId} (ht : P.underlying t = some .string) (ty : TypeId) (s : ByteArray) (w : World) :
    (Builtin.len_ #[t] ty #[.string s]).run P w = .ok (.int .i64 s.size) w := by
  simp [Builtin.len_, run_underlying ht, goInt]

/-- the built-ins, but for append -/
theorem op_builtin (S : Sim P B W0 d σ a w G) {c : Call} {b : Builtin} (ho : o.op = .call c) (hb : c.callee = .builtin b) (hna : b ≠ .append) {k : List W → List Loc → Option β}
    (h : (opM P d ops o).exec call σ acc k = some r) : OpDone P B W0 d o σ a w G k r := by
  unfold opM at h
  rw [ho] at h
  simp only [hb] at h
  unfold builtinM at h
  have resolve_eq : execOp a.eval o = invoke (.builtin b c.argTypes o.type (c.args.map fun | .const _ => true | _ => false)) (c.args.map a.eval) := by
    unfold execOp
    rw [ho]
    simp only [resolve, hb]
    rfl
  split at h
  · -- len
    rename_i x t ts hargs htypes
    obtain ⟨hts, h⟩ := chkO_some h
    simp only [M.exec_bind'] at h
    obtain ⟨v, acc', h, hv⟩ := opd_sound S _ h
    obtain ⟨cv, h, hc⟩ := cv_sound hv h
    have ha : c.args = #[x] := by apply Array.ext'; simpa using hargs
    have htt : c.argTypes = #[t] := by
      apply Array.ext'
      have : ts = [] := by simpa using hts
      rw [htypes, this]
    split at h
    · rename_i ht
      simp only [M.exec] at h
      obtain ⟨s, hs, h⟩ := optO_some h
      rw [asS_some hs] at hc
      simp only [CRep] at hc
      refine OpDone.pure (x := .int .i64 s.length) S h ?_ fun t _ => by simp only [ARep, CRep]
      rw [resolve_eq]
      simp [invoke, builtin, ha, htt, hc, run_len_string ht, ByteArray.size]
    · rename_i e ht
      simp only [M.exec] at h
      obtain ⟨p, hp, h⟩ := optO_some h
      rw [asL_some hp] at hc
      have : ∃ ad cap, a.eval x = .slice ad p.2.length cap := by
        simp only [CRep] at hc
        rcases hc with ⟨_, q2, q3⟩ | ⟨_, b, off, cap, es, q2, _⟩
        · exact ⟨none, 0, by rw [q3, q2]; rfl⟩
        · exact ⟨_, _, q2⟩
      obtain ⟨ad, cap, hx⟩ := this
      refine OpDone.pure (x := .int .i64 p.2.length) S h ?_ fun t _ => by simp only [ARep, CRep]
      rw [resolve_eq]
      simp [invoke, builtin, ha, htt, hx, run_len_slice ht]
    · simp [M.exec] at h
  · exact (hna rfl).elim
  · -- min
    rename_i x y t ts hargs htypes
    split at h
    · rename_i q ht
      simp only [M.exec_bind'] at h
      obtain ⟨v, acc', h, hv⟩ := opd_sound S _ h
      obtain ⟨u, acc', h, hu⟩ := opd_sound S _ h
      obtain ⟨cv, h, hc⟩ := cv_sound hv h
      obtain ⟨cu, h, hcu⟩ := cv_sound hu h
      simp only [M.exec] at h
      obtain ⟨n, hn, h⟩ := optO_some h
      obtain ⟨m, hm, h⟩ := optO_some h
      rw [asI_some hn] at hc
      rw [asI_some hm] at hcu
      simp only [CRep] at hc hcu
      have ha : c.args = #[x, y] := by apply Array.ext'; simpa using hargs
      refine OpDone.pure (x := .int q (if m < n then m else n)) S h ?_ fun t _ => by simp only [ARep, CRep]
      rw [resolve_eq]
      simp [invoke, builtin, ha, hc, hcu, Builtin.min_, Builtin.min2]
    · simp [M.exec] at h
  · -- max
    rename_i x y t ts hargs htypes
    split at h
    · rename_i q ht
      simp only [M.exec_bind'] at h
      obtain ⟨v, acc', h, hv⟩ := opd_sound S _ h
      obtain ⟨u, acc', h, hu⟩ := opd_sound S _ h
      obtain ⟨cv, h, hc⟩ := cv_sound hv h
      obtain ⟨cu, h, hcu⟩ := cv_sound hu h
      simp only [M.exec] at h
      obtain ⟨n, hn, h⟩ := optO_some h
      obtain ⟨m, hm, h⟩ := optO_some h
      rw [asI_some hn] at hc
      rw [asI_some hm] at hcu
      simp only [CRep] at hc hcu
      have ha : c.args = #[x, y] := by apply Array.ext'; simpa using hargs
      refine OpDone.pure (x := .int q (if m > n then m else n)) S h ?_ fun t _ => by simp only [ARep, CRep]
      rw [resolve_eq]
      simp [invoke, builtin, ha, hc, hcu, Builtin.max_, Builtin.max2]
    · simp [M.exec] at h
  · simp [M.exec] at h
end Go.Am
