/- Steps on states of the abstract machine: slots, the right to grow, new memory. Conditions: none. -/
import Derived.Test.YtlfopiicpgggfaaAmS
namespace Go.Am
open Go.RowKit
variable {P : Program} {B : Nat} {W0 : World} {d : Nat} {σ : St} {a : Act} {w : World} {G : Gh}

/-! constants -/
theorem CV.ofValue_rep {w : World} {h : Hw} : ∀ {v : Value} {c : CV}, CV.ofValue v = some c → CRep w h c v ∧ v.oneCell' = true
  | .bool b, c, e => by simp [CV.ofValue] at e; subst e; simp [CRep, Value.oneCell']
  | .int k n, c, e => by simp [CV.ofValue] at e; subst e; simp [CRep, Value.oneCell']
  | .string s, c, e => by simp [CV.ofValue] at e; subst e; simp [CRep, Value.oneCell']
  | .slice none 0 0, c, e => by simp [CV.ofValue] at e; subst e; simp [CRep, Value.oneCell']
  | .slice none 0 (_ + 1), c, e => by simp [CV.ofValue] at e
  | .slice none (_ + 1) _, c, e => by simp [CV.ofValue] at e
  | .slice (some _) _ _, c, e => by simp [CV.ofValue] at e
  | .pointer none, c, e => by simp [CV.ofValue] at e; subst e; simp [CRep, Value.oneCell']
  | .pointer (some _), c, e => by simp [CV.ofValue] at e
  | .nilFunc, c, e => by simp [CV.ofValue] at e; subst e; simp [CRep, Value.oneCell']
  | .func g first captured, c, e => by
    cases g <;> simp [CV.ofValue] at e
    obtain ⟨⟨h1, h2⟩, rfl⟩ := e
    simp [CRep, Value.oneCell', h1, h2]
  | .float .., c, e => by simp [CV.ofValue] at e
  | .complex .., c, e => by simp [CV.ofValue] at e
  | .map .., c, e => by simp [CV.ofValue] at e
  | .chan .., c, e => by simp [CV.ofValue] at e
  | .iface .., c, e => by simp [CV.ofValue] at e
  | .nilIface, c, e => by simp [CV.ofValue] at e
  | .agg .., c, e => by simp [CV.ofValue] at e
  | .tuple .., c, e => by simp [CV.ofValue] at e
theorem CV.ofValues_rep {w : World} {h : Hw} : ∀ {vs : List Value} {cs : List CV}, CV.ofValues vs = some cs → CRepV w h cs vs ∧ CRepT w h cs vs
  | [], cs, e => by simp [CV.ofValues] at e; subst e; simp [CRepV, CRepT]
  | v :: vs, cs, e => by
    simp only [CV.ofValues] at e
    split at e
    · rename_i x xs h1 h2
      simp at e
      subst e
      have hx := CV.ofValue_rep (w := w) (h := h) h1
      have hr := CV.ofValues_rep (w := w) (h := h) h2
      exact ⟨by simp only [CRepV]; exact ⟨v, vs, rfl, hx.2, hx.1, hr.1⟩, by simp only [CRepT]; exact ⟨v, vs, rfl, hx.1, hr.2⟩⟩
    · simp at e
theorem AV.ofConst_rep (w : World) (G : Gh) (p : Place) (v : Value) : ARep P w G p (AV.ofConst v) v := by
  cases v with
  | agg cs =>
    simp only [AV.ofConst]
    split
    · rename_i xs h1
      simp only [ARep, CRep]
      exact ⟨cs.toList, by simp, (CV.ofValues_rep h1).1⟩
    · simp [ARep]
  | tuple cs =>
    simp only [AV.ofConst]
    split
    · rename_i xs h1
      simp only [ARep, CRep]
      exact ⟨cs.toList, by simp, (CV.ofValues_rep h1).2⟩
    · simp [ARep]
  | _ =>
    simp only [AV.ofConst]
    split
    · rename_i x h1
      simp only [ARep]
      exact (CV.ofValue_rep h1).1
    · simp [ARep]

/-! operands -/
def opdPlace (d : Nat) : Operand → Place
  | .tmp t => .tmp d t
  | _ => .none
theorem opd_sound (S : Sim P B W0 d σ a w G) {β : Type} {call : FuncId → List CV → Option CV} (x : Operand) {acc : List Loc} {k : AV → List Loc → Option β} {r : β}
    (h : (opd x).exec call σ acc k = some r) : ∃ v acc', k v acc' = some r ∧ ARep P w G (opdPlace d x) v (a.eval x) := by
  cases x with
  | tmp t => exact ⟨_, _, (chkO_some h).2, S.fr.rep t⟩
  | const v => exact ⟨_, _, h, AV.ofConst_rep w G _ v⟩
  | func f => exact ⟨_, _, h, by simp [ARep, CRep, Act.eval]⟩
  | _ => simp [opd, M.exec] at h
theorem opdT_sound (S : Sim P B W0 d σ a w G) {β : Type} {call : FuncId → List CV → Option CV} (t : TypeId) (x : Operand) {acc : List Loc} {k : AV → List Loc → Option β} {r : β}
    (h : (opdT P t x).exec call σ acc k = some r) : ∃ v acc', k v acc' = some r ∧ ARep P w G (opdPlace d x) v (a.eval x) := by
  unfold opdT at h
  split at h
  · split at h
    · exact ⟨_, _, h, by simp [ARep, Act.eval]⟩
    · exact opd_sound S _ h
  · exact opd_sound S _ h
theorem cv_sound {β : Type} {call : FuncId → List CV → Option CV} {p : Place} {v : AV} {x : Value} (hv : ARep P w G p v x) {acc : List Loc} {k : CV → List Loc → Option β} {r : β}
    (h : v.cv.exec call σ acc k = some r) : ∃ c, k c acc = some r ∧ CRep w G.hw c x := by
  cases v with
  | val c => exact ⟨c, h, by simpa [ARep] using hv⟩
  | lst own n e l => exact ⟨_, h, hv.list⟩
  | _ => simp [AV.cv, M.exec] at h

theorem asI_some {k : IntKind} {c : CV} {n : Int} (h : c.asI k = some n) : c = .int k n := by
  cases c <;> simp [CV.asI] at h
  obtain ⟨rfl, rfl⟩ := h; rfl
theorem asB_some {c : CV} {b : Bool} (h : c.asB = some b) : c = .bool b := by
  cases c <;> simp [CV.asB] at h; rw [h]
theorem asS_some {c : CV} {s : List UInt8} (h : c.asS = some s) : c = .str s := by
  cases c <;> simp [CV.asS] at h; rw [h]
theorem asL_some {c : CV} {p : Bool × List (List CV)} (h : c.asL = some p) : c = .list p.1 p.2 := by
  cases c <;> simp [CV.asL] at h; subst h; rfl
theorem asA_some {c : CV} {s : List CV} (h : c.asA = some s) : c = .agg s := by
  cases c <;> simp [CV.asA] at h; rw [h]
theorem asT_some {c : CV} {s : List CV} (h : c.asT = some s) : c = .tup s := by
  cases c <;> simp [CV.asT] at h; rw [h]
theorem asF_some {c : CV} {f : FuncId} (h : c.asF = some f) : c = .fn f := by
  cases c <;> simp [CV.asF] at h; rw [h]

/-! slots -/
theorem Fr.set {tmps : List AV} {t : Array Value} (F : Fr P w G d tmps t) {i : Nat} {v : AV} {x : Value} (hv : ARep P w G (.tmp d i) v x) :
    Fr P w G d (setN tmps i v) (t.setIfInBounds i x) := by
  refine ⟨by simp [length_setN, F.len], fun j => ?_⟩
  rw [nthD_setN]
  have hl := F.len
  by_cases hj : j = i
  · subst hj
    by_cases hi : j < tmps.length
    · simp only [hi, and_self, if_true]
      have : (t.setIfInBounds j x).getD j undef = x := by simp [Array.getD, hl, hi]
      rw [this]; exact hv
    · simp only [hi, and_false, if_false]
      have : (t.setIfInBounds j x) = t := by simp [Array.setIfInBounds, hl, hi]
      rw [this]; exact F.rep j
  · simp only [hj, false_and, if_false]
    have : (t.setIfInBounds i x).getD j undef = t.getD j undef := by
      simp only [Array.getD_eq_getD_getElem?, Array.getElem?_setIfInBounds]
      rw [if_neg (fun e => hj e.symm)]
    rw [this]; exact F.rep j
/-- a slot may be known less well, or of another place -/
theorem Fr.weaken {tmps : List AV} {t : Array Value} (F : Fr P w G d tmps t) {i : Nat} {v : AV} (hv : ARep P w G (.tmp d i) v (t.getD i undef)) :
    Fr P w G d (setN tmps i v) t := by
  refine ⟨by simp [length_setN, F.len], fun j => ?_⟩
  rw [nthD_setN]
  by_cases hj : j = i ∧ i < tmps.length
  · rw [if_pos hj, hj.1]; exact hv
  · rw [if_neg hj]; exact F.rep j

theorem put_none {o : Oper} (h : o.dst = none) (v : AV) : put o v = [] := by simp [put, h]
theorem put_some {o : Oper} {t : Nat} (h : o.dst = some t) (v : AV) : put o v = [.tmp t v] := by simp [put, h]

theorem Sim.setTmp (S : Sim P B W0 d σ a w G) {i : Nat} {v : AV} {x : Value} (hv : ARep P w G (.tmp d i) v x) :
    Sim P B W0 d { σ with tmps := setN σ.tmps i v } (a.put (some i) x) w G :=
  ⟨S.mem, S.depth, S.fr.set hv, S.defers⟩
theorem Sim.weaken (S : Sim P B W0 d σ a w G) {i : Nat} {v : AV} (hv : ARep P w G (.tmp d i) v (a.tmps.getD i undef)) :
    Sim P B W0 d { σ with tmps := setN σ.tmps i v } a w G :=
  ⟨S.mem, S.depth, S.fr.weaken hv, S.defers⟩
theorem Sim.put (S : Sim P B W0 d σ a w G) (o : Oper) {v : AV} {x : Value} (hv : ∀ t, o.dst = some t → ARep P w G (.tmp d t) v x) :
    Sim P B W0 d (applyW σ (put o v)) (a.put o.dst x) w G := by
  cases h : o.dst with
  | none => simpa [Am.put, h, applyW, Act.put] using S
  | some t => simpa [Am.put, h, applyW, W.apply] using S.setTmp (hv t h)

/-! the right to grow changes its place -/
def Gh.move (G : Gh) (b : Nat) (q : Place) : Gh := { G with own := fun k => if k = b then some q else G.own k }
theorem same_move {p q r : Place} {b : Nat} (h : G.own b = some p) (hr : r ≠ p) : Same r w w G (G.move b q) := by
  refine ⟨Keep.refl _ _, fun _ _ _ h => h, fun k hk => ⟨?_, rfl, rfl⟩⟩
  have : k ≠ b := fun e => by subst e; rw [h] at hk; exact hr (Option.some.inj hk).symm
  simp [Gh.move, this, hk]
theorem Mem.move {mem : MemT} (M : Mem P B W0 w G mem) {p q : Place} {b : Nat} (h : G.own b = some p) (hq : q ≠ .none) (hp : ∀ d s o, p ≠ .cell d s o) : Mem P B W0 w (G.move b q) mem := by
  refine ⟨M.below, M.base, fun k r hk => ?_, M.hw, M.blk, fun d s cs hb => ?_, M.inj⟩
  · by_cases e : k = b
    · subst e
      simp [Gh.move] at hk
      subst hk
      have := M.own k p h
      exact ⟨this.1, this.2.1, hq⟩
    · simp [Gh.move, e] at hk
      exact M.own k r hk
  · obtain ⟨b', vs, T, fz, R⟩ := M.box d s cs hb
    refine ⟨b', vs, T, fz, R.blk, R.lo, R.heap, R.free, R.hw, ?_, ⟨R.rep.len, fun o ho => ?_⟩⟩
    · have : b' ≠ b := fun e => by subst e; have := R.own; simp [h] at this
      simp [Gh.move, this, R.own]
    · obtain ⟨v, h1, h2, h3⟩ := R.rep.rep o ho
      exact ⟨v, h1, h2, ARep.same (same_move h (fun e => hp d s o e.symm)) (same_move h (fun e => M.noNone b (e ▸ h))) _ h3⟩
theorem Keeps.move {p q : Place} {b : Nat} (h : G.own b = some p) (hp : ∀ d' i, d' < d → p ≠ .tmp d' i) : Keeps B d w w G (G.move b q) := by
  refine ⟨Keep.refl _ _, fun k d' i hd hk => ⟨?_, rfl, rfl⟩, fun _ _ _ => rfl, Below.refl _ _, fun _ _ => rfl⟩
  have : k ≠ b := fun e => by subst e; rw [h] at hk; exact hp d' i hd (Option.some.inj hk)
  simp [Gh.move, this, hk]

theorem ARep.ofNone (hn : ∀ b, G.own b ≠ some .none) {q : Place} {v : AV} {x : Value} (hv : ARep P w G .none v x) : ARep P w G q v x := by
  cases v with
  | any => simp [ARep]
  | lst own n e l =>
    simp only [ARep] at hv ⊢
    rcases hv with hv | ⟨g1, b, off, cap, g2, g3, g4, g5, g6, g7⟩
    · exact .inl hv
    · refine .inr ⟨g1, b, off, cap, g2, g3, g4, g5, g6, ?_⟩
      rcases g7 with g7 | ⟨_, g7⟩
      · exact .inl g7
      · exact (hn b g7.1).elim
  | _ => simpa only [ARep] using hv

/-- a slot's value handed on to another slot -/
theorem Sim.handOn (S : Sim P B W0 d σ a w G) (o : Oper) (x : Operand) {v : AV} (hv : ARep P w G (opdPlace d x) v (a.eval x)) :
    ∃ G', Sim P B W0 d (applyW σ (handOn o x v)) (a.put o.dst (a.eval x)) w G' ∧ Keeps B d w w G G' := by
  have plainly : v.isOwn = false → ∃ G', Sim P B W0 d (applyW σ (Am.put o v)) (a.put o.dst (a.eval x)) w G' ∧ Keeps B d w w G G' := by
    intro hn
    refine ⟨G, S.put o fun t ht => ?_, Keeps.refl _ _ _ _⟩
    have h1 := hv.copy (q := .tmp d t)
    have : v.copy = v := by
      cases v with
      | lst own n e l => cases own <;> simp [AV.isOwn, AV.copy] at hn ⊢
      | _ => rfl
    rwa [this] at h1
  cases x with
  | tmp t =>
    simp only [Am.handOn]
    by_cases hc : (v.isOwn && o.dst != some t) = true
    · rw [if_pos hc]
      simp only [Bool.and_eq_true, bne_iff_ne, ne_eq] at hc
      obtain ⟨h1, h2⟩ := hc
      cases v with
      | lst own n e l =>
        cases own with
        | false => simp [AV.isOwn] at h1
        | true =>
          have hcopy : ARep P w G (.tmp d t) (AV.copy (.lst true n e l)) (a.tmps.getD t undef) := by
            have := hv.copy (q := .tmp d t)
            simpa [Act.eval] using this
          have S1 := S.weaken hcopy
          cases hd : o.dst with
          | none => exact ⟨G, by simpa [Am.put, hd, applyW, W.apply, Act.put] using S1, Keeps.refl _ _ _ _⟩
          | some u =>
            have hut : u ≠ t := fun e => h2 (by rw [hd, e])
            simp only [Am.put, hd, applyW, W.apply]
            have hv0 := hv
            simp only [ARep] at hv
            rcases hv with hv | ⟨g1, b, off, cap, g2, g3, g4, g5, g6, g7⟩
            · exact ⟨G, S1.setTmp (by simp only [ARep]; exact .inl hv), Keeps.refl _ _ _ _⟩
            · rcases g7 with g7 | ⟨_, g7⟩
              · exact ⟨G, S1.setTmp (by simp only [ARep]; exact .inr ⟨g1, b, off, cap, g2, g3, g4, g5, g6, .inl g7⟩), Keeps.refl _ _ _ _⟩
              · have hown : G.own b = some (.tmp d t) := g7.1
                refine ⟨G.move b (.tmp d u), ?_, Keeps.move hown (fun d' i hd e => by simp at e; omega)⟩
                have M2 := S1.mem.move (q := .tmp d u) hown (by simp) (by simp)
                have N2 := same_move (w := w) (q := .tmp d u) (r := .none) hown (by simp)
                have F2 : Fr P w (G.move b (.tmp d u)) d (setN σ.tmps t (AV.copy (.lst true n e l))) a.tmps := by
                  refine ⟨S1.fr.len, fun j => ?_⟩
                  by_cases hj : j = t
                  · subst hj
                    simp only [nthD_setN]
                    by_cases hlt : j < σ.tmps.length
                    · rw [if_pos (by simp [hlt])]
                      simp only [AV.copy, ARep] at hcopy ⊢
                      exact hcopy
                    · rw [if_neg (by simp [hlt])]
                      have hany : nthD AV.any σ.tmps j = .any := by rw [nthD_get, List.getElem?_eq_none (by omega)]; rfl
                      rw [hany]; simp [ARep]
                  · exact ARep.same (same_move hown (by simp [hj])) N2 _ (S1.fr.rep j)
                refine ⟨M2, S.depth, F2.set ?_, S.defers⟩
                simp only [ARep]
                refine .inr ⟨g1, b, off, cap, g2, g3, g4, g5, ?_, .inr ⟨trivial, ?_⟩⟩
                · exact CRepLL.keep (Keep.refl _ _) l (by rw [sum_len g4]; exact g5) g6
                · obtain ⟨q1, q2, q3, q4, cur, q5, q6⟩ := g7
                  exact ⟨by simp [Gh.move], q2, q3, q4, cur, q5, q6⟩
      | _ => simp [AV.isOwn] at h1
    · rw [if_neg hc]
      by_cases h1 : v.isOwn = true
      · -- it stays in its slot
        have hd : o.dst = some t := by
          simp only [h1, Bool.true_and, bne_iff_ne, ne_eq, Decidable.not_not] at hc; exact hc
        refine ⟨G, S.put o fun u hu => ?_, Keeps.refl _ _ _ _⟩
        rw [hd] at hu; cases hu; exact hv
      · exact plainly (by simpa using h1)
  | const c =>
    simp only [Am.handOn]
    exact ⟨G, S.put o fun t ht => ARep.ofNone S.mem.noNone hv, Keeps.refl _ _ _ _⟩
  | func f =>
    simp only [Am.handOn]
    exact ⟨G, S.put o fun t ht => ARep.ofNone S.mem.noNone hv, Keeps.refl _ _ _ _⟩
  | _ =>
    simp only [Am.handOn]
    exact ⟨G, S.put o fun t ht => ARep.ofNone S.mem.noNone hv, Keeps.refl _ _ _ _⟩
end Go.Am
