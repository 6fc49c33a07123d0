/- What the abstract machine may forget. Conditions: none. -/
import Derived.Test.YtiffhngfneikoaaDoorAmAny
namespace Go.Am
open Go.RowKit
variable {P : Program} {B : Nat} {W0 : Base} {d : Nat} {σ : St} {a : Act} {w : World} {G : Gh} {p : Nat → Nat → Bool}

/-- variables in memory are forgotten -/
def Gh.drop (G : Gh) (p : Nat → Nat → Bool) : Gh := { G with blk := fun d s => if p d s then none else G.blk d s }
mutual
theorem ARep.drop {pl : Place} (hpl : ∀ d s o, pl = .cell d s o → p d s = false) : ∀ (a : AV) {v : Value}, a.hasPtr p = false → ARep P w G pl a v → ARep P w (G.drop p) pl a v
  | .any, _, _, _ => by simp [ARep]
  | .undef, _, _, x => by simpa [ARep] using x
  | .val c, v, _, x => by simp only [ARep] at x ⊢; exact x
  | .lst own isnil e l, v, _, x => by simp only [ARep, Spare] at x ⊢; exact x
  | .ptr d s off, v, h, x => by
    simp only [ARep] at x ⊢
    simp only [AV.hasPtr] at h
    obtain ⟨b, h1, h2⟩ := x
    exact ⟨b, by simp [Gh.drop, h, h1], h2⟩
  | .cptr c off, v, _, x => by simp only [ARep] at x ⊢; exact x
  | .siter s pos, v, _, x => by simp only [ARep] at x ⊢; exact x
  | .bld T, v, _, x => by
    simp only [ARep] at x ⊢
    obtain ⟨d, s, b, h1, h2, h3⟩ := x
    exact ⟨d, s, b, h1, by simp [Gh.drop, hpl d s 0 h1, h2], h3⟩
  | .clo f caps, v, h, x => by
    simp only [ARep] at x ⊢
    simp only [AV.hasPtr] at h
    obtain ⟨vs, h1, h2⟩ := x
    exact ⟨vs, h1, ARepL.drop caps h h2⟩
  | .agg cs, v, h, x => by
    simp only [ARep] at x ⊢
    simp only [AV.hasPtr] at h
    obtain ⟨vs, h1, h2, h3⟩ := x
    exact ⟨vs, h1, ARepL.drop cs h h2, h3⟩
  | .tup cs, v, h, x => by
    simp only [ARep] at x ⊢
    simp only [AV.hasPtr] at h
    obtain ⟨vs, h1, h2⟩ := x
    exact ⟨vs, h1, ARepL.drop cs h h2⟩
theorem ARepL.drop : ∀ (l : List AV) {vs : List Value}, AV.hasPtrs p l = false → ARepL P w G l vs → ARepL P w (G.drop p) l vs
  | [], _, _, x => by simpa [ARepL] using x
  | c :: cs, vs, h, x => by
    simp only [ARepL] at x ⊢
    simp only [AV.hasPtrs, Bool.or_eq_false_iff] at h
    obtain ⟨v, r, h1, h2, h3⟩ := x
    exact ⟨v, r, h1, ARep.drop (by intro d s o h; cases h) c h.1 h2, ARepL.drop cs h.2 h3⟩
end
theorem ARep.scrub {pl : Place} (hpl : ∀ d s o, pl = .cell d s o → p d s = false) {v : AV} {x : Value} (h : ARep P w G pl v x) : ARep P w (G.drop p) pl (v.scrub p) x := by
  unfold AV.scrub
  split
  · simp [ARep]
  · rename_i hp; exact ARep.drop hpl v hp h

def dropBox (p : Nat → Nat → Bool) (mem : MemT) (d s : Nat) : Option (List AV) := if p d s then none else (box? mem d s).map fun c => c.map (AV.scrub p)
theorem Mem.drop {mem mem' : MemT} (M : Mem P B W0 w G mem) (h : ∀ d s, box? mem' d s = dropBox p mem d s) : Mem P B W0 w (G.drop p) mem' := by
  refine ⟨M.below, M.base, M.own, M.hw, fun d s hb => ?_, fun d s cs hb => ?_, fun d s d' s' b h1 h2 => ?_, M.glob⟩
  · show (if p d s then none else G.blk d s) = none
    rw [h] at hb
    unfold dropBox at hb
    by_cases hp : p d s = true
    · rw [if_pos hp]
    · rw [if_neg hp] at hb ⊢
      exact M.blk d s (by simpa using hb)
  · rw [h] at hb
    unfold dropBox at hb
    by_cases hp : p d s = true
    · rw [if_pos hp] at hb; cases hb
    · rw [if_neg hp] at hb
      obtain ⟨c, hc, rfl⟩ := Option.map_eq_some_iff.1 hb
      obtain ⟨b, vs, T, fz, R⟩ := M.box d s c hc
      refine ⟨b, vs, T, fz, by show (if p d s then none else G.blk d s) = some b; rw [if_neg hp]; exact R.blk, R.lo, R.heap, R.free, R.hw, R.own, ⟨by rw [R.rep.len]; simp, fun o ho => ?_⟩⟩
      obtain ⟨v, q1, q2, q3⟩ := R.rep.rep o (by simpa using ho)
      refine ⟨v, q1, q2, ?_⟩
      have e : nthD .any (c.map (AV.scrub p)) o = (nthD .any c o).scrub p := by
        rw [nthD_get, nthD_get, List.getElem?_map]
        cases c[o]? <;> rfl
      rw [e]; exact q3.scrub (by intro d' s' o' h; cases h; simpa using hp)
  · have h1 : (if p d s then none else G.blk d s) = some b := h1
    have h2 : (if p d' s' then none else G.blk d' s') = some b := h2
    by_cases hp : p d s = true
    · rw [if_pos hp] at h1; cases h1
    · by_cases hp' : p d' s' = true
      · rw [if_pos hp'] at h2; cases h2
      · rw [if_neg hp] at h1; rw [if_neg hp'] at h2
        exact M.inj d s d' s' b h1 h2
theorem Keeps.drop (h : ∀ d' s, d' < d → p d' s = false) : Keeps B d w w G (G.drop p) :=
  ⟨Keep.refl _ _, fun _ _ _ _ h => ⟨h, rfl, rfl⟩, fun d' s b hd hb => by simp [Gh.drop, h d' s hd, hb], Below.refl _ _, fun _ _ => rfl⟩

theorem box?_scrub (mem : MemT) (d s : Nat) : box? (scrubMem p mem) d s = (box? mem d s).map fun c => c.map (AV.scrub p) := by
  unfold box? scrubMem
  simp only [nthD_get, List.getElem?_map]
  cases h : mem[d]? with
  | none => simp
  | some l =>
    simp only [Option.map_some, Option.getD_some, List.getElem?_map]
    cases l[s]? with
    | none => rfl
    | some b => cases b <;> rfl

theorem clearT_get : ∀ (ts : List Nat) (l : List AV) (i : Nat), (clearT l ts).length = l.length ∧ (nthD .any (clearT l ts) i = .any ∨ nthD .any (clearT l ts) i = nthD .any l i)
  | [], l, i => ⟨rfl, .inr rfl⟩
  | t :: ts, l, i => by
    simp only [clearT]
    obtain ⟨h1, h2⟩ := clearT_get ts (setN l t .any) i
    refine ⟨by rw [h1, length_setN], ?_⟩
    rcases h2 with h2 | h2
    · exact .inl h2
    · rw [nthD_setN] at h2
      split at h2
      · exact .inl h2
      · exact .inr h2
theorem clearB_get : ∀ (ts : List Nat) (l : List (Option (List AV))) (i : Nat), nthD none (clearB l ts) i = if ts.contains i then none else nthD none l i
  | [], l, i => by simp [clearB]
  | t :: ts, l, i => by
    simp only [clearB]
    rw [clearB_get ts, nthD_setN]
    simp only [List.contains_cons]
    by_cases h : ts.contains i = true
    · rw [h]; simp
    · by_cases e : i = t
      · subst e
        simp
        intro _ hlt
        rw [nthD_get, List.getElem?_eq_none (by omega)]; rfl
      · simp [e]

theorem Fr.mapAny {tmps tmps' : List AV} {t : Array Value} (F : Fr P w G d tmps t) (hl : tmps'.length = tmps.length) (h : ∀ i, nthD .any tmps' i = .any ∨ nthD .any tmps' i = (nthD .any tmps i).scrub p) : Fr P w (G.drop p) d tmps' t := by
  refine ⟨by rw [hl]; exact F.len, fun i => ?_⟩
  rcases h i with h | h
  · rw [h]; simp [ARep]
  · rw [h]; exact (F.rep i).scrub (by intro d s o h; cases h)

theorem Sim.clear (S : Sim P B W0 d σ a w G) (d0 : Nat) (ts bs : List Nat) (hd : bs = [] ∨ d0 = d) : ∃ G', Sim P B W0 d (clear d0 ts bs σ) a w G' ∧ Keeps B d w w G G' := by
  unfold Am.clear
  split
  · refine ⟨G, ⟨S.mem, S.depth, ⟨by rw [(clearT_get ts σ.tmps 0).1]; exact S.fr.len, fun i => ?_⟩, S.cfg, S.defers⟩, Keeps.refl _ _ _ _⟩
    rcases (clearT_get ts σ.tmps i).2 with h | h
    · rw [h]; simp [ARep]
    · rw [h]; exact S.fr.rep i
  · rename_i hne
    have hd : d0 = d := hd.resolve_left hne
    subst hd
    refine ⟨G.drop fun d' s => d' == d0 && bs.contains s, ⟨S.mem.drop fun d' s => ?_, by simp [scrubMem, length_setN]; exact S.depth, S.fr.mapAny (by simp [(clearT_get ts σ.tmps 0).1]) fun i => ?_, S.cfg, S.defers⟩, Keeps.drop fun d' s hlt => by simp; intro e; omega⟩
    · rw [box?_scrub]
      unfold dropBox box?
      rw [nthD_setN]
      by_cases e : d' = d0
      · subst e
        rw [if_pos ⟨rfl, by rw [S.depth]; omega⟩, clearB_get]
        by_cases hs : s ∈ bs
        · simp [hs]
        · simp [hs]
      · simp [e]
    · rcases (clearT_get ts σ.tmps i).2 with h | h
      · left
        rw [nthD_get] at h ⊢
        rw [List.getElem?_map]
        cases hh : (clearT σ.tmps ts)[i]? with
        | none => rfl
        | some x => rw [hh] at h; simp at h; subst h; rfl
      · right
        rw [← h]
        simp only [nthD_get, List.getElem?_map]
        cases (clearT σ.tmps ts)[i]? <;> rfl
theorem Sim.tidy (S : Sim P B W0 d σ a w G) (c : Code) : ∃ G', Sim P B W0 d (tidy c σ) a w G' ∧ Keeps B d w w G G' := by
  unfold Am.tidy
  split
  · exact S.clear 0 _ [] (.inl rfl)
  · exact ⟨G, S, Keeps.refl _ _ _ _⟩
end Go.Am
