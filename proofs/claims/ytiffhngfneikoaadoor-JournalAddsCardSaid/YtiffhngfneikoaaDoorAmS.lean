/- The abstract machine's states stand for frames and memory of the model. Conditions: none; definitions and laws on them. -/
import Derived.Test.YtiffhngfneikoaaDoorAmR
import Derived.Calls
import Derived.Tactics
import Derived.Laws.World
namespace Go.Am
open Go.RowKit
variable {P : Program}

/-- what a value at a place needs to stand as it stands -/
structure Same (p : Place) (w w' : World) (G G' : Gh) : Prop where
  keep : Keep w w' G.hw G'.hw
  blk : ∀ d s b, G.blk d s = some b → G'.blk d s = some b
  own : ∀ b, G.own b = some p → G'.own b = some p ∧ G'.hw b = G.hw b ∧ w'.heap[b]? = w.heap[b]?

theorem cell?_of_heap {w w' : World} {b : Nat} (h : w'.heap[b]? = w.heap[b]?) (o : Nat) : w'.cell? (cellA b o) = w.cell? (cellA b o) := by
  simp [World.cell?, h]
theorem frozen?_of_heap {w w' : World} {b : Nat} (h : w'.heap[b]? = w.heap[b]?) (o : Nat) : w'.frozen? (cellA b o) = w.frozen? (cellA b o) := by
  simp [World.frozen?, h]

theorem Spare.same {w w' : World} {G G' : Gh} {p : Place} (S : Same p w w' G G') {e : TypeId} {b off n cap : Nat} (h : Spare P w G p e b off n cap) : Spare P w' G' p e b off n cap := by
  obtain ⟨h1, h2, h3, h4, cur, h5, h6⟩ := h
  obtain ⟨s1, s2, s3⟩ := S.own b h1
  exact ⟨s1, h2, by rw [s2]; exact h3, h4, cur, by rw [s3]; exact h5, h6⟩

mutual
theorem ARep.same {w w' : World} {G G' : Gh} {p : Place} (S : Same p w w' G G') (N : Same .none w w' G G') : ∀ (a : AV) {v : Value}, ARep P w G p a v → ARep P w' G' p a v
  | .any, _, _ => by simp [ARep]
  | .undef, _, x => by simpa [ARep] using x
  | .val c, v, x => by simp only [ARep] at x ⊢; exact CRep.keep S.keep c x
  | .lst own isnil e l, v, x => by
    simp only [ARep] at x ⊢
    rcases x with x | ⟨h1, b, off, cap, h2, h3, h4, h5, h6, h7⟩
    · exact .inl x
    · refine .inr ⟨h1, b, off, cap, h2, h3, h4, Nat.le_trans h5 (S.keep.mark b), CRepLL.keep S.keep l (by rw [sum_len h4]; exact h5) h6, ?_⟩
      rcases h7 with h7 | ⟨h7, h8⟩
      · exact .inl h7
      · exact .inr ⟨h7, h8.same S⟩
  | .ptr d s off, v, x => by
    simp only [ARep] at x ⊢
    obtain ⟨b, h1, h2⟩ := x
    exact ⟨b, S.blk d s b h1, h2⟩
  | .cptr c off, v, x => by
    simp only [ARep] at x ⊢
    obtain ⟨b, o, h1, h2, h3⟩ := x
    exact ⟨b, o, h1, Nat.le_trans h2 (S.keep.mark b), CRepC.keep S.keep c h2 h3⟩
  | .clo f caps, v, x => by
    simp only [ARep] at x ⊢
    obtain ⟨vs, h1, h2⟩ := x
    exact ⟨vs, h1, ARepL.same N caps h2⟩
  | .agg cs, v, x => by
    simp only [ARep] at x ⊢
    obtain ⟨vs, h1, h2, h3⟩ := x
    exact ⟨vs, h1, ARepL.same N cs h2, h3⟩
  | .tup cs, v, x => by
    simp only [ARep] at x ⊢
    obtain ⟨vs, h1, h2⟩ := x
    exact ⟨vs, h1, ARepL.same N cs h2⟩
  | .bld T, v, x => by
    simp only [ARep] at x ⊢
    obtain ⟨d, s, b, h1, h2, h3, h4⟩ := x
    exact ⟨d, s, b, h1, S.blk d s b h2, S.keep.elem b T h3, h4⟩
  | .siter s pos, v, x => by
    simp only [ARep] at x ⊢
    obtain ⟨b, h1, h2, h3⟩ := x
    obtain ⟨s1, _, s3⟩ := S.own b h2
    exact ⟨b, h1, s1, by rw [s3]; exact h3⟩
theorem ARepL.same {w w' : World} {G G' : Gh} (N : Same .none w w' G G') : ∀ (l : List AV) {vs : List Value}, ARepL P w G l vs → ARepL P w' G' l vs
  | [], _, x => by simpa [ARepL] using x
  | c :: cs, vs, x => by
    simp only [ARepL] at x ⊢
    obtain ⟨v, r, h1, h2, h3⟩ := x
    exact ⟨v, r, h1, ARep.same N N c h2, ARepL.same N cs h3⟩
end

/-- a copy stands at every place -/
theorem ARep.copy {w : World} {G : Gh} {p q : Place} : ∀ {a : AV} {v : Value}, ARep P w G p a v → ARep P w G q a.copy v
  | .any, _, _ => by simp [ARep, AV.copy]
  | .undef, _, x => by simpa [ARep, AV.copy] using x
  | .val c, v, x => by simpa [ARep, AV.copy] using x
  | .lst true isnil es l, v, x => by
    simp only [ARep, AV.copy, CRep] at x ⊢
    rcases x with x | ⟨h1, b, off, cap, h2, h3, h4, h5, h6, h7⟩
    · exact .inl x
    · exact .inr ⟨h1, b, off, cap, _, h2, h3, h4, h5, h6⟩
  | .lst false isnil es l, v, x => by
    simp only [ARep, AV.copy] at x ⊢
    rcases x with x | ⟨h1, b, off, cap, h2, h3, h4, h5, h6, h7⟩
    · exact .inl x
    · exact .inr ⟨h1, b, off, cap, h2, h3, h4, h5, h6, .inl (by rcases h7 with h7 | h7; exact h7; simp at h7)⟩
  | .ptr .., v, x => by simpa [ARep, AV.copy] using x
  | .cptr .., v, x => by simpa [ARep, AV.copy] using x
  | .clo .., v, x => by simpa [ARep, AV.copy] using x
  | .agg .., v, x => by simpa [ARep, AV.copy] using x
  | .tup .., v, x => by simpa [ARep, AV.copy] using x
  | .siter .., v, x => by simp [ARep, AV.copy]
  | .bld .., v, x => by simp [ARep, AV.copy]
theorem ARep.shown {w : World} {G : Gh} {p : Place} {a : AV} {v : Value} (x : ARep P w G p a v) : ARep P w G p a.shown v := by
  cases a with
  | siter s pos => simp [AV.shown, ARep]
  | bld T => simp [AV.shown, ARep]
  | _ => simpa only [AV.shown] using x

/-- the data of a value -/
theorem ARep.list {w : World} {G : Gh} {p : Place} {own isnil : Bool} {e : TypeId} {l : List (List CV)} {v : Value} (x : ARep P w G p (.lst own isnil e l) v) : CRep w G.hw (.list isnil l) v := by
  simp only [ARep, CRep] at x ⊢
  rcases x with x | ⟨h1, b, off, cap, h2, h3, h4, h5, h6, h7⟩
  · exact .inl x
  · exact .inr ⟨h1, b, off, cap, _, h2, h3, h4, h5, h6⟩

/-! lists by number -/
theorem nthD_setN {α : Type} (dflt : α) : ∀ (l : List α) (i : Nat) (x : α) (j : Nat), nthD dflt (setN l i x) j = if j = i ∧ i < l.length then x else nthD dflt l j
  | [], i, x, j => by simp [setN, nthD]
  | y :: l, 0, x, 0 => by simp [setN, nthD]
  | y :: l, 0, x, j + 1 => by simp [setN, nthD]
  | y :: l, i + 1, x, 0 => by simp [setN, nthD]
  | y :: l, i + 1, x, j + 1 => by
    simp only [setN, nthD, nthD_setN dflt l i x j, List.length_cons]
    congr 1
    simp
theorem length_setN {α : Type} : ∀ (l : List α) (i : Nat) (x : α), (setN l i x).length = l.length
  | [], _, _ => rfl
  | _ :: _, 0, _ => rfl
  | _ :: l, i + 1, x => by simp [setN, length_setN l i x]
theorem nthD_get {α : Type} (dflt : α) : ∀ (l : List α) (i : Nat), nthD dflt l i = (l[i]?).getD dflt
  | [], i => by simp [nthD]
  | x :: l, 0 => by simp [nthD]
  | x :: l, i + 1 => by simp [nthD, nthD_get dflt l i]

/-! the memory -/
abbrev MemT := List (List (Option (List AV)))
structure CellsRep (P : Program) (w : World) (G : Gh) (d s : Nat) (cs : List AV) (vs : List Value) : Prop where
  len : vs.length = cs.length
  rep : ∀ o, o < cs.length → ∃ v, vs[o]? = some v ∧ v.oneCell' = true ∧ ARep P w G (.cell d s o) (nthD .any cs o) v

structure BoxRep (P : Program) (B : Nat) (w : World) (G : Gh) (d s : Nat) (cs : List AV) (b : Nat) (vs : Array Value) (T : TypeId) (fz : Nat × Nat) : Prop where
  blk : G.blk d s = some b
  lo : B ≤ b
  heap : w.heap[b]? = some (.cells vs T fz)
  free : ∀ i, i < vs.size → ¬ (fz.1 ≤ i ∧ i < fz.2)
  hw : G.hw b = 0
  own : G.own b = none
  rep : CellsRep P w G d s cs vs.toList

structure Mem (P : Program) (B : Nat) (W0 : Base) (w : World) (G : Gh) (mem : MemT) : Prop where
  below : Below B W0.W w
  base : B ≤ w.heap.size
  own : ∀ b p, G.own b = some p → B ≤ b ∧ b < w.heap.size ∧ p ≠ .none
  hw : ∀ b, w.heap.size ≤ b → G.hw b = 0
  blk : ∀ d s, box? mem d s = none → G.blk d s = none
  box : ∀ d s cs, box? mem d s = some cs → ∃ b vs T fz, BoxRep P B w G d s cs b vs T fz
  inj : ∀ d s d' s' b, G.blk d s = some b → G.blk d' s' = some b → d = d' ∧ s = s'
  glob : GlobOK W0.K.gl w G.hw

structure Fr (P : Program) (w : World) (G : Gh) (d : Nat) (tmps : List AV) (t : Array Value) : Prop where
  len : t.size = tmps.length
  rep : ∀ i, ARep P w G (.tmp d i) (nthD .any tmps i) (t.getD i undef)

structure Sim (P : Program) (B : Nat) (W0 : Base) (d : Nat) (σ : St) (a : Act) (w : World) (G : Gh) : Prop where
  mem : Mem P B W0 w G σ.mem
  depth : σ.mem.length = d + 1
  fr : Fr P w G d σ.tmps a.tmps
  cfg : σ.K = W0.K
  defers : a.defers = []

/-- what a stretch of code at depth d does to its callers' world -/
structure Keeps (B d : Nat) (w w' : World) (G G' : Gh) : Prop where
  keep : Keep w w' G.hw G'.hw
  own : ∀ b d' i, d' < d → G.own b = some (.tmp d' i) → G'.own b = some (.tmp d' i) ∧ G'.hw b = G.hw b ∧ w'.heap[b]? = w.heap[b]?
  blk : ∀ d' s b, d' < d → G.blk d' s = some b → G'.blk d' s = some b
  below : Below B w w'
  low : ∀ b, b < B → G'.hw b = G.hw b
theorem Keeps.refl (B d : Nat) (w : World) (G : Gh) : Keeps B d w w G G :=
  ⟨Keep.refl _ _, fun _ _ _ _ h => ⟨h, rfl, rfl⟩, fun _ _ _ _ h => h, Below.refl _ _, fun _ _ => rfl⟩
theorem Keeps.trans {B d : Nat} {a b c : World} {G H I : Gh} (x : Keeps B d a b G H) (y : Keeps B d b c H I) : Keeps B d a c G I := by
  refine ⟨x.keep.trans y.keep, fun k d' i hd h => ?_, fun d' s b hd h => y.blk d' s b hd (x.blk d' s b hd h), x.below.trans y.below, fun k hk => (y.low k hk).trans (x.low k hk)⟩
  obtain ⟨h1, h2, h3⟩ := x.own k d' i hd h
  obtain ⟨h4, h5, h6⟩ := y.own k d' i hd h1
  exact ⟨h4, h5.trans h2, h6.trans h3⟩
theorem Keeps.mono {B d d' : Nat} {w w' : World} {G G' : Gh} (x : Keeps B d w w' G G') (h : d' ≤ d) : Keeps B d' w w' G G' :=
  ⟨x.keep, fun b e i he hb => x.own b e i (by omega) hb, fun e s b he => x.blk e s b (by omega), x.below, x.low⟩

theorem Mem.noNone {B : Nat} {W0 : Base} {w : World} {G : Gh} {mem : MemT} (M : Mem P B W0 w G mem) (b : Nat) : G.own b ≠ some .none := fun h => (M.own b _ h).2.2 rfl
theorem Mem.same_none {B : Nat} {W0 : Base} {w w' : World} {G G' : Gh} {mem : MemT} (M : Mem P B W0 w G mem) (k : Keep w w' G.hw G'.hw) (bl : ∀ d s b, G.blk d s = some b → G'.blk d s = some b) : Same .none w w' G G' :=
  ⟨k, bl, fun b h => (M.noNone b h).elim⟩
/-- the block of a variable in memory is nobody's to grow, and nothing in it is published -/
theorem Mem.blk_box {B : Nat} {W0 : Base} {w : World} {G : Gh} {mem : MemT} (M : Mem P B W0 w G mem) {d s b : Nat} (h : G.blk d s = some b) :
    ∃ cs vs T fz, box? mem d s = some cs ∧ BoxRep P B w G d s cs b vs T fz := by
  cases hb : box? mem d s with
  | none => rw [M.blk d s hb] at h; cases h
  | some cs =>
    obtain ⟨b', vs, T, fz, hr⟩ := M.box d s cs hb
    have := hr.blk.symm.trans h
    simp at this
    subst this
    exact ⟨cs, vs, T, fz, rfl, hr⟩

/-! executing a tree -/
theorem M.exec_bind {α β γ : Type} {call : FuncId → List CV → Option CV} {σ : St} {f : α → M β} {k : β → List Loc → Option γ} :
    ∀ (m : M α) (acc : List Loc), (m.bind f).exec call σ acc k = m.exec call σ acc fun a acc' => (f a).exec call σ acc' k
  | .ret a, acc => rfl
  | .get l g, acc => by simp only [M.bind, M.exec]; rw [M.exec_bind (g (σ.get l))]
  | .free d s m, acc => by simp only [M.bind, M.exec]; rw [M.exec_bind m]
  | .chk b m, acc => by simp only [M.bind, M.exec]; rw [M.exec_bind m]
  | .br b t e, acc => by simp only [M.bind, M.exec]; rw [M.exec_bind t, M.exec_bind e]
  | .opt o g, acc => by
    simp only [M.bind, M.exec]
    cases o with
    | none => rfl
    | some x => simp only [optO]; exact M.exec_bind (g x) _
  | .call h as g, acc => by
    simp only [M.bind, M.exec]
    cases call h as with
    | none => rfl
    | some x => simp only [optO]; exact M.exec_bind (g x) _
  | .fail, acc => rfl
theorem M.exec_bind' {α β γ : Type} {call : FuncId → List CV → Option CV} {σ : St} {f : α → M β} {k : β → List Loc → Option γ} (m : M α) (acc : List Loc) :
    (m >>= f).exec call σ acc k = m.exec call σ acc fun a acc' => (f a).exec call σ acc' k := M.exec_bind m acc

theorem chkO_some {β : Type} {b : Bool} {k : Option β} {r : β} (h : chkO b k = some r) : b = true ∧ k = some r := by
  cases b <;> simp [chkO] at h ⊢; exact h
theorem optO_some {α β : Type} {o : Option α} {k : α → Option β} {r : β} (h : optO o k = some r) : ∃ x, o = some x ∧ k x = some r := by
  cases o with
  | none => simp [optO] at h
  | some x => exact ⟨x, rfl, h⟩
end Go.Am
