/- How the abstract machine's values stand for values and memory of the model. Conditions: none; definitions and laws on them. -/
import Derived.Test.YtiffhngfneikoaaDoorAm
import Derived.Below
namespace Go.Am
open Go.RowKit

abbrev cellA (b o : Nat) : Addr := ⟨b, o, none⟩

/-- h: of each block, so many cells are never written again -/
abbrev Hw := Nat → Nat

mutual
def CRep (w : World) (h : Hw) : CV → Value → Prop
  | .int k n, v => v = .int k n
  | .bool b, v => v = .bool b
  | .str s, v => v = .string ⟨s.toArray⟩
  | .list isnil l, v => (isnil = true ∧ l = [] ∧ v = .slice none 0 0) ∨
      (isnil = false ∧ ∃ b off cap es, v = .slice (some (cellA b off)) l.length cap ∧ l.length ≤ cap ∧ (∀ c ∈ l, c.length = es) ∧ off + l.length * es ≤ h b ∧ CRepLL w h b off l)
  | .agg cs, v => ∃ vs : List Value, v = .agg vs.toArray ∧ CRepV w h cs vs
  | .tup cs, v => ∃ vs : List Value, v = .tuple vs.toArray ∧ CRepT w h cs vs
  | .fn f, v => v = .func (.func f) #[] #[]
  | .nilfn, v => v = .nilFunc
  | .nilptr, v => v = .pointer none
  | .nilif, v => v = .nilIface
  | .err, v => ∃ t x, v = .iface t x
/-- cells of a struct value -/
def CRepV (w : World) (h : Hw) : List CV → List Value → Prop
  | [], vs => vs = []
  | c :: cs, vs => ∃ v r, vs = v :: r ∧ v.oneCell' = true ∧ CRep w h c v ∧ CRepV w h cs r
/-- parts of a tuple -/
def CRepT (w : World) (h : Hw) : List CV → List Value → Prop
  | [], vs => vs = []
  | c :: cs, vs => ∃ v r, vs = v :: r ∧ CRep w h c v ∧ CRepT w h cs r
/-- cells in memory -/
def CRepC (w : World) (h : Hw) (b : Nat) : (off : Nat) → List CV → Prop
  | _, [] => True
  | off, c :: cs => (∃ v, w.cell? (cellA b off) = some v ∧ v.oneCell' = true ∧ CRep w h c v) ∧ CRepC w h b (off + 1) cs
/-- elements in memory -/
def CRepLL (w : World) (h : Hw) (b : Nat) : (off : Nat) → List (List CV) → Prop
  | _, [] => True
  | off, c :: r => CRepC w h b off c ∧ CRepLL w h b (off + c.length) r
end

/-- what a block is a row of -/
def elemAt (w : World) (b : Nat) : Option TypeId := (w.shape? b).map (·.1)
theorem elemAt_heap {w w' : World} {b : Nat} (h : w'.heap[b]? = w.heap[b]?) : elemAt w' b = elemAt w b := by
  simp [elemAt, World.shape?, h]
theorem elemAt_lt {w : World} {b : Nat} {e : TypeId} (h : elemAt w b = some e) : b < w.heap.size := by
  refine Decidable.byContradiction fun hn => ?_
  simp [elemAt, World.shape?, Array.getElem?_eq_none (Nat.le_of_not_lt hn)] at h
/-- what lies below the mark is as it was, and the mark has not sunk -/
structure Keep (w w' : World) (h h' : Hw) : Prop where
  mark : ∀ b, h b ≤ h' b
  cell : ∀ b o, o < h b → w'.cell? (cellA b o) = w.cell? (cellA b o)
  elem : ∀ b e, elemAt w b = some e → elemAt w' b = some e
theorem Keep.refl (w : World) (h : Hw) : Keep w w h h := ⟨fun _ => Nat.le_refl _, fun _ _ _ => rfl, fun _ _ h => h⟩
theorem Keep.trans {a b c : World} {h i j : Hw} (x : Keep a b h i) (y : Keep b c i j) : Keep a c h j :=
  ⟨fun k => Nat.le_trans (x.mark k) (y.mark k), fun k o ho => (y.cell k o (Nat.lt_of_lt_of_le ho (x.mark k))).trans (x.cell k o ho), fun b e he => y.elem b e (x.elem b e he)⟩

theorem sum_len {es : Nat} : ∀ {l : List (List CV)}, (∀ c ∈ l, c.length = es) → (l.map List.length).sum = l.length * es
  | [], _ => by simp
  | c :: r, h => by
    have h1 := h c (by simp)
    have h2 := sum_len (l := r) fun c hc => h c (by simp [hc])
    simp [h1, h2, Nat.add_mul]; omega

mutual
theorem CRep.keep {w w' : World} {h h' : Hw} (K : Keep w w' h h') : ∀ (c : CV) {v : Value}, CRep w h c v → CRep w' h' c v
  | .int .., _, x => by simpa [CRep] using x
  | .bool .., _, x => by simpa [CRep] using x
  | .str .., _, x => by simpa [CRep] using x
  | .fn .., _, x => by simpa [CRep] using x
  | .nilfn, _, x => by simpa [CRep] using x
  | .nilptr, _, x => by simpa [CRep] using x
  | .nilif, _, x => by simpa [CRep] using x
  | .err, _, x => by simpa [CRep] using x
  | .list isnil l, v, x => by
    simp only [CRep] at x ⊢
    rcases x with x | ⟨h1, b, off, cap, es, h2, h3, h4, h5, h6⟩
    · exact .inl x
    · refine .inr ⟨h1, b, off, cap, es, h2, h3, h4, Nat.le_trans h5 (K.mark b), ?_⟩
      exact CRepLL.keep K l (by rw [sum_len h4]; exact h5) h6
  | .agg cs, v, x => by
    simp only [CRep] at x ⊢
    obtain ⟨vs, h1, h2⟩ := x
    exact ⟨vs, h1, CRepV.keep K cs h2⟩
  | .tup cs, v, x => by
    simp only [CRep] at x ⊢
    obtain ⟨vs, h1, h2⟩ := x
    exact ⟨vs, h1, CRepT.keep K cs h2⟩
theorem CRepV.keep {w w' : World} {h h' : Hw} (K : Keep w w' h h') : ∀ (cs : List CV) {vs : List Value}, CRepV w h cs vs → CRepV w' h' cs vs
  | [], _, x => by simpa [CRepV] using x
  | c :: cs, vs, x => by
    simp only [CRepV] at x ⊢
    obtain ⟨v, r, h1, h2, h3, h4⟩ := x
    exact ⟨v, r, h1, h2, CRep.keep K c h3, CRepV.keep K cs h4⟩
theorem CRepT.keep {w w' : World} {h h' : Hw} (K : Keep w w' h h') : ∀ (cs : List CV) {vs : List Value}, CRepT w h cs vs → CRepT w' h' cs vs
  | [], _, x => by simpa [CRepT] using x
  | c :: cs, vs, x => by
    simp only [CRepT] at x ⊢
    obtain ⟨v, r, h1, h3, h4⟩ := x
    exact ⟨v, r, h1, CRep.keep K c h3, CRepT.keep K cs h4⟩
theorem CRepC.keep {w w' : World} {h h' : Hw} (K : Keep w w' h h') {b : Nat} : ∀ (cs : List CV) {off : Nat}, off + cs.length ≤ h b → CRepC w h b off cs → CRepC w' h' b off cs
  | [], _, _, _ => by simp [CRepC]
  | c :: cs, off, hb, x => by
    simp only [CRepC] at x ⊢
    obtain ⟨⟨v, h1, h2, h3⟩, h4⟩ := x
    simp only [List.length_cons] at hb
    exact ⟨⟨v, by rw [K.cell b off (by omega)]; exact h1, h2, CRep.keep K c h3⟩, CRepC.keep K cs (by omega) h4⟩
theorem CRepLL.keep {w w' : World} {h h' : Hw} (K : Keep w w' h h') {b : Nat} : ∀ (l : List (List CV)) {off : Nat}, off + (l.map List.length).sum ≤ h b → CRepLL w h b off l → CRepLL w' h' b off l
  | [], _, _, _ => by simp [CRepLL]
  | c :: r, off, hb, x => by
    simp only [CRepLL] at x ⊢
    simp only [List.map_cons, List.sum_cons] at hb
    exact ⟨CRepC.keep K c (by omega) x.1, CRepLL.keep K r (by omega) x.2⟩
end

/-! elements -/
theorem CRepLL.get {w : World} {h : Hw} {b es : Nat} : ∀ {l : List (List CV)} {off : Nat}, (∀ c ∈ l, c.length = es) → CRepLL w h b off l →
    ∀ {i : Nat} {c : List CV}, l[i]? = some c → CRepC w h b (off + i * es) c
  | [], _, _, _, i, c, hi => by simp at hi
  | x :: r, off, hl, hx, i, c, hi => by
    simp only [CRepLL] at hx
    cases i with
    | zero => simp at hi; subst hi; simpa using hx.1
    | succ i =>
      have h1 := hl x (by simp)
      have := CRepLL.get (l := r) (fun c hc => hl c (by simp [hc])) hx.2 (i := i) (by simpa using hi)
      rw [h1] at this
      rw [Nat.add_mul, Nat.one_mul]
      have e : off + (i * es + es) = off + es + i * es := by omega
      rw [e]; exact this
theorem CRepC.get {w : World} {h : Hw} {b : Nat} : ∀ {cs : List CV} {off : Nat}, CRepC w h b off cs → ∀ {i : Nat} {c : CV}, cs[i]? = some c →
    ∃ v, w.cell? (cellA b (off + i)) = some v ∧ v.oneCell' = true ∧ CRep w h c v
  | [], _, _, i, c, hi => by simp at hi
  | x :: r, off, hx, i, c, hi => by
    simp only [CRepC] at hx
    cases i with
    | zero => simp at hi; subst hi; simpa using hx.1
    | succ i =>
      have := CRepC.get (cs := r) hx.2 (i := i) (by simpa using hi)
      have e : off + (i + 1) = off + 1 + i := by omega
      rw [e]; exact this
theorem CRepLL.append {w : World} {h : Hw} {b : Nat} : ∀ {l r : List (List CV)} {off : Nat}, CRepLL w h b off l → CRepLL w h b (off + (l.map List.length).sum) r → CRepLL w h b off (l ++ r)
  | [], r, off, _, hr => by simpa using hr
  | x :: l, r, off, hl, hr => by
    simp only [CRepLL, List.cons_append] at hl ⊢
    refine ⟨hl.1, CRepLL.append hl.2 ?_⟩
    simp only [List.map_cons, List.sum_cons] at hr
    rw [Nat.add_assoc]; exact hr
theorem CRepLL.drop {w : World} {h : Hw} {b : Nat} : ∀ (n : Nat) {l : List (List CV)} {off : Nat}, CRepLL w h b off l → CRepLL w h b (off + ((l.take n).map List.length).sum) (l.drop n)
  | 0, l, off, hl => by simpa using hl
  | n + 1, [], off, hl => by simp [CRepLL]
  | n + 1, x :: l, off, hl => by
    simp only [CRepLL] at hl
    have := CRepLL.drop n hl.2
    simp only [List.take_succ_cons, List.map_cons, List.sum_cons, List.drop_succ_cons]
    rw [← Nat.add_assoc]; exact this
theorem CRepLL.take {w : World} {h : Hw} {b : Nat} : ∀ (n : Nat) {l : List (List CV)} {off : Nat}, CRepLL w h b off l → CRepLL w h b off (l.take n)
  | 0, l, off, hl => by simp [CRepLL]
  | n + 1, [], off, hl => by simp [CRepLL]
  | n + 1, x :: l, off, hl => by
    simp only [CRepLL, List.take_succ_cons] at hl ⊢
    exact ⟨hl.1, CRepLL.take n hl.2⟩

theorem CRepV.length {w : World} {h : Hw} : ∀ {cs : List CV} {vs : List Value}, CRepV w h cs vs → vs.length = cs.length
  | [], vs, x => by simp [CRepV] at x; simp [x]
  | c :: cs, vs, x => by
    simp only [CRepV] at x
    obtain ⟨v, r, rfl, _, _, h4⟩ := x
    simp [CRepV.length h4]
theorem CRepV.get {w : World} {h : Hw} : ∀ {cs : List CV} {vs : List Value}, CRepV w h cs vs → ∀ {i : Nat} {c : CV}, cs[i]? = some c →
    ∃ v, vs[i]? = some v ∧ v.oneCell' = true ∧ CRep w h c v
  | [], _, _, i, c, hi => by simp at hi
  | x :: r, vs, hx, i, c, hi => by
    simp only [CRepV] at hx
    obtain ⟨v, s, rfl, h2, h3, h4⟩ := hx
    cases i with
    | zero => simp at hi; subst hi; exact ⟨v, by simp, h2, h3⟩
    | succ i => simpa using CRepV.get h4 (i := i) (by simpa using hi)
theorem CRepT.length {w : World} {h : Hw} : ∀ {cs : List CV} {vs : List Value}, CRepT w h cs vs → vs.length = cs.length
  | [], vs, x => by simp [CRepT] at x; simp [x]
  | c :: cs, vs, x => by
    simp only [CRepT] at x
    obtain ⟨v, r, rfl, _, h4⟩ := x
    simp [CRepT.length h4]
theorem CRepT.get {w : World} {h : Hw} : ∀ {cs : List CV} {vs : List Value}, CRepT w h cs vs → ∀ {i : Nat} {c : CV}, cs[i]? = some c →
    ∃ v, vs[i]? = some v ∧ CRep w h c v
  | [], _, _, i, c, hi => by simp at hi
  | x :: r, vs, hx, i, c, hi => by
    simp only [CRepT] at hx
    obtain ⟨v, s, rfl, h3, h4⟩ := hx
    cases i with
    | zero => simp at hi; subst hi; exact ⟨v, by simp, h3⟩
    | succ i => simpa using CRepT.get h4 (i := i) (by simpa using hi)
/-- a value that fills one cell -/
theorem CRep.oneCell {w : World} {h : Hw} {c : CV} {v : Value} (x : CRep w h c v) (hc : c.isCell = true) : v.oneCell' = true := by
  cases c with
  | agg _ => simp [CV.isCell] at hc
  | tup _ => simp [CV.isCell] at hc
  | list isnil l => simp only [CRep] at x; rcases x with ⟨_, _, rfl⟩ | ⟨_, _, _, _, _, rfl, _⟩ <;> rfl
  | err => simp only [CRep] at x; obtain ⟨_, _, rfl⟩ := x; rfl
  | _ => simp only [CRep] at x; subst x; rfl

/-! the call's own memory -/
inductive Place where
  | tmp (d i : Nat)
  | cell (d s o : Nat)
  | none
  deriving DecidableEq

structure Gh where
  /-- the block of a variable in memory -/
  blk : Nat → Nat → Option Nat
  hw : Hw
  /-- who may grow into a block's spare cells -/
  own : Nat → Option Place

/-- the spare cells of a block of the call's own -/
def Spare (P : Program) (w : World) (G : Gh) (p : Place) (e : TypeId) (b off n cap : Nat) : Prop :=
  G.own b = some p ∧ off = 0 ∧ n * P.cellsOf e = G.hw b ∧ cap ≤ maxLen ∧ ∃ cur, w.heap[b]? = some (.cells cur e (0, 0)) ∧ cur.size = cap * P.cellsOf e

/-- where a call begins: its world, and what is known of the program beside its text -/
structure Base where
  W : World
  K : Cfg
/-- what package-level variables hold lies in memory that is never written again -/
def GlobOK (gl : Nat → Option (List CV)) (w : World) (h : Hw) : Prop := ∀ g cs, gl g = some cs → cs.length ≤ h g ∧ CRepC w h g 0 cs
theorem GlobOK.keep {gl : Nat → Option (List CV)} {w w' : World} {h h' : Hw} (K : Keep w w' h h') (x : GlobOK gl w h) : GlobOK gl w' h' :=
  fun g cs e => ⟨Nat.le_trans (x g cs e).1 (K.mark g), CRepC.keep K cs (by have := (x g cs e).1; omega) (x g cs e).2⟩

variable (P : Program)
mutual
def ARep (w : World) (G : Gh) (p : Place) : AV → Value → Prop
  | .any, _ => True
  | .undef, v => v = Go.undef
  | .val c, v => CRep w G.hw c v
  | .lst own isnil e l, v => (isnil = true ∧ l = [] ∧ v = .slice none 0 0) ∨
      (isnil = false ∧ ∃ b off cap, v = .slice (some (cellA b off)) l.length cap ∧ l.length ≤ cap ∧ (∀ c ∈ l, c.length = P.cellsOf e) ∧ off + l.length * P.cellsOf e ≤ G.hw b ∧
        CRepLL w G.hw b off l ∧ (own = false ∧ cap = l.length ∨ own = true ∧ Spare P w G p e b off l.length cap))
  | .ptr d s off, v => ∃ b, G.blk d s = some b ∧ v = .pointer (some (cellA b off))
  | .cptr c off, v => ∃ b o, v = .pointer (some (cellA b (o + off))) ∧ o + c.length ≤ G.hw b ∧ CRepC w G.hw b o c
  | .clo f caps, v => ∃ vs : List Value, v = .func (.func f) #[] vs.toArray ∧ ARepL w G caps vs
  | .agg cs, v => ∃ vs : List Value, v = .agg vs.toArray ∧ ARepL w G cs vs ∧ vs.all Value.oneCell' = true
  | .tup cs, v => ∃ vs : List Value, v = .tuple vs.toArray ∧ ARepL w G cs vs
  | .bld T, v => ∃ d s b, p = .cell d s 0 ∧ G.blk d s = some b ∧ elemAt w b = some T ∧ (v = .pointer none ∨ v = .pointer (some (cellA b 0)))
  | .siter s pos, v => ∃ b, v = .pointer (some (cellA b 0)) ∧ G.own b = some p ∧ w.heap[b]? = some (.stringIter ⟨s.toArray⟩ pos)
def ARepL (w : World) (G : Gh) : List AV → List Value → Prop
  | [], vs => vs = []
  | c :: cs, vs => ∃ v r, vs = v :: r ∧ ARep w G .none c v ∧ ARepL w G cs r
end
end Go.Am
