/- Arguments that read as data stand for plain data. Conditions: as each says. -/
import Derived.Test.YtiffhngfneikoaaDoorAmFun
import Derived.ProofKit
import Derived.Carry
import Derived.ChangeArms
import Derived.HandedShaped
import Derived.Stop.Joined
import Derived.LaidMore
namespace Go.Am
open Go.RowKit

/-- the fields lie one behind the other -/
def tiled (P : Program) : List Field → Nat → Option Nat
  | [], o => some o
  | f :: r, o => if f.offset = o then tiled P r (o + P.cellsOf f.type) else none
/-- a type of plain data; sl: are slices met? -/
def plainT (P : Program) : Nat → Bool → TypeId → Bool
  | 0, _, _ => false
  | n + 1, sl, t =>
    match P.underlying t with
    | some .bool => true
    | some (.int _) => true
    | some .string => true
    | some (.slice e) => sl && P.cellsOf e != 0 && plainT P n false e
    | some (.struct fs) => tiled P fs.toList 0 == some (P.cellsOf t) && fs.toList.all fun f => plainT P n sl f.type
    | _ => false
def TyF (ty : TypeId → List CV → Prop) : List TypeId → List CV → Prop
  | [], l => l = []
  | t :: ts, l => ∃ p r, l = p ++ r ∧ ty t p ∧ TyF ty ts r
/-- what values of a type are, cell by cell -/
def Ty (P : Program) : Nat → TypeId → List CV → Prop
  | 0, _, _ => False
  | n + 1, t, l =>
    match P.underlying t with
    | some .bool => ∃ b, l = [.bool b]
    | some (.int k) => ∃ z, l = [.int k z] ∧ k.min ≤ z ∧ z ≤ k.max
    | some .string => ∃ s : List UInt8, l = [.str s] ∧ s.length ≤ reachBytes
    | some (.slice e) => ∃ nl xs, l = [.list nl xs] ∧ (nl = true → xs = []) ∧ xs.length * P.bytesOf e ≤ reachBytes ∧ ∀ x ∈ xs, Ty P n e x
    | some (.struct fs) => TyF (Ty P n) (fs.toList.map (·.type)) l
    | _ => False

section
variable {H : Type} {enc : TypeId × Value → H} {P : Program} {W : World} {h : Hw}

theorem weightsAll_mem {e : TypeId} {d : DataW H} {y : Nat} : ∀ {l : List (DataW H)}, d ∈ l → y ∈ d.weights P e → y ∈ DataW.weightsAll P e l
  | [], h, _ => by cases h
  | x :: l, hd, hy => by
    unfold DataW.weightsAll
    rcases List.mem_cons.1 hd with rfl | hd
    · exact List.mem_append_left _ hy
    · exact List.mem_append_right _ (weightsAll_mem hd hy)
theorem weightsEach_mem {d : DataW H} {t : TypeId} {y : Nat} : ∀ {ts : List TypeId} {l : List (DataW H)} {i : Nat}, ts[i]? = some t → l[i]? = some d → y ∈ d.weights P t → y ∈ DataW.weightsEach P ts l
  | [], _, _, h, _, _ => by simp at h
  | _ :: _, [], _, _, h, _ => by simp at h
  | t' :: ts, x :: l, i, ht, hl, hy => by
    unfold DataW.weightsEach
    cases i with
    | zero =>
      simp only [List.getElem?_cons_zero, Option.some.injEq] at ht hl
      subst ht; subst hl
      exact List.mem_append_left _ hy
    | succ i => exact List.mem_append_right _ (weightsEach_mem (by simpa using ht) (by simpa using hl) hy)

theorem crepC_mk {b : Nat} : ∀ {c : List CV} {us : List Value} {off : Nat}, CRepV W h c us → (∀ (j : Nat) u, us[j]? = some u → W.cell? (cellA b (off + j)) = some u) → CRepC W h b off c
  | [], _, _, _, _ => by simp [CRepC]
  | c :: cs, us, off, hr, hc => by
    simp only [CRepV] at hr
    obtain ⟨v, r, rfl, h1, h2, h3⟩ := hr
    simp only [CRepC]
    refine ⟨⟨v, by simpa using hc 0 v rfl, h1, h2⟩, crepC_mk h3 fun j u hj => ?_⟩
    have := hc (j + 1) u (by simpa using hj)
    rw [show off + 1 + j = off + (j + 1) by omega]
    exact this
theorem crepLL_mk {b es : Nat} : ∀ {xs : List (List CV)} {off : Nat}, (∀ (i : Nat) c, xs[i]? = some c → ∃ us : List Value, us.length = es ∧ CRepV W h c us ∧ ∀ (j : Nat) u, us[j]? = some u → W.cell? (cellA b (off + i * es + j)) = some u) →
    CRepLL W h b off xs
  | [], _, _ => by simp [CRepLL]
  | c :: xs, off, hx => by
    simp only [CRepLL]
    obtain ⟨us, h1, h2, h3⟩ := hx 0 c rfl
    refine ⟨crepC_mk h2 fun j u hj => by simpa using h3 j u hj, ?_⟩
    have hl : c.length = es := by rw [← h1]; exact (CRepV.length h2).symm
    rw [hl]
    refine crepLL_mk (es := es) fun i c' hi => ?_
    obtain ⟨us', q1, q2, q3⟩ := hx (i + 1) c' (by simpa using hi)
    refine ⟨us', q1, q2, fun j u hj => ?_⟩
    have := q3 j u hj
    rw [show off + es + i * es + j = off + (i + 1) * es + j by rw [Nat.add_mul]; omega]
    exact this

/-- the bound on addresses of empty slices -/
def Near (h : Hw) (cs : List Value) : Prop := ∀ v ∈ cs, ∀ a len cap, v = Value.slice (some a) len cap → a.spot = none ∧ a.off ≤ h a.block

theorem fields_in {ty : TypeId → List CV → Prop} {cs : List Value} : ∀ {fs : List Field} {o : Nat}, tiled P fs o = some cs.length → o ≤ cs.length →
    (∀ f ∈ fs, ∃ l, ty f.type l ∧ CRepV W h l ((cs.drop f.offset).take (P.cellsOf f.type))) → ∃ l, TyF ty (fs.map (·.type)) l ∧ CRepV W h l (cs.drop o)
  | [], o, ht, _, _ => by
    simp only [tiled, Option.some.injEq] at ht
    subst ht
    exact ⟨[], rfl, by simp [CRepV]⟩
  | f :: fs, o, ht, ho, hf => by
    unfold tiled at ht
    split at ht
    · rename_i e
      subst e
      have hle : ∀ {fs : List Field} {a b : Nat}, tiled P fs a = some b → a ≤ b := by
        intro fs
        induction fs with
        | nil => intro a b h; simp only [tiled, Option.some.injEq] at h; omega
        | cons g gs ih =>
          intro a b h
          unfold tiled at h
          split at h
          · have := ih h; omega
          · cases h
      obtain ⟨l1, h1, h2⟩ := hf f (by simp)
      obtain ⟨l2, h3, h4⟩ := fields_in ht (hle ht) fun g hg => hf g (by simp [hg])
      refine ⟨l1 ++ l2, ⟨l1, l2, rfl, h1, h3⟩, ?_⟩
      have e2 : cs.drop f.offset = (cs.drop f.offset).take (P.cellsOf f.type) ++ cs.drop (f.offset + P.cellsOf f.type) := by
        rw [← List.drop_drop, List.take_append_drop]
      rw [e2]
      exact h2.append h4
    · cases ht

theorem trod_in (hh : ∀ b o v, W.cell? (cellA b o) = some v → o < h b) : ∀ (n : Nat) (sl : Bool) (t : TypeId) (m : Nat) (cs : List Value) (x : DataW H × List MemPlace), plainT P n sl t = true →
    DataW.trod enc P W 0 (fun _ => true) true m t cs = some x → (∀ y ∈ x.1.weights P t, y ≤ reachBytes) → (sl = true → Near h cs) → ∃ l, Ty P n t l ∧ CRepV W h l cs
  | 0, _, _, _, _, _, hp, _, _, _ => by cases hp
  | n + 1, sl, t, m, cs, x, hp, ht, hw, hn => by
    unfold plainT at hp
    unfold Ty
    cases hu : P.underlying t with
    | none => rw [hu] at hp; cases hp
    | some d =>
      rw [hu] at hp
      cases d with
      | bool =>
        obtain ⟨b, rfl, rfl⟩ := DataW.trod_bool hu ht
        exact ⟨[.bool b], ⟨b, rfl⟩, by simp only [CRepV, CRep]; exact ⟨_, _, rfl, rfl, rfl, rfl⟩⟩
      | int k =>
        obtain ⟨z, rfl, rfl, hz⟩ := DataW.trod_int hu ht
        simp only [Lit.wf, Bool.and_eq_true, decide_eq_true_eq] at hz
        exact ⟨[.int k z], ⟨z, rfl, hz.1, hz.2⟩, by simp only [CRepV, CRep]; exact ⟨_, _, rfl, rfl, rfl, rfl⟩⟩
      | string =>
        obtain ⟨s, rfl, rfl, hs⟩ := DataW.trod_string hu ht
        exact ⟨[.str s.data.toList], ⟨s.data.toList, rfl, hw _ (by simp [DataW.weights])⟩, by simp only [CRepV, CRep]; exact ⟨_, _, rfl, rfl, rfl, rfl⟩⟩
      | slice e =>
        simp only [Bool.and_eq_true, bne_iff_ne, ne_eq] at hp
        obtain ⟨⟨hsl, hc0⟩, hpe⟩ := hp
        rcases DataW.trod_slice hu ht with ⟨rfl, rfl⟩ | ⟨a, len, cap, elems, rest, m', rfl, rfl, rfl, hb, hl, hm, hlen, hel, hsp, hns⟩
        · exact ⟨[.list true []], ⟨true, [], rfl, fun _ => rfl, by simp, fun x hx => by cases hx⟩, by simp only [CRepV, CRep]; exact ⟨_, _, rfl, rfl, .inl ⟨trivial, trivial, rfl⟩, rfl⟩⟩
        · obtain ⟨hspot, hoff⟩ := hn hsl (.slice (some a) len cap) (by simp) a len cap rfl
          obtain ⟨b, off, rfl⟩ : ∃ b off, a = cellA b off := by
            obtain ⟨bl, of, sp⟩ := a
            simp only at hspot
            subst hspot
            exact ⟨bl, of, rfl⟩
          have hoff : off ≤ h b := hoff
          have each : ∀ i : Fin len, ∃ l, Ty P n e l ∧ ∃ us : List Value, us.length = P.cellsOf e ∧ CRepV W h l us ∧ ∀ (j : Nat) u, us[j]? = some u → W.cell? (cellA b (off + i.1 * P.cellsOf e + j)) = some u := by
            intro i
            have hi : i.1 < elems.length := by rw [hlen]; exact i.2
            have hb' := hel i.1 i.2
            rw [List.getElem?_eq_getElem hi, Option.bind_eq_some_iff] at hb'
            obtain ⟨us, hus, hy⟩ := hb'
            obtain ⟨_, r1, r2⟩ := World.cells?_some hus
            obtain ⟨l, q1, q2⟩ := trod_in hh n false e m' us _ hpe hy (fun y hy' => hw y (by
              unfold DataW.weights
              rw [hu]
              exact List.mem_cons_of_mem _ (List.mem_append_left _ (weightsAll_mem (List.mem_map.2 ⟨_, List.getElem_mem hi, rfl⟩) hy')))) (fun q => by cases q)
            refine ⟨l, q1, us, r1, q2, fun j u hj => ?_⟩
            have := r2 j (by rw [← r1]; exact (List.getElem?_eq_some_iff.1 hj).1)
            rw [hj, add_cellA, add_cellA] at this
            exact this
          obtain ⟨F, hF⟩ : ∃ F : Fin len → List CV, ∀ i, Ty P n e (F i) ∧ ∃ us : List Value, us.length = P.cellsOf e ∧ CRepV W h (F i) us ∧ ∀ (j : Nat) u, us[j]? = some u → W.cell? (cellA b (off + i.1 * P.cellsOf e + j)) = some u :=
            ⟨fun i => Classical.choose (each i), fun i => Classical.choose_spec (each i)⟩
          clear each
          have hrep : ∀ (i : Nat) c, (List.ofFn F)[i]? = some c → ∃ us : List Value, us.length = P.cellsOf e ∧ CRepV W h c us ∧ ∀ (j : Nat) u, us[j]? = some u → W.cell? (cellA b (off + i * P.cellsOf e + j)) = some u := by
            intro i c hi
            have hlt : i < len := by have := (List.getElem?_eq_some_iff.1 hi).1; simpa using this
            rw [List.getElem?_eq_getElem (by simpa using hlt), List.getElem_ofFn, Option.some.injEq] at hi
            subst hi
            exact (hF ⟨i, hlt⟩).2
          have hlens : ∀ c ∈ List.ofFn F, c.length = P.cellsOf e := by
            intro c hc
            obtain ⟨i, hi, hci⟩ := List.getElem_of_mem hc
            obtain ⟨us, q1, q2, _⟩ := hrep i c (by rw [List.getElem?_eq_getElem hi, hci])
            rw [← q1]; exact (CRepV.length q2).symm
          refine ⟨[.list false (List.ofFn F)], ⟨false, _, rfl, fun q => (by cases q), ?_, ?_⟩, ?_⟩
          · have := hw ((elems.length + rest.length) * P.bytesOf e) (by
              unfold DataW.weights
              rw [hu]
              simp)
            refine Nat.le_trans (Nat.mul_le_mul_right _ ?_) this
            simp [hlen]
          · intro x hx
            obtain ⟨i, rfl⟩ := List.mem_ofFn.1 hx
            exact (hF i).1
          · simp only [CRepV]
            refine ⟨_, _, rfl, rfl, ?_, rfl⟩
            simp only [CRep]
            refine .inr ⟨trivial, b, off, cap, P.cellsOf e, by simp, by simpa using hl, hlens, ?_, crepLL_mk hrep⟩
            by_cases h0 : len = 0
            · subst h0; simpa using hoff
            · obtain ⟨us, q1, q2, q3⟩ := hrep (len - 1) _ (List.getElem?_eq_getElem (by simp; omega))
              have hj : P.cellsOf e - 1 < us.length := by omega
              have := hh _ _ _ (q3 (P.cellsOf e - 1) _ (List.getElem?_eq_getElem hj))
              simp only [List.length_ofFn]
              have e1 : len * P.cellsOf e = (len - 1) * P.cellsOf e + P.cellsOf e := by
                rw [← Nat.succ_mul]; congr 1; omega
              omega
      | struct fs =>
        simp only [Bool.and_eq_true, beq_iff_eq, List.all_eq_true] at hp
        obtain ⟨hti, hpf⟩ := hp
        obtain ⟨xs, m', rfl, rfl, hlen, hxs, hf⟩ := DataW.trod_struct hu ht
        have := fields_in (P := P) (W := W) (h := h) (ty := Ty P n) (cs := cs) (fs := fs.toList) (o := 0) (by rw [hti, hlen]) (Nat.zero_le _) fun f hfm => by
          obtain ⟨i, hi, rfl⟩ := List.getElem_of_mem hfm
          have hi' : i < fs.size := by simpa using hi
          have hfi := hf i fs[i] (by simp [hi'])
          have hix : i < xs.length := by omega
          rw [List.getElem?_eq_getElem hix] at hfi
          simp only [Array.getElem_toList]
          refine trod_in hh n sl _ m' _ _ (hpf _ (by simp)) hfi (fun y hy => hw y ?_) (fun q v hv a len cap e => hn q v (List.mem_of_mem_drop (List.mem_of_mem_take hv)) a len cap e)
          unfold DataW.weights
          rw [hu]
          exact weightsEach_mem (i := i) (by simp [hi']) (by simp [hix]) hy
        simpa using this
      | _ => cases hp
end

/-! arguments -/
def ArgTy (P : Program) (t : TypeId) (c : CV) : Prop := match isAggT P t with
  | true => ∃ l, c = .agg l ∧ Ty P 8 t l
  | false => Ty P 8 t [c]
def ArgsTy (P : Program) : List TypeId → List CV → Prop
  | [], cs => cs = []
  | t :: ts, cs => ∃ c r, cs = c :: r ∧ ArgTy P t c ∧ ArgsTy P ts r
section
variable {P : Program} {n : Nat} {t : TypeId} {l : List CV} {c : CV}
theorem Ty.bool (hu : P.underlying t = some .bool) (h : Ty P (n + 1) t l) : ∃ b, l = [.bool b] := by
  unfold Ty at h; rw [hu] at h; exact h
theorem Ty.int {k : IntKind} (hu : P.underlying t = some (.int k)) (h : Ty P (n + 1) t l) : ∃ z, l = [.int k z] ∧ k.min ≤ z ∧ z ≤ k.max := by
  unfold Ty at h; rw [hu] at h; exact h
theorem Ty.str (hu : P.underlying t = some .string) (h : Ty P (n + 1) t l) : ∃ s : List UInt8, l = [.str s] ∧ s.length ≤ reachBytes := by
  unfold Ty at h; rw [hu] at h; exact h
theorem Ty.slice {e : TypeId} (hu : P.underlying t = some (.slice e)) (h : Ty P (n + 1) t l) :
    ∃ nl xs, l = [.list nl xs] ∧ (nl = true → xs = []) ∧ xs.length * P.bytesOf e ≤ reachBytes ∧ ∀ x ∈ xs, Ty P n e x := by
  unfold Ty at h; rw [hu] at h; exact h
theorem Ty.struct {fs : Array Field} {ts : List TypeId} (hu : P.underlying t = some (.struct fs)) (hts : fs.toList.map (·.type) = ts) (h : Ty P (n + 1) t l) : TyF (Ty P n) ts l := by
  unfold Ty at h; rw [hu] at h; rw [← hts]; exact h
theorem ArgTy.bool (hu : P.underlying t = some .bool) (h : ArgTy P t c) : ∃ b, c = .bool b := by
  unfold ArgTy isAggT at h; rw [hu] at h
  obtain ⟨b, e⟩ := Ty.bool hu h
  exact ⟨b, by simpa using e⟩
theorem ArgTy.int {k : IntKind} (hu : P.underlying t = some (.int k)) (h : ArgTy P t c) : ∃ z, c = .int k z ∧ k.min ≤ z ∧ z ≤ k.max := by
  unfold ArgTy isAggT at h; rw [hu] at h
  obtain ⟨z, e, h⟩ := Ty.int hu h
  exact ⟨z, by simpa using e, h⟩
theorem ArgTy.str (hu : P.underlying t = some .string) (h : ArgTy P t c) : ∃ s : List UInt8, c = .str s ∧ s.length ≤ reachBytes := by
  unfold ArgTy isAggT at h; rw [hu] at h
  obtain ⟨z, e, h⟩ := Ty.str hu h
  exact ⟨z, by simpa using e, h⟩
theorem ArgTy.slice {e : TypeId} (hu : P.underlying t = some (.slice e)) (h : ArgTy P t c) :
    ∃ nl xs, c = .list nl xs ∧ (nl = true → xs = []) ∧ xs.length * P.bytesOf e ≤ reachBytes ∧ ∀ x ∈ xs, Ty P 7 e x := by
  unfold ArgTy isAggT at h; rw [hu] at h
  obtain ⟨nl, xs, e, h⟩ := Ty.slice hu h
  exact ⟨nl, xs, by simpa using e, h⟩
theorem ArgTy.struct {fs : Array Field} {ts : List TypeId} (hu : P.underlying t = some (.struct fs)) (hts : fs.toList.map (·.type) = ts) (h : ArgTy P t c) : ∃ l, c = .agg l ∧ TyF (Ty P 7) ts l := by
  unfold ArgTy isAggT at h; rw [hu] at h
  obtain ⟨l, e, h⟩ := h
  exact ⟨l, e, Ty.struct hu hts h⟩
theorem ArgsTy.cons {ts : List TypeId} {cs : List CV} (h : ArgsTy P (t :: ts) cs) : ∃ c r, cs = c :: r ∧ ArgTy P t c ∧ ArgsTy P ts r := h
theorem ArgsTy.nil {cs : List CV} (h : ArgsTy P [] cs) : cs = [] := h
end
/-- marks above all cells, and above the bound -/
def hw0 (W : World) (M : Nat) : Hw := fun b => if b < W.heap.size then M + (match W.heap[b]? with | some (.cells c _ _) => c.size | _ => 0) else 0
theorem hw0_out {W : World} {M : Nat} (b : Nat) (h : W.heap.size ≤ b) : hw0 W M b = 0 := by
  unfold hw0
  rw [if_neg (by omega)]
theorem hw0_near {W : World} {M b : Nat} (h : b < W.heap.size) : M ≤ hw0 W M b := by
  unfold hw0
  rw [if_pos h]
  omega
theorem hw0_cell {W : World} {M : Nat} (b o : Nat) (v : Value) (h : W.cell? (cellA b o) = some v) : o < hw0 W M b := by
  unfold World.cell? at h
  split at h
  · rename_i c e fz hb
    have hlt : b < W.heap.size := (Array.getElem?_eq_some_iff.1 hb).1
    have hb : W.heap[b]? = some (.cells c e fz) := hb
    unfold hw0
    rw [if_pos hlt, hb]
    simp only [Option.isSome_none, Bool.false_eq_true, if_false] at h
    have := (Array.getElem?_eq_some_iff.1 h).1
    simp only
    omega
  · cases h
def offOf : Value → Nat
  | .slice (some a) _ _ => a.off
  | _ => 0
def offs (vs : List Value) : Nat := ((vs.flatMap fun v => v.cells.toList).map offOf).sum

section
variable {H : Type} {enc : TypeId × Value → H} {P : Program} {W : World}

theorem le_sum : ∀ {l : List Nat} {x : Nat}, x ∈ l → x ≤ l.sum
  | [], _, h => by cases h
  | y :: l, x, h => by
    rcases List.mem_cons.1 h with rfl | h
    · simp
    · have := le_sum h; simp; omega

theorem cell_near {base : Nat} {u : TypeId} {a : Addr} {len cap : Nat} (h : Cell.okWide P W .any base u (.slice (some a) len cap)) : a.spot = none ∧ a.block < W.heap.size := by
  unfold Cell.okWide at h
  split at h
  all_goals first
    | (rename_i hv; cases hv; done)
    | skip
  all_goals try (rename_i hv _; cases hv; done)
  unfold Cell.ok at h
  split at h
  all_goals first
    | (rename_i hv; cases hv; done)
    | skip
  · rename_i hv
    cases hv
    obtain ⟨_, _, _, hs, row, cells, hsh, _⟩ := h
    refine ⟨hs, ?_⟩
    refine Decidable.byContradiction fun hn => ?_
    simp [World.shape?, Array.getElem?_eq_none (Nat.le_of_not_lt hn)] at hsh
  · cases h

theorem arg_in {M base : Nat} {t : TypeId} {v : Value} {d : DataW H} {ps : List MemPlace} (hT : DataW.Trod enc P W 0 (fun _ => true) true t v d ps) (hok : Value.okWide P W .any base t v)
    (hp : plainT P 8 true t = true) (hw : ∀ y ∈ d.weights P t, y ≤ reachBytes) (hM : offs [v] ≤ M) : ∃ c, ArgTy P t c ∧ CRep W (hw0 W M) c v := by
  obtain ⟨m, hm⟩ := hT
  have hcells : ∀ x ∈ v.cells.toList, ∃ u, Cell.okWide P W .any base u x := by
    intro x hx
    unfold Value.okWide at hok
    split at hok
    · obtain ⟨cs, rfl, _, ts, _, _, hall⟩ := hok
      have hx : x ∈ cs.toList := hx
      obtain ⟨i, hi⟩ := List.mem_iff_getElem?.1 hx
      obtain ⟨u, _, hu⟩ := hall i x (by simpa using hi)
      exact ⟨u, hu⟩
    · obtain ⟨cs, rfl, _, ts, _, _, hall⟩ := hok
      have hx : x ∈ cs.toList := hx
      obtain ⟨i, hi⟩ := List.mem_iff_getElem?.1 hx
      obtain ⟨u, _, hu⟩ := hall i x (by simpa using hi)
      exact ⟨u, hu⟩
    · rename_i q1 q2
      refine ⟨t, ?_⟩
      have : v.cells.toList = [v] := by
        cases v with
        | agg cs =>
          exfalso
          unfold Cell.okWide at hok
          split at hok
          all_goals first
            | (rename_i hv; cases hv; done)
            | skip
          all_goals try (rename_i hv _; cases hv; done)
          unfold Cell.ok at hok
          split at hok
          all_goals first
            | (rename_i hv; cases hv; done)
            | exact hok
        | _ => rfl
      rw [this] at hx
      rw [List.mem_singleton.1 hx]
      exact hok
  have hnear : Near (hw0 W M) v.cells.toList := by
    intro x hx a len cap e
    subst e
    obtain ⟨u, hu⟩ := hcells _ hx
    obtain ⟨h1, h2⟩ := cell_near hu
    refine ⟨h1, Nat.le_trans ?_ (hw0_near h2)⟩
    refine Nat.le_trans ?_ hM
    have : a.off ∈ (([v].flatMap fun v => v.cells.toList).map offOf) := List.mem_map.2 ⟨_, by simpa using hx, rfl⟩
    exact le_sum this
  obtain ⟨l, h1, h2⟩ := trod_in (h := hw0 W M) hw0_cell 8 true t m _ _ hp hm hw (fun _ => hnear)
  unfold ArgTy
  cases ha : isAggT P t with
  | true =>
    have : ∃ cs, v = .agg cs := by
      unfold Value.okWide at hok
      unfold isAggT at ha
      split at hok
      · exact ⟨_, hok.choose_spec.1⟩
      · exact ⟨_, hok.choose_spec.1⟩
      · rename_i q1 q2
        split at ha
        · rename_i fs hu; exact (q1 fs hu).elim
        · rename_i n e hu; exact (q2 n e hu).elim
        · cases ha
    obtain ⟨cs, rfl⟩ := this
    refine ⟨.agg l, ⟨l, rfl, h1⟩, ?_⟩
    simp only [CRep]
    exact ⟨cs.toList, by simp, h2⟩
  | false =>
    have hone : v.cells.toList = [v] := by
      cases v with
      | agg cs =>
        exfalso
        unfold Value.okWide at hok
        unfold isAggT at ha
        split at ha
        · cases ha
        · cases ha
        rename_i q1 q2
        split at hok
        · rename_i fs hu; exact q1 fs hu
        · rename_i n e hu; exact q2 n e hu
        unfold Cell.okWide at hok
        split at hok
        all_goals first
          | (rename_i hv; cases hv; done)
          | skip
        all_goals try (rename_i hv _; cases hv; done)
        unfold Cell.ok at hok
        split at hok
        all_goals first
          | (rename_i hv; cases hv; done)
          | exact hok
      | _ => rfl
    rw [hone] at h2
    match l, h1, h2 with
    | [], _, h2 => simp [CRepV] at h2
    | [c], h1, h2 =>
      simp only [CRepV] at h2
      obtain ⟨v', r, e, _, h3, rfl⟩ := h2
      simp only [List.cons.injEq, and_true] at e
      subst e
      exact ⟨c, h1, h3⟩
    | c :: c' :: l, _, h2 =>
      simp only [CRepV] at h2
      obtain ⟨v', r, e, _, h3, v2, r2, rfl, _⟩ := h2
      simp at e

theorem args_in {M base : Nat} : ∀ {ts : List TypeId} {vs : List Value} {ds : List (DataW H)} {ps : List MemPlace}, DataW.TrodAll enc P W 0 (fun _ => true) true ts vs ds ps →
    (∀ (j : Nat) t v, ts[j]? = some t → vs[j]? = some v → Value.okWide P W .any base t v) → ts.all (plainT P 8 true) = true → (∀ y ∈ DataW.weightsEach P ts ds, y ≤ reachBytes) → offs vs ≤ M →
    ∃ cs, ArgsTy P ts cs ∧ CRepT W (hw0 W M) cs vs
  | [], [], [], _, _, _, _, _, _ => ⟨[], rfl, by simp [CRepT]⟩
  | t :: ts, v :: vs, d :: ds, ps, hT, hok, hp, hw, hM => by
    obtain ⟨p, q, h1, h2, rfl⟩ := hT
    simp only [List.all_cons, Bool.and_eq_true] at hp
    unfold DataW.weightsEach at hw
    have hM' : offs [v] + offs vs = offs (v :: vs) := by simp [offs]
    obtain ⟨c, a1, a2⟩ := arg_in (M := M) h1 (hok 0 t v rfl rfl) hp.1 (fun y hy => hw y (List.mem_append_left _ hy)) (by omega)
    obtain ⟨cs, b1, b2⟩ := args_in (M := M) h2 (fun j t v ht hv => hok (j + 1) t v (by simpa using ht) (by simpa using hv)) hp.2 (fun y hy => hw y (List.mem_append_right _ hy)) (by omega)
    refine ⟨c :: cs, ⟨c, cs, rfl, a1, b1⟩, ?_⟩
    simp only [CRepT]
    exact ⟨v, vs, rfl, a2, b2⟩
  | [], _ :: _, _, _, h, _, _, _, _ => by simp [DataW.TrodAll] at h
  | [], [], _ :: _, _, h, _, _, _, _ => by simp [DataW.TrodAll] at h
  | _ :: _, [], _, _, h, _, _, _, _ => by simp [DataW.TrodAll] at h
  | _ :: _, _ :: _, [], _, h, _, _, _, _ => by simp [DataW.TrodAll] at h

theorem trodAll_len {base : Nat} {spare : Nat → Bool} {held : Bool} : ∀ {ts : List TypeId} {vs : List Value} {ds : List (DataW H)} {ps : List MemPlace}, DataW.TrodAll enc P W base spare held ts vs ds ps → ds.length = ts.length
  | [], [], [], _, _ => rfl
  | t :: ts, v :: vs, d :: ds, _, h => by
    obtain ⟨p, q, h1, h2, rfl⟩ := h
    simp [trodAll_len h2]
  | [], _ :: _, _, _, h => by simp [DataW.TrodAll] at h
  | [], [], _ :: _, _, h => by simp [DataW.TrodAll] at h
  | _ :: _, [], _, _, h => by simp [DataW.TrodAll] at h
  | _ :: _, _ :: _, [], _, h => by simp [DataW.TrodAll] at h

/-- arguments read behind the call as they did -/
theorem args_out {W' : World} {sp : Nat → Bool} (hl : laidOutB P = true) (hb : Below W.heap.size W W') : ∀ {ts : List TypeId} {vs : List Value} {ds : List (DataW H)} {ps : List MemPlace},
    DataW.TrodAll enc P W 0 (fun _ => true) true ts vs ds ps → ts.all (fun t => P.readableRec t && decide (t < P.types.size)) = true → (∀ x ∈ ps, x.block < W.heap.size) → (∀ x ∈ ps, sp x.block = true) →
    DataW.TrodAll enc P W' 0 sp true ts vs ds ps
  | [], [], [], _, h, _, _, _ => h
  | t :: ts, v :: vs, d :: ds, ps, hT, hr, hlt, hsp => by
    obtain ⟨p, q, h1, h2, rfl⟩ := hT
    simp only [List.all_cons, Bool.and_eq_true, decide_eq_true_eq] at hr
    exact ⟨p, q, WideElems.Trod_stays hl hr.1.1 hr.1.2 h1 (fun x hx => hb.same (hlt x (List.mem_append_left _ hx))) (fun x hx => hsp x (List.mem_append_left _ hx)),
      args_out hl hb h2 hr.2 (fun x hx => hlt x (List.mem_append_right _ hx)) (fun x hx => hsp x (List.mem_append_right _ hx)), rfl⟩
  | [], _ :: _, _, _, h, _, _, _ => by simp [DataW.TrodAll] at h
  | [], [], _ :: _, _, h, _, _, _ => by simp [DataW.TrodAll] at h
  | _ :: _, [], _, _, h, _, _, _ => by simp [DataW.TrodAll] at h
  | _ :: _, _ :: _, [], _, h, _, _, _ => by simp [DataW.TrodAll] at h

open Go.ChangeShapes Go.WideShapes Go.ChangeAt in
theorem post_of_below {f : Func} {s : ChangeSpec} {apart fresh handsOn again : Bool} {W W' : World} {args : Array Value} {v : Value} {ds gs : List (DataW H)} {before pa pv : List MemPlace}
    (hW : DataW.Whole enc P f.params.toList s.vars apart W args.toList ds gs before)
    (hres : ∀ (b : Nat) (sp : Nat → Bool) (hd : Bool), DataW.TrodAll enc P W' b sp hd f.resultTypes.toList (v.resultList f.resultTypes.size) (s.fn H (ds ++ gs)).results [])
    (hargs : ∀ sp : Nat → Bool, (∀ p ∈ before, sp p.block = true) → DataW.TrodAll enc P W' 0 sp true f.params.toList args.toList (s.fn H (ds ++ gs)).args pa)
    (hvars : ∀ sp : Nat → Bool, (∀ p ∈ before, sp p.block = true) → DataW.TrodVars enc P W' sp s.vars (s.fn H (ds ++ gs)).vars pv)
    (hps : before = pa ++ pv) (hb : Below W.heap.size W W')
    (hok : ∀ (j : Nat) (t : TypeId) (r : Value), f.resultTypes[j]? = some t → (v.resultList f.resultTypes.size)[j]? = some r → Value.okWide P W' .any 0 t r) :
    s.post enc P f apart fresh handsOn again W args v W' := by
  have hlt := hW.lt
  have hold : ∀ p ∈ before, (fun b => decide (b < W.heap.size)) p.block = true := fun p hp => by simpa using hW.lt p hp
  refine ⟨ds, gs, before, [], pa, pv, hW, hres _ _ _, hargs _ hold, hvars _ hold, hb.frame _, fun _ => ?_⟩
  obtain ⟨_, _, _, _, _, hz, hn⟩ := hW
  refine ⟨hok, _, _, ([] ++ pa) ++ pv, ⟨[] ++ pa, pv, trodAll_append (hargs _ (fun _ _ => rfl)) (hres _ _ _), hvars _ (fun _ _ => rfl), rfl, ?_, ?_⟩, ?_⟩
  · intro b off hp
    have hp : MemPlace.cell b off ∈ before := by rw [hps]; simpa using hp
    rw [hb.frozen (hlt _ hp)]
    exact hz b off hp
  · intro ha
    have := hn ha
    rw [hps] at this
    simpa using this
  · intro p hp _
    rw [hps]
    simpa using hp
end

section
open Go.ChangeShapes Go.WideShapes Go.ChangeAt
variable {H : Type} {enc : TypeId × Value → H}
/-- a law of plain data is a law of the program -/
theorem lift_true {C : Checked} {os : Os} {f : FuncId} {fn : Func} {s : ChangeSpec} {conds : List PathCond} {tb : TypeId} (own : ownKnob C.prog.godebug = none) (started : os.Started) (noInit : C.prog.inits.idxOf? f = none) (hfn : C.prog.funcs[f]? = some fn)
    (witness : ∃ (w : World) (tape : Tape) (i : Input), w.os = os ∧ (w.forCall tape i).Shaped C.prog ∧ i.vars = [] ∧ Input.okWide C.prog (w.forCall tape i) .any w.heap.size f i ∧
      s.pre6 enc C.prog fn conds false (w.forCall tape i).memory i.args ∧ ({} : Assume).holds C.prog (lone (Frame.enter C.prog f i.args .normal) [] (w.forCall tape i)))
    (hl : laidOutB C.prog = true) (hplain : fn.params.toList.all (plainT C.prog 8 true) = true) (hread : fn.params.toList.all (fun t => C.prog.readableRec t && decide (t < C.prog.types.size)) = true)
    (hres : fn.resultTypes = #[tb]) (hub : C.prog.underlying tb = some .bool) (hvars : s.vars = []) (hspec : ∀ ds : List (DataW H), ds.length = fn.params.toList.length → s.fn H ds = { results := [.lit (.bool true)], args := ds })
    (law : ∀ (W : World) (M : Nat) (vs : List Value) (cs : List CV), W.ShapedOpen C.prog → ArgsTy C.prog fn.params.toList cs → CRepT W (hw0 W M) cs vs →
      Calls C.prog f vs.toArray W fun e W' => e = .returned (.bool true) ∧ Below W.heap.size W W') :
    ReturnsInHanded {} C os f .any (s.pre6 enc C.prog fn conds false) (s.post enc C.prog fn false true false false) := by
  refine returnsInHanded_of_change_shaped own started noInit hfn witness ?_
  intro W base args ds gs before hval hW hcnd hsz hsh _
  have hW' := hW
  have hlt := hW.lt
  obtain ⟨p, q, hA, hV, rfl, hfz, hnd⟩ := hW
  rw [hvars] at hV
  obtain ⟨rfl, rfl⟩ := trodVars_none hV
  have hvt : s.plain.varTypes C.prog = [] := by simp [ChangeSpec.plain, DataSpec.varTypes, hvars]
  rw [hvt] at hsz
  simp only [List.append_nil] at hsz hlt hW'
  obtain ⟨cs, h1, h2⟩ := args_in (M := offs args.toList) hA (fun j t v ht hv => hval j t v (by simpa using ht) (by simpa using hv)) hplain
    (fun y hy => by simpa using List.all_eq_true.1 hsz y hy) (Nat.le_refl _)
  have hlen := trodAll_len hA
  refine (law W _ args.toList cs hsh h1 h2).mono fun e W' ⟨he, hb⟩ => ?_
  subst he
  have hs := hspec ds hlen
  refine ⟨.bool true, rfl, post_of_below (pa := p) (pv := []) hW' (fun b sp hd => ?_) (fun sp hsp => ?_) (fun _ _ => ?_) (by simp) hb (ok_one hres rfl (okWide_bool_mk hub true))⟩
  · simp only [List.append_nil, hs, hres]
    exact trodAll_mk1 (shut_bool hub true)
  · simp only [List.append_nil, hs]
    exact args_out hl hb hA hread hlt hsp
  · simp only [List.append_nil, hs, hvars]
    rfl
/-- .. where package-level variables read as the row lists them -/
theorem lift_laid {C : Checked} {os : Os} {f : FuncId} {fn : Func} {s : ChangeSpec} {conds : List PathCond} {tb : TypeId} {laid : List (String × DataW Unit)} (own : ownKnob C.prog.godebug = none) (started : os.Started) (noInit : C.prog.inits.idxOf? f = none) (hfn : C.prog.funcs[f]? = some fn)
    (witness : ∃ (w : World) (tape : Tape) (i : Input), w.os = os ∧ (w.forCall tape i).Shaped C.prog ∧ i.vars = [] ∧ Input.okWide C.prog (w.forCall tape i) .any w.heap.size f i ∧
      ((s.pre enc C.prog fn conds false (w.forCall tape i).memory i.args ∧ laidMetH C.prog laid (w.forCall tape i).memory) ∧ sizedMet enc C.prog fn (OpenSpec.ofChange s) false (w.forCall tape i).memory i.args) ∧
      ({} : Assume).holds C.prog (lone (Frame.enter C.prog f i.args .normal) [] (w.forCall tape i)))
    (hl : laidOutB C.prog = true) (hplain : fn.params.toList.all (plainT C.prog 8 true) = true) (hread : fn.params.toList.all (fun t => C.prog.readableRec t && decide (t < C.prog.types.size)) = true)
    (hres : fn.resultTypes = #[tb]) (hub : C.prog.underlying tb = some .bool) (hvars : s.vars = []) (hspec : ∀ ds : List (DataW H), ds.length = fn.params.toList.length → s.fn H ds = { results := [.lit (.bool true)], args := ds })
    (law : ∀ (W : World) (M : Nat) (vs : List Value) (cs : List CV), W.ShapedOpen C.prog → laidMetH C.prog laid W → ArgsTy C.prog fn.params.toList cs → CRepT W (hw0 W M) cs vs →
      Calls C.prog f vs.toArray W fun e W' => e = .returned (.bool true) ∧ Below W.heap.size W W') :
    ReturnsInHanded {} C os f .any (fun w args => (s.pre enc C.prog fn conds false w args ∧ laidMetH C.prog laid w) ∧ sizedMet enc C.prog fn (OpenSpec.ofChange s) false w args) (s.post enc C.prog fn false true false false) := by
  refine returnsInHanded_of_calls own started noInit witness ?_
  intro w tape i _ hsh _ hok hpre _
  obtain ⟨_, _, _, fn', hfn', _, _, _, _, hval⟩ := hok
  have e : fn' = fn := Option.some.inj (hfn'.symm.trans hfn)
  subst e
  obtain ⟨⟨⟨ds, gs, before, hw, _⟩, hx⟩, hz⟩ := hpre
  have hW : DataW.Whole enc C.prog fn'.params.toList s.vars false (w.forCall tape i) i.args.toList ds gs before := DataW.Whole.of_heap (w' := w.forCall tape i) (by rfl) hw
  have hL : laidMetH C.prog laid (w.forCall tape i) := hx.of_heap (by rfl)
  have hsz : (DataW.weightsEach C.prog (fn'.params.toList ++ s.plain.varTypes C.prog) (ds ++ gs)).all (· ≤ reachBytes) = true := hz.weights hw
  have hW' := hW
  have hlt := hW.lt
  obtain ⟨p, q, hA, hV, rfl, hfz, hnd⟩ := hW
  rw [hvars] at hV
  obtain ⟨rfl, rfl⟩ := trodVars_none hV
  have hvt : s.plain.varTypes C.prog = [] := by simp [ChangeSpec.plain, DataSpec.varTypes, hvars]
  rw [hvt] at hsz
  simp only [List.append_nil] at hsz hlt hW'
  obtain ⟨cs, h1, h2⟩ := args_in (M := offs i.args.toList) hA (fun j t v ht hv => hval j t v (by simpa using ht) (by simpa using hv)) hplain
    (fun y hy => by simpa using List.all_eq_true.1 hsz y hy) (Nat.le_refl _)
  have hlen := trodAll_len hA
  refine (law (w.forCall tape i) _ i.args.toList cs hsh hL h1 h2).mono fun e W' ⟨he, hb⟩ => ?_
  subst he
  have hs := hspec ds hlen
  refine ChangeSpec.post_blind (post_of_below (pa := p) (pv := []) hW' (fun b sp hd => ?_) (fun sp hsp => ?_) (fun _ _ => ?_) (by simp) hb (ok_one hres rfl (okWide_bool_mk hub true)))
  · simp only [List.append_nil, hs, hres]
    exact trodAll_mk1 (shut_bool hub true)
  · simp only [List.append_nil, hs]
    exact args_out hl hb hA hread hlt hsp
  · simp only [List.append_nil, hs, hvars]
    rfl
end
end Go.Am
