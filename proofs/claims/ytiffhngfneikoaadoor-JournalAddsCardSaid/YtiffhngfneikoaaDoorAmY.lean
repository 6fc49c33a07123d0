/- Any operation of the abstract machine is sound, and hangs on what it reads alone. Conditions: none. -/
import Derived.Test.YtiffhngfneikoaaDoorAmV
import Derived.Test.YtiffhngfneikoaaDoorAmX
import Derived.Test.YtiffhngfneikoaaDoorAmI
import Derived.Orders
namespace Go.Am
open Go.RowKit
variable {P : Program} {B : Nat} {W0 : Base} {d : Nat} {σ : St} {a : Act} {w : World} {G : Gh} {β : Type} {call : FuncId → List CV → Option CV}
  {acc : List Loc} {r : β} {o : Oper}

theorem op_sound {ops : List Oper} (SE : StructEqOk P) (CO : CallOK P B W0 call) (S : Sim P B W0 d σ a w G) {k : List W → List Loc → Option β}
    (h : (opM P d ops o).exec call σ acc k = some r) : OpDone P B W0 d o σ a w G k r := by
  cases ho : o.op with
  | move x => exact op_move S ho h
  | assign x => exact op_assign S ho h
  | pick c x y => exact op_pick S ho h
  | alloc t => exact op_alloc S ho h
  | box t x => exact op_box S ho h
  | build t parts => exact op_build S ho h
  | buildSlice t n parts => exact op_buildSlice S ho h
  | load t x => exact op_load S ho h
  | store t x y => exact op_store S ho h
  | nilCheck x => exact op_nilCheck S ho h
  | binOp op t x y u => exact op_binOp SE S ho h
  | unOp op t x => exact op_unOp S ho h
  | convert s t x => exact op_convert S ho h
  | slice t x l h' m => exact op_slice S ho h
  | fieldAddr t x f => exact op_fieldAddr S ho h
  | field t x f => exact op_field S ho h
  | indexAddr t x i => exact op_indexAddr S ho h
  | index t x i => exact op_index S ho h
  | extract x i => exact op_extract S ho h
  | makeSlice t l c => exact op_makeSlice S ho h
  | makeFunc f fs cs => exact op_makeFunc S ho h
  | range t x => exact op_range S ho h
  | next x s => exact op_next S ho h
  | call c =>
    cases hb : c.callee with
    | builtin b =>
      by_cases hap : b = .append
      · exact op_append S ho (hap ▸ hb) h
      · exact op_builtin S ho hb hap h
    | value f => exact op_call CO S ho hb h
    | _ => unfold opM at h; simp [ho, hb, M.exec] at h
  | _ => unfold opM at h; simp [ho, M.exec] at h

/-! an operation hangs on what it reads -/
def Loc.same (σ σ' : St) : Loc → Prop
  | .tmp i => nthD .any σ'.tmps i = nthD .any σ.tmps i
  | .cell d s o => σ'.has (.cell d s o) = σ.has (.cell d s o) ∧ cellOf σ'.mem d s o = cellOf σ.mem d s o
  | .box d s => (box? σ'.mem d s).isNone = (box? σ.mem d s).isNone
  | .glob _ => σ'.K = σ.K
/-- as many slots, as much room -/
def Shape (σ σ' : St) : Prop := σ'.tmps.length = σ.tmps.length ∧ σ'.mem.length = σ.mem.length ∧ ∀ d, (nthD [] σ'.mem d).length = (nthD [] σ.mem d).length
theorem Loc.same.has {σ σ' : St} : ∀ {l : Loc}, Loc.same σ σ' l → σ'.has l = σ.has l
  | .tmp _, _ => rfl
  | .cell _ _ _, h => h.1
  | .box _ _, _ => rfl
  | .glob _, _ => rfl
theorem Loc.same.get {σ σ' : St} : ∀ {l : Loc}, Loc.same σ σ' l → σ'.get l = σ.get l
  | .tmp _, h => h
  | .cell _ _ _, h => h.2
  | .box _ _, _ => rfl
  | .glob g, h => by have h : σ'.K = σ.K := h; simp only [St.get, h]

theorem M.exec_local {α : Type} {call : FuncId → List CV → Option CV} {σ : St} : ∀ (m : M α) {acc : List Loc} {k : α → List Loc → Option β} {r : β}, m.exec call σ acc k = some r →
    ∃ x rs, k x rs = some r ∧ (∀ l ∈ acc, l ∈ rs) ∧ ∀ σ', Shape σ σ' → (∀ l ∈ rs, Loc.same σ σ' l) → ∀ {γ : Type} (k' : α → List Loc → Option γ), m.exec call σ' acc k' = k' x rs
  | .ret x, acc, k, r, h => ⟨x, acc, h, fun _ h => h, fun _ _ _ _ _ => rfl⟩
  | .get l f, acc, k, r, h => by
    simp only [M.exec] at h
    obtain ⟨h1, h⟩ := chkO_some h
    obtain ⟨x, rs, h2, h3, h4⟩ := M.exec_local (f (σ.get l)) h
    refine ⟨x, rs, h2, fun y hy => h3 y (by simp [hy]), fun σ' hs hl γ k' => ?_⟩
    have e := hl l (h3 l (by simp))
    simp only [M.exec, e.has, h1, e.get, chkO, cond_true]
    exact h4 σ' hs hl k'
  | .free d s m, acc, k, r, h => by
    simp only [M.exec] at h
    obtain ⟨h1, h⟩ := chkO_some h
    obtain ⟨x, rs, h2, h3, h4⟩ := M.exec_local m h
    refine ⟨x, rs, h2, fun y hy => h3 y (by simp [hy]), fun σ' hs hl γ k' => ?_⟩
    have e : (box? σ'.mem d s).isNone = (box? σ.mem d s).isNone := hl (.box d s) (h3 _ (by simp))
    simp only [M.exec, e, hs.2.2 d, h1, chkO, cond_true]
    exact h4 σ' hs hl k'
  | .chk b m, acc, k, r, h => by
    simp only [M.exec] at h
    obtain ⟨h1, h⟩ := chkO_some h
    obtain ⟨x, rs, h2, h3, h4⟩ := M.exec_local m h
    refine ⟨x, rs, h2, h3, fun σ' hs hl γ k' => ?_⟩
    simp only [M.exec, h1, chkO, cond_true]
    exact h4 σ' hs hl k'
  | .br b t e, acc, k, r, h => by
    cases b with
    | true =>
      obtain ⟨x, rs, h2, h3, h4⟩ := M.exec_local t (k := k) (r := r) (by simpa only [M.exec, cond_true] using h)
      exact ⟨x, rs, h2, h3, fun σ' hs hl γ k' => by simp only [M.exec, cond_true]; exact h4 σ' hs hl k'⟩
    | false =>
      obtain ⟨x, rs, h2, h3, h4⟩ := M.exec_local e (k := k) (r := r) (by simpa only [M.exec, cond_false] using h)
      exact ⟨x, rs, h2, h3, fun σ' hs hl γ k' => by simp only [M.exec, cond_false]; exact h4 σ' hs hl k'⟩
  | .opt (some y) f, acc, k, r, h => by
    obtain ⟨x, rs, h2, h3, h4⟩ := M.exec_local (f y) (k := k) (r := r) (by simpa only [M.exec, optO] using h)
    exact ⟨x, rs, h2, h3, fun σ' hs hl γ k' => by simp only [M.exec, optO]; exact h4 σ' hs hl k'⟩
  | .opt none f, acc, k, r, h => by simp [M.exec, optO] at h
  | .call g as f, acc, k, r, h => by
    simp only [M.exec] at h
    obtain ⟨y, hy, h⟩ := optO_some h
    obtain ⟨x, rs, h2, h3, h4⟩ := M.exec_local (f y) h
    exact ⟨x, rs, h2, h3, fun σ' hs hl γ k' => by simp only [M.exec, hy, optO]; exact h4 σ' hs hl k'⟩
  | .fail, acc, k, r, h => by simp [M.exec] at h

/-! guards -/
theorem wanted_none {ops : Array Oper} (hg : o.guard = none) : Region.wanted o (yielded ops a.tmps) = true := by simp [Region.wanted, hg]
theorem wanted_bool {ops : Array Oper} {j t : Nat} {want b : Bool} (hg : o.guard = some (j, want)) (ht : (ops.toList[j]?).bind (·.dst) = some t) (hv : a.tmps.getD t undef = .bool b) :
    Region.wanted o (yielded ops a.tmps) = (b == want) := by
  have h1 : (ops[j]?).bind (·.dst) = some t := by simpa using ht
  have h2 : a.tmps[t]? = some (.bool b) := by
    rw [Array.getD_eq_getD_getElem?] at hv
    cases hh : a.tmps[t]? with
    | none => rw [hh] at hv; simp [undef] at hv
    | some v => rw [hh] at hv; simpa using hv
  simp only [Region.wanted, hg, yielded, h1, Option.bind_some, h2]
  cases b <;> cases want <;> rfl
theorem wanted_undef {ops : Array Oper} {j t : Nat} {want : Bool} (hg : o.guard = some (j, want)) (ht : (ops.toList[j]?).bind (·.dst) = some t) (hv : a.tmps.getD t undef = undef) :
    Region.wanted o (yielded ops a.tmps) = false := by
  have h1 : (ops[j]?).bind (·.dst) = some t := by simpa using ht
  rw [Array.getD_eq_getD_getElem?] at hv
  simp only [Region.wanted, hg, yielded, h1, Option.bind_some]
  cases hh : a.tmps[t]? with
  | none => rfl
  | some v => rw [hh] at hv; simp only [Option.getD_some] at hv; subst hv; rfl
theorem setN_same {α : Type} (dflt : α) : ∀ (l : List α) (t : Nat), setN l t (nthD dflt l t) = l
  | [], _ => rfl
  | _ :: _, 0 => rfl
  | x :: l, t + 1 => by simp only [setN, nthD, setN_same dflt l t]

/-- an operation, run or passed over -/
def wpO (P : Program) (ops : Array Oper) (Q : Exit → Act → World → Prop) (o : Oper) (K : Act → World → Prop) (a : Act) (w : World) : Prop :=
  if Region.wanted o (yielded ops a.tmps) then o.wp P a w K Q ∨ (o.asks P a w ∧ LetsOut Q) else K (a.put o.dst undef) w

/-- what an operation does, wherever what it reads is the same -/
def Moves (P : Program) (B : Nat) (W0 : Base) (d : Nat) (ops : Array Oper) (o : Oper) (σ : St) (D : Did) : Prop :=
  ∀ σ', Shape σ σ' → (∀ l ∈ D.reads, Loc.same σ σ' l) → ∀ a w G, Sim P B W0 d σ' a w G → ∀ (K : Act → World → Prop) (Q : Exit → Act → World → Prop),
    (∀ a' w' G', Sim P B W0 d (applyW σ' D.writes) a' w' G' → Keeps B d w w' G G' → K a' w') → wpO P ops Q o K a w

/-- the three ways of a guard -/
theorem guardK_some {ops : List Oper} {run skip : St → Option β} (h : guardK σ ops o run skip = some r) :
    (o.guard = none ∧ run σ = some r) ∨ ∃ j want t, o.guard = some (j, want) ∧ (ops[j]?).bind (·.dst) = some t ∧
      ((∃ b, nthD .any σ.tmps t = .val (.bool b) ∧ ((b = want ∧ run σ = some r) ∨ (b ≠ want ∧ skip σ = some r))) ∨ (nthD .any σ.tmps t = .undef ∧ skip σ = some r)) := by
  unfold guardK at h
  split at h
  · rename_i hg
    exact .inl ⟨hg, h⟩
  · rename_i j want hg
    refine .inr ⟨j, want, ?_⟩
    split at h
    · rename_i t ht
      refine ⟨t, hg, ht, ?_⟩
      split at h
      · rename_i v hv
        obtain ⟨b, hb, h⟩ := optO_some h
        have := asB_some hb
        subst this
        have e : ∀ b', b = b' → ({ σ with tmps := setN σ.tmps t (.val (.bool b')) } : St) = σ := fun b' hb' => by
          subst hb'
          rw [← hv, setN_same]
        refine .inl ⟨b, hv, ?_⟩
        cases want <;> cases b <;> dsimp only [cond_true, cond_false] at h <;> rw [e _ rfl] at h
        · exact .inl ⟨rfl, h⟩
        · exact .inr ⟨by simp, h⟩
        · exact .inr ⟨by simp, h⟩
        · exact .inl ⟨rfl, h⟩
      · rename_i hv; exact .inr ⟨hv, h⟩
      · cases h
    · cases h
end Go.Am
