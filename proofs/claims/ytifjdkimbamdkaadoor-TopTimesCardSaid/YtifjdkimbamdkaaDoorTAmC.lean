/- Any operation of the abstract machine is sound, and hangs on what it reads alone. Conditions: none. -/
import Derived.Test.YtifjdkimbamdkaaDoorTAmB
import Derived.Orders
import Derived.LoopN
import Derived.Scope
import Derived.ProofKit
import Derived.Carry
import Derived.ChangeArms
import Derived.HandedShaped
import Derived.Stop.Joined
import Derived.LaidMore
namespace Go.Am
open Go.RowKit
variable {P : Program} {B : Nat} {W0 : Base} {d : Nat} {σ : St} {a : Act} {w : World} {G : Gh} {β : Type} {call : FuncId → List CV → Option CV}
  {acc : List Loc} {r : β} {o : Oper}

theorem op_sound {ops : List Oper} (SE : StructEqOk P) (CO : CallOK P B W0 call) (S : Sim P B W0 d σ a w G) {k : List W → List Loc → Option β}
    (h : (opM P d ops o).exec call σ acc k = some r) : OpDone P B W0 d o σ a w G k r := by
  cases ho : o.op with
  | move x => exact op_move S ho h
  | assign x => exact op_assign S ho h
  | pick c x y => exact op_pick S ho h
  | alloc t => exact op_alloc S ho h
  | box t x => exact op_box S ho h
  | build t parts => exact op_build S ho h
  | buildSlice t n parts => exact op_buildSlice S ho h
  | load t x => exact op_load S ho h
  | store t x y => exact op_store S ho h
  | nilCheck x => exact op_nilCheck S ho h
  | binOp op t x y u => exact op_binOp SE S ho h
  | unOp op t x => exact op_unOp S ho h
  | convert s t x => exact op_convert S ho h
  | slice t x l h' m => exact op_slice S ho h
  | fieldAddr t x f => exact op_fieldAddr S ho h
  | field t x f => exact op_field S ho h
  | indexAddr t x i => exact op_indexAddr S ho h
  | index t x i => exact op_index S ho h
  | extract x i => exact op_extract S ho h
  | makeSlice t l c => exact op_makeSlice S ho h
  | makeFunc f fs cs => exact op_makeFunc S ho h
  | range t x => exact op_range S ho h
  | next x s => exact op_next S ho h
  | call c =>
    cases hb : c.callee with
    | builtin b =>
      by_cases hap : b = .append
      · exact op_append S ho (hap ▸ hb) h
      · exact op_builtin S ho hb hap h
    | value f => exact op_call CO S ho hb h
    | _ => unfold opM at h; simp [ho, hb, M.exec] at h
  | _ => unfold opM at h; simp [ho, M.exec] at h

/-! an operation hangs on what it reads -/
def Loc.same (σ σ' : St) : Loc → Prop
  | .tmp i => nthD .any σ'.tmps i = nthD .any σ.tmps i
  | .cell d s o => σ'.has (.cell d s o) = σ.has (.cell d s o) ∧ cellOf σ'.mem d s o = cellOf σ.mem d s o
  | .box d s => (box? σ'.mem d s).isNone = (box? σ.mem d s).isNone
  | .glob _ => σ'.K = σ.K
  | .own _ => σ'.K = σ.K
/-- as many slots, as much room -/
def Shape (σ σ' : St) : Prop := σ'.tmps.length = σ.tmps.length ∧ σ'.mem.length = σ.mem.length ∧ ∀ d, (nthD [] σ'.mem d).length = (nthD [] σ.mem d).length
theorem Loc.same.has {σ σ' : St} : ∀ {l : Loc}, Loc.same σ σ' l → σ'.has l = σ.has l
  | .tmp _, _ => rfl
  | .cell _ _ _, h => h.1
  | .box _ _, _ => rfl
  | .glob _, _ => rfl
  | .own _, _ => rfl
theorem Loc.same.get {σ σ' : St} : ∀ {l : Loc}, Loc.same σ σ' l → σ'.get l = σ.get l
  | .tmp _, h => h
  | .cell _ _ _, h => h.2
  | .box _ _, _ => rfl
  | .glob g, h => by have h : σ'.K = σ.K := h; simp only [St.get, h]
  | .own g, h => by have h : σ'.K = σ.K := h; simp only [St.get, h]

theorem M.exec_local {α : Type} {call : FuncId → List CV → Option CV} {σ : St} : ∀ (m : M α) {acc : List Loc} {k : α → List Loc → Option β} {r : β}, m.exec call σ acc k = some r →
    ∃ x rs, k x rs = some r ∧ (∀ l ∈ acc, l ∈ rs) ∧ ∀ σ', Shape σ σ' → (∀ l ∈ rs, Loc.same σ σ' l) → ∀ {γ : Type} (k' : α → List Loc → Option γ), m.exec call σ' acc k' = k' x rs
  | .ret x, acc, k, r, h => ⟨x, acc, h, fun _ h => h, fun _ _ _ _ _ => rfl⟩
  | .get l f, acc, k, r, h => by
    simp only [M.exec] at h
    obtain ⟨h1, h⟩ := chkO_some h
    obtain ⟨x, rs, h2, h3, h4⟩ := M.exec_local (f (σ.get l)) h
    refine ⟨x, rs, h2, fun y hy => h3 y (by simp [hy]), fun σ' hs hl γ k' => ?_⟩
    have e := hl l (h3 l (by simp))
    simp only [M.exec, e.has, h1, e.get, chkO, cond_true]
    exact h4 σ' hs hl k'
  | .free d s m, acc, k, r, h => by
    simp only [M.exec] at h
    obtain ⟨h1, h⟩ := chkO_some h
    obtain ⟨x, rs, h2, h3, h4⟩ := M.exec_local m h
    refine ⟨x, rs, h2, fun y hy => h3 y (by simp [hy]), fun σ' hs hl γ k' => ?_⟩
    have e : (box? σ'.mem d s).isNone = (box? σ.mem d s).isNone := hl (.box d s) (h3 _ (by simp))
    simp only [M.exec, e, hs.2.2 d, h1, chkO, cond_true]
    exact h4 σ' hs hl k'
  | .chk b m, acc, k, r, h => by
    simp only [M.exec] at h
    obtain ⟨h1, h⟩ := chkO_some h
    obtain ⟨x, rs, h2, h3, h4⟩ := M.exec_local m h
    refine ⟨x, rs, h2, h3, fun σ' hs hl γ k' => ?_⟩
    simp only [M.exec, h1, chkO, cond_true]
    exact h4 σ' hs hl k'
  | .br b t e, acc, k, r, h => by
    cases b with
    | true =>
      obtain ⟨x, rs, h2, h3, h4⟩ := M.exec_local t (k := k) (r := r) (by simpa only [M.exec, cond_true] using h)
      exact ⟨x, rs, h2, h3, fun σ' hs hl γ k' => by simp only [M.exec, cond_true]; exact h4 σ' hs hl k'⟩
    | false =>
      obtain ⟨x, rs, h2, h3, h4⟩ := M.exec_local e (k := k) (r := r) (by simpa only [M.exec, cond_false] using h)
      exact ⟨x, rs, h2, h3, fun σ' hs hl γ k' => by simp only [M.exec, cond_false]; exact h4 σ' hs hl k'⟩
  | .opt (some y) f, acc, k, r, h => by
    obtain ⟨x, rs, h2, h3, h4⟩ := M.exec_local (f y) (k := k) (r := r) (by simpa only [M.exec, optO] using h)
    exact ⟨x, rs, h2, h3, fun σ' hs hl γ k' => by simp only [M.exec, optO]; exact h4 σ' hs hl k'⟩
  | .opt none f, acc, k, r, h => by simp [M.exec, optO] at h
  | .call g as f, acc, k, r, h => by
    simp only [M.exec] at h
    obtain ⟨y, hy, h⟩ := optO_some h
    obtain ⟨x, rs, h2, h3, h4⟩ := M.exec_local (f y) h
    exact ⟨x, rs, h2, h3, fun σ' hs hl γ k' => by simp only [M.exec, hy, optO]; exact h4 σ' hs hl k'⟩
  | .fail, acc, k, r, h => by simp [M.exec] at h

/-! guards -/
theorem wanted_none {ops : Array Oper} (hg : o.guard = none) : Region.wanted o (yielded ops a.tmps) = true := by simp [Region.wanted, hg]
theorem wanted_bool {ops : Array Oper} {j t : Nat} {want b : Bool} (hg : o.guard = some (j, want)) (ht : (ops.toList[j]?).bind (·.dst) = some t) (hv : a.tmps.getD t undef = .bool b) :
    Region.wanted o (yielded ops a.tmps) = (b == want) := by
  have h1 : (ops[j]?).bind (·.dst) = some t := by simpa using ht
  have h2 : a.tmps[t]? = some (.bool b) := by
    rw [Array.getD_eq_getD_getElem?] at hv
    cases hh : a.tmps[t]? with
    | none => rw [hh] at hv; simp [undef] at hv
    | some v => rw [hh] at hv; simpa using hv
  simp only [Region.wanted, hg, yielded, h1, Option.bind_some, h2]
  cases b <;> cases want <;> rfl
theorem wanted_undef {ops : Array Oper} {j t : Nat} {want : Bool} (hg : o.guard = some (j, want)) (ht : (ops.toList[j]?).bind (·.dst) = some t) (hv : a.tmps.getD t undef = undef) :
    Region.wanted o (yielded ops a.tmps) = false := by
  have h1 : (ops[j]?).bind (·.dst) = some t := by simpa using ht
  rw [Array.getD_eq_getD_getElem?] at hv
  simp only [Region.wanted, hg, yielded, h1, Option.bind_some]
  cases hh : a.tmps[t]? with
  | none => rfl
  | some v => rw [hh] at hv; simp only [Option.getD_some] at hv; subst hv; rfl
theorem setN_same {α : Type} (dflt : α) : ∀ (l : List α) (t : Nat), setN l t (nthD dflt l t) = l
  | [], _ => rfl
  | _ :: _, 0 => rfl
  | x :: l, t + 1 => by simp only [setN, nthD, setN_same dflt l t]

/-- an operation, run or passed over -/
def wpO (P : Program) (ops : Array Oper) (Q : Exit → Act → World → Prop) (o : Oper) (K : Act → World → Prop) (a : Act) (w : World) : Prop :=
  if Region.wanted o (yielded ops a.tmps) then o.wp P a w K Q ∨ (o.asks P a w ∧ LetsOut Q) else K (a.put o.dst undef) w

/-- what an operation does, wherever what it reads is the same -/
def Moves (P : Program) (B : Nat) (W0 : Base) (d : Nat) (ops : Array Oper) (o : Oper) (σ : St) (D : Did) : Prop :=
  ∀ σ', Shape σ σ' → (∀ l ∈ D.reads, Loc.same σ σ' l) → ∀ a w G, Sim P B W0 d σ' a w G → ∀ (K : Act → World → Prop) (Q : Exit → Act → World → Prop),
    (∀ a' w' G', Sim P B W0 d (applyW σ' D.writes) a' w' G' → Keeps B d w w' G G' → K a' w') → wpO P ops Q o K a w

/-- the three ways of a guard -/
theorem guardK_some {ops : List Oper} {run skip : St → Option β} (h : guardK σ ops o run skip = some r) :
    (o.guard = none ∧ run σ = some r) ∨ ∃ j want t, o.guard = some (j, want) ∧ (ops[j]?).bind (·.dst) = some t ∧
      ((∃ b, nthD .any σ.tmps t = .val (.bool b) ∧ ((b = want ∧ run σ = some r) ∨ (b ≠ want ∧ skip σ = some r))) ∨ (nthD .any σ.tmps t = .undef ∧ skip σ = some r)) := by
  unfold guardK at h
  split at h
  · rename_i hg
    exact .inl ⟨hg, h⟩
  · rename_i j want hg
    refine .inr ⟨j, want, ?_⟩
    split at h
    · rename_i t ht
      refine ⟨t, hg, ht, ?_⟩
      split at h
      · rename_i v hv
        obtain ⟨b, hb, h⟩ := optO_some h
        have := asB_some hb
        subst this
        have e : ∀ b', b = b' → ({ σ with tmps := setN σ.tmps t (.val (.bool b')) } : St) = σ := fun b' hb' => by
          subst hb'
          rw [← hv, setN_same]
        refine .inl ⟨b, hv, ?_⟩
        cases want <;> cases b <;> dsimp only [cond_true, cond_false] at h <;> rw [e _ rfl] at h
        · exact .inl ⟨rfl, h⟩
        · exact .inr ⟨by simp, h⟩
        · exact .inr ⟨by simp, h⟩
        · exact .inl ⟨rfl, h⟩
      · rename_i hv; exact .inr ⟨hv, h⟩
      · cases h
    · cases h
end Go.Am
/- A step of the abstract machine through a region is sound; calls in place. Conditions: none. -/
namespace Go.Am
open Go.RowKit
variable {P : Program} {B : Nat} {W0 : Base} {d : Nat} {σ : St} {a : Act} {w : World} {G : Gh} {β : Type} {call : FuncId → List CV → Option CV}
  {inl : FuncId → List AV → MemT → (AV → MemT → Option β) → Option β} {acc : List Loc} {r : β} {o : Oper} {ops : Array Oper}

theorem skip_moves {ops : Array Oper} (hg : ∀ σ', Shape σ σ' → (∀ l ∈ guardReads ops.toList o, Loc.same σ σ' l) → ∀ a w G, Sim P B W0 d σ' a w G → Region.wanted o (yielded ops a.tmps) = false) :
    Moves P B W0 d ops o σ ⟨guardReads ops.toList o, put o .undef⟩ := by
  intro σ' hs hl a w G S K Q hK
  unfold wpO
  rw [if_neg (by rw [hg σ' hs hl a w G S]; simp)]
  exact hK _ _ G (S.put o fun t _ => by simp [ARep]) (Keeps.refl _ _ _ _)

theorem guard_read {ops : List Oper} {j t : Nat} {want : Bool} (hg : o.guard = some (j, want)) (ht : (ops[j]?).bind (·.dst) = some t) : Loc.tmp t ∈ guardReads ops o := by
  simp [guardReads, hg, ht]

theorem run_moves {ops : Array Oper} (SE : StructEqOk P) (CO : CallOK P B W0 call) {did : Did → St → Option β}
    (h : (opM P d ops.toList o).exec call σ (callReads o ++ guardReads ops.toList o) (fun w rs => did ⟨rs, w⟩ (applyW σ w)) = some r)
    (hg : ∀ σ', Shape σ σ' → (∀ l ∈ guardReads ops.toList o, Loc.same σ σ' l) → ∀ a w G, Sim P B W0 d σ' a w G → Region.wanted o (yielded ops a.tmps) = true) :
    ∃ D, did D (applyW σ D.writes) = some r ∧ Moves P B W0 d ops o σ D := by
  obtain ⟨ws, rs, h1, h2, h3⟩ := M.exec_local _ h
  refine ⟨⟨rs, ws⟩, h1, ?_⟩
  intro σ' hs hl a w G S K Q hK
  unfold wpO
  rw [if_pos (hg σ' hs (fun l hh => hl l (h2 l (by simp [hh]))) a w G S)]
  have e := h3 σ' hs hl (fun ws _ => some ws)
  obtain ⟨ws', rs', q1, q2⟩ := op_sound SE CO S e
  simp only [Option.some.injEq] at q1
  subst q1
  exact .inl (q2 K Q hK)

/-- an inline call, as the model does it -/
structure InlOK (P : Program) (B : Nat) (W0 : Base) (inl : FuncId → List AV → MemT → (AV → MemT → Option β) → Option β) : Prop where
  run : ∀ {f vs mem k r}, inl f vs mem k = some r → ∀ w G D, Mem P B W0 w G mem → mem.length = D → ∀ xs : List Value, ARepL P w G vs xs →
    (∀ w', (callFunc f xs.toArray).run P w' = .ok (.enter f xs.toArray) w') ∧
    Calls P f xs.toArray w fun e w' => ∃ v x mem' G', e = .returned x ∧ k v mem' = some r ∧ Mem P B W0 w' G' mem' ∧ mem'.length = D ∧ ARep P w' G' .none v x ∧ v.copy = v ∧ Keeps B D w w' G G'

theorem ARepL.append {w : World} {G : Gh} : ∀ {c e : List AV} {us vs : List Value}, ARepL P w G c us → ARepL P w G e vs → ARepL P w G (c ++ e) (us ++ vs)
  | [], e, us, vs, h1, h2 => by simp only [ARepL] at h1; subst h1; simpa using h2
  | c :: cs, e, us, vs, h1, h2 => by
    simp only [ARepL] at h1
    obtain ⟨v, r, rfl, h3, h4⟩ := h1
    simp only [List.cons_append, ARepL]
    exact ⟨v, r ++ vs, rfl, h3, ARepL.append h4 h2⟩

def evArg (σ : St) (x : Operand) : AV :=
  match x with
  | .tmp t => (σ.get (.tmp t)).copy
  | .const v => AV.ofConst v
  | .func f => .val (.fn f)
  | .global _ => .any
theorem evArg_sound (S : Sim P B W0 d σ a w G) (x : Operand) : ARep P w G .none (evArg σ x) (a.eval x) := by
  cases x with
  | tmp t => exact (S.fr.rep t).copy
  | const v => exact AV.ofConst_rep w G .none v
  | func f => simp [evArg, ARep, CRep, Act.eval]
  | global g => simp [evArg, ARep]
theorem evArgs_sound (S : Sim P B W0 d σ a w G) : ∀ l : List Operand, ARepL P w G (l.map (evArg σ)) (l.map a.eval)
  | [] => by simp [ARepL]
  | x :: l => by simp only [List.map_cons, ARepL]; exact ⟨_, _, rfl, evArg_sound S x, evArgs_sound S l⟩

theorem inlineCall_eq (σ : St) (o : Oper) : inlineCall σ o = match o.op with
    | .call { callee := .value f, args, .. } => match evArg σ f with
      | .clo g caps => some (g, args.toList.map (evArg σ) ++ caps)
      | .val v => v.asF.bind fun g => if (args.toList.map (evArg σ)).all AV.plain && (σ.K.hook g).isNone then none else some (g, args.toList.map (evArg σ))
      | _ => none
    | _ => none := by
  unfold inlineCall
  rfl

/-- the frame behind a call in place -/
theorem Sim.backIn (S : Sim P B W0 d σ a w G) {w' : World} {G' : Gh} {mem' : MemT} {v : AV} {x : Value} (o : Oper) (M' : Mem P B W0 w' G' mem') (hl : mem'.length = d + 1) (hv : ARep P w' G' .none v x) (hown : v.copy = v)
    (K : Keeps B (d + 1) w w' G G') : Sim P B W0 d (backIn σ o v mem') (a.put o.dst x) w' G' := by
  have N : ∀ q, (∀ d' s o', q ≠ .cell d' s o') → (∀ d' i, q = .tmp d' i → d' = d) → Same q w w' G G' := fun q h1 h2 => by
    refine ⟨K.keep, fun d' s b hb => ?_, fun b hb => ?_⟩
    · by_cases hlt : d' < d + 1
      · exact K.blk d' s b hlt hb
      · have : box? σ.mem d' s = none := by
          unfold box?
          have e : nthD [] σ.mem d' = [] := by rw [nthD_get, List.getElem?_eq_none (by rw [S.depth]; omega)]; rfl
          rw [e]; rfl
        rw [S.mem.blk d' s this] at hb; cases hb
    · cases q with
      | tmp d' i => exact K.own b d' i (by have := h2 d' i rfl; omega) hb
      | cell d' s o' => exact absurd rfl (h1 d' s o')
      | none => exact ((S.mem.noNone b) hb).elim
  have F : Fr P w' G' d σ.tmps a.tmps := ⟨S.fr.len, fun i => ARep.same (N _ (by simp) (by simp)) (N _ (by simp) (by simp)) _ (S.fr.rep i)⟩
  have S0 : Sim P B W0 d { tmps := σ.tmps, mem := mem', K := σ.K } a w' G' := ⟨M', hl, F, S.cfg, S.defers⟩
  have := S0.put o (v := v) (x := x) fun t _ => hown ▸ hv.copy
  unfold Am.backIn
  cases hd : o.dst with
  | none => simpa [Am.put, hd, applyW] using this
  | some t => simpa [Am.put, hd, applyW, W.apply] using this

theorem step_sound (SE : StructEqOk P) (CO : CallOK P B W0 call) (Iok : InlOK P B W0 inl) {pre : Bool} {did : Did → St → Option β} {k : St → Option β}
    (h : stepK P call inl d σ ops.toList o pre did k = some r) :
    (∃ D, did D (applyW σ D.writes) = some r ∧ Moves P B W0 d ops o σ D) ∨
    (pre = true ∧ ∀ a w G, Sim P B W0 d σ a w G → ∀ (K : Act → World → Prop) (Q : Exit → Act → World → Prop),
      (∀ a' w' G' σ', Sim P B W0 d σ' a' w' G' → Keeps B d w w' G G' → k σ' = some r → K a' w') → wpO P ops Q o K a w) := by
  have hrun : runK P call inl d ops.toList o pre did k σ = some r → (∀ σ', Shape σ σ' → (∀ l ∈ guardReads ops.toList o, Loc.same σ σ' l) → ∀ a w G, Sim P B W0 d σ' a w G → Region.wanted o (yielded ops a.tmps) = true) →
      (∃ D, did D (applyW σ D.writes) = some r ∧ Moves P B W0 d ops o σ D) ∨
      (pre = true ∧ ∀ a w G, Sim P B W0 d σ a w G → ∀ (K : Act → World → Prop) (Q : Exit → Act → World → Prop),
        (∀ a' w' G' σ', Sim P B W0 d σ' a' w' G' → Keeps B d w w' G G' → k σ' = some r → K a' w') → wpO P ops Q o K a w) := by
    intro h hg
    unfold runK at h
    split at h
    · rename_i f vs hi
      obtain ⟨hpre, h⟩ := chkO_some h
      refine .inr ⟨hpre, fun a w G S K Q hK => ?_⟩
      unfold wpO
      rw [if_pos (hg σ ⟨rfl, rfl, fun _ => rfl⟩ (fun l _ => by cases l <;> simp [Loc.same]) a w G S)]
      refine .inl ?_
      rw [inlineCall_eq] at hi
      split at hi
      · rename_i fo args at_ ho
        have key : ∃ xs : List Value, ARepL P w G vs xs ∧ ∀ w, (execOp a.eval o).run P w = (callFunc f xs.toArray).run P w := by
          have hfo := evArg_sound S fo
          have hargs := evArgs_sound S args.toList
          split at hi
          · rename_i g caps hf
            simp only [Option.some.injEq, Prod.mk.injEq] at hi
            obtain ⟨rfl, rfl⟩ := hi
            rw [hf] at hfo
            simp only [ARep] at hfo
            obtain ⟨us, h1, h2⟩ := hfo
            refine ⟨_, hargs.append h2, fun w => ?_⟩
            have e : (args.toList.map a.eval ++ us).toArray = args.map a.eval ++ us.toArray := by apply Array.ext'; simp
            rw [e]
            simp only [execOp, ho, resolve, h1, Deferred.ofValue]
            simp [invoke]
          · rename_i v hf
            cases hv : v.asF with
            | none => rw [hv] at hi; cases hi
            | some g =>
              rw [hv] at hi
              simp only [Option.bind_some] at hi
              split at hi
              · cases hi
              · simp only [Option.some.injEq, Prod.mk.injEq] at hi
                obtain ⟨rfl, rfl⟩ := hi
                rw [hf, asF_some hv] at hfo
                simp only [ARep, CRep] at hfo
                refine ⟨_, hargs, fun w => ?_⟩
                have e : (args.toList.map a.eval).toArray = args.map a.eval := by apply Array.ext'; simp
                rw [e]
                simp only [execOp, ho, resolve, hfo, Deferred.ofValue]
                simp [invoke]
          · cases hi
        obtain ⟨xs, hxs, hex⟩ := key
        obtain ⟨h1, h2⟩ := Iok.run h w G (d + 1) S.mem S.depth xs hxs
        unfold Oper.wp
        rw [hex, h1 w]
        rw [Oper.upon_enter]
        refine h2.mono fun e w' he => ?_
        obtain ⟨v, x, mem', G', rfl, hk, M', hl, hv, hc, K'⟩ := he
        exact hK _ _ _ _ (S.backIn o M' hl hv hc K') (K'.mono (Nat.le_succ _)) hk
      · cases hi
    · exact .inl (run_moves SE CO h hg)
  have hskip : skipK ops.toList o did σ = some r → (∀ σ', Shape σ σ' → (∀ l ∈ guardReads ops.toList o, Loc.same σ σ' l) → ∀ a w G, Sim P B W0 d σ' a w G → Region.wanted o (yielded ops a.tmps) = false) →
      (∃ D, did D (applyW σ D.writes) = some r ∧ Moves P B W0 d ops o σ D) := fun h hg => ⟨_, h, skip_moves hg⟩
  unfold stepK at h
  rcases guardK_some h with ⟨hg, h⟩ | ⟨j, want, t, hg, ht, ⟨b, hb, ⟨hbw, h⟩ | ⟨hbw, h⟩⟩ | ⟨hb, h⟩⟩
  · exact hrun h fun σ' _ _ a w G _ => wanted_none hg
  · refine hrun h fun σ' hs hl a w G S => ?_
    have e : nthD .any σ'.tmps t = nthD .any σ.tmps t := hl (.tmp t) (guard_read hg ht)
    have := S.fr.rep t
    rw [e, hb] at this
    simp only [ARep, CRep] at this
    rw [wanted_bool hg ht this, hbw]
    cases want <;> rfl
  · refine .inl (hskip h fun σ' hs hl a w G S => ?_)
    have e : nthD .any σ'.tmps t = nthD .any σ.tmps t := hl (.tmp t) (guard_read hg ht)
    have := S.fr.rep t
    rw [e, hb] at this
    simp only [ARep, CRep] at this
    rw [wanted_bool hg ht this]
    cases b <;> cases want <;> simp_all
  · refine .inl (hskip h fun σ' hs hl a w G S => ?_)
    have e : nthD .any σ'.tmps t = nthD .any σ.tmps t := hl (.tmp t) (guard_read hg ht)
    have := S.fr.rep t
    rw [e, hb] at this
    simp only [ARep] at this
    exact wanted_undef hg ht this
end Go.Am
/- A region of the abstract machine is sound, in whichever order its operations are taken. Conditions: none. -/
namespace Go.Am
open Go.RowKit
variable {P : Program} {B : Nat} {W0 : Base} {d : Nat} {σ : St} {a : Act} {w : World} {G : Gh} {β : Type} {call : FuncId → List CV → Option CV}
  {inl : FuncId → List AV → MemT → (AV → MemT → Option β) → Option β} {acc : List Loc} {r : β} {o : Oper} {ops : Array Oper}

/-! in the given order -/
theorem wpOps_wpO {i : Nat} (hi : ops[i]? = some o) {rest : List Nat} {Q : Exit → Act → World → Prop} : wpOps P ops Q (i :: rest) a w = wpO P ops Q o (wpOps P ops Q rest) a w := by
  simp only [wpOps, hi, wpO]
theorem opsK_sound (SE : StructEqOk P) (CO : CallOK P B W0 call) (Iok : InlOK P B W0 inl) {Q : Exit → Act → World → Prop} : ∀ (l : List Oper) (i : Nat), ops.toList.drop i = l → ∀ {k : St → Option β} {σ : St},
    opsK P call inl d ops.toList l k σ = some r → ∀ a w G, Sim P B W0 d σ a w G → (∀ a' w' G' σ', Sim P B W0 d σ' a' w' G' → Keeps B d w w' G G' → k σ' = some r → Q .normal a' w') →
    wpOps P ops Q (List.range' i (ops.size - i)) a w
  | [], i, hl, k, σ, h, a, w, G, S, hQ => by
    have : ops.size ≤ i := by simpa using hl
    rw [show ops.size - i = 0 by omega]
    simp only [List.range'_zero, wpOps]
    exact hQ _ _ G σ S (Keeps.refl _ _ _ _) h
  | o :: l, i, hl, k, σ, h, a, w, G, S, hQ => by
    have hi : i < ops.size := Decidable.byContradiction fun hn => by
      rw [List.drop_eq_nil_of_le (by simp; omega)] at hl; cases hl
    have ho : ops[i]? = some o := by
      have : (ops.toList.drop i)[0]? = some o := by rw [hl]; rfl
      simpa using this
    have hl' : ops.toList.drop (i + 1) = l := by
      have : (ops.toList.drop i).drop 1 = l := by rw [hl]; rfl
      simpa [List.drop_drop, Nat.add_comm] using this
    rw [show ops.size - i = (ops.size - (i + 1)) + 1 by omega, List.range'_succ, wpOps_wpO ho]
    change stepK P call inl d σ ops.toList o true (dropDid (opsK P call inl d ops.toList l k)) (opsK P call inl d ops.toList l k) = some r at h
    rcases step_sound SE CO Iok h with ⟨D, h, hm⟩ | ⟨_, hm⟩
    · refine hm σ ⟨rfl, rfl, fun _ => rfl⟩ (fun l _ => by cases l <;> simp [Loc.same]) a w G S _ Q fun a' w' G' S' K' => ?_
      exact opsK_sound SE CO Iok l (i + 1) hl' h a' w' G' S' fun a'' w'' G'' σ'' S'' K'' hk => hQ _ _ _ _ S'' (K'.trans K'') hk
    · refine hm a w G S _ Q fun a' w' G' σ' S' K' h => ?_
      exact opsK_sound SE CO Iok l (i + 1) hl' h a' w' G' S' fun a'' w'' G'' σ'' S'' K'' hk => hQ _ _ _ _ S'' (K'.trans K'') hk

/-! writes that touch different things -/
theorem setN_comm {α : Type} : ∀ (l : List α) {i j : Nat} (x y : α), i ≠ j → setN (setN l i x) j y = setN (setN l j y) i x
  | [], _, _, _, _, _ => rfl
  | _ :: _, 0, 0, _, _, h => absurd rfl h
  | _ :: _, 0, _ + 1, _, _, _ => rfl
  | _ :: _, _ + 1, 0, _, _, _ => rfl
  | z :: l, i + 1, j + 1, x, y, h => by simp only [setN, setN_comm l x y (fun e => h (congrArg (· + 1) e))]
theorem setN_setN {α : Type} : ∀ (l : List α) {i : Nat} (x y : α), setN (setN l i x) i y = setN l i y
  | [], _, _, _ => rfl
  | _ :: _, 0, _, _ => rfl
  | z :: l, i + 1, x, y => by simp only [setN, setN_setN l x y]
theorem box?_setBox (m : MemT) (d s : Nat) (c : List AV) (d' s' : Nat) : box? (setBox m d s c) d' s' = if d' = d ∧ s' = s ∧ d < m.length ∧ s < (nthD [] m d).length then some c else box? m d' s' := by
  unfold box? setBox
  rw [nthD_setN]
  by_cases h : d' = d ∧ d < m.length
  · rw [if_pos h]
    obtain ⟨rfl, h⟩ := h
    rw [nthD_setN]
    by_cases h2 : s' = s ∧ s < (nthD [] m d').length
    · rw [if_pos h2, if_pos ⟨rfl, h2.1, h, h2.2⟩]
    · rw [if_neg h2, if_neg (fun q => h2 ⟨q.2.1, q.2.2.2⟩)]
  · rw [if_neg h, if_neg (fun q => h ⟨q.1, q.2.2.1⟩)]
theorem setBox_comm (m : MemT) {d s d' s' : Nat} (c c' : List AV) (h : ¬ (d = d' ∧ s = s')) : setBox (setBox m d s c) d' s' c' = setBox (setBox m d' s' c') d s c := by
  unfold setBox
  by_cases hd : d = d'
  · subst hd
    have hs : s ≠ s' := fun e => h ⟨rfl, e⟩
    rw [setN_setN, setN_setN, nthD_setN, nthD_setN]
    by_cases hl : d < m.length
    · rw [if_pos ⟨rfl, hl⟩, if_pos ⟨rfl, hl⟩, setN_comm _ _ _ hs]
    · rw [if_neg (fun q => hl q.2), if_neg (fun q => hl q.2)]
      have : ∀ x, setN m d x = m := fun x => by
        have : ∀ (m : MemT) (d : Nat), ¬ d < m.length → setN m d x = m := by
          intro m
          induction m with
          | nil => intro d _; rfl
          | cons y m ih => intro d h; cases d with
            | zero => simp at h
            | succ d => simp only [setN]; rw [ih d (by simpa using h)]
        exact this m d hl
      rw [this, this]
  · rw [nthD_setN, nthD_setN, if_neg (fun q => hd q.1.symm), if_neg (fun q => hd q.1), setN_comm _ _ _ hd]
theorem setCell_some {m : MemT} {d s o : Nat} {v : AV} {c : List AV} (h : box? m d s = some c) : setCell m d s o v = setBox m d s (setN c o v) := by simp [setCell, h]
theorem setCell_none {m : MemT} {d s o : Nat} {v : AV} (h : box? m d s = none) : setCell m d s o v = m := by simp [setCell, h]
theorem box?_lt {m : MemT} {d s : Nat} {c : List AV} (h : box? m d s = some c) : d < m.length ∧ s < (nthD [] m d).length := by
  unfold box? at h
  refine ⟨Decidable.byContradiction fun hn => ?_, Decidable.byContradiction fun hn => ?_⟩
  · rw [nthD_get [] m, List.getElem?_eq_none (by omega)] at h; simp [nthD] at h
  · rw [nthD_get none, List.getElem?_eq_none (by omega)] at h; simp at h
theorem setCell_setBox (m : MemT) {d s o d' s' : Nat} (v : AV) (c : List AV) (h : ¬ (d = d' ∧ s = s')) : setCell (setBox m d' s' c) d s o v = setBox (setCell m d s o v) d' s' c := by
  have e : box? (setBox m d' s' c) d s = box? m d s := by rw [box?_setBox, if_neg (fun q => h ⟨q.1, q.2.1⟩)]
  cases hb : box? m d s with
  | none => rw [setCell_none hb, setCell_none (e.trans hb)]
  | some x => rw [setCell_some hb, setCell_some (e.trans hb), setBox_comm _ _ _ (fun q => h ⟨q.1.symm, q.2.symm⟩)]
theorem setBox_setBox (m : MemT) (d s : Nat) (c c' : List AV) : setBox (setBox m d s c) d s c' = setBox m d s c' := by
  unfold setBox
  rw [setN_setN, nthD_setN]
  by_cases hl : d < m.length
  · rw [if_pos ⟨rfl, hl⟩, setN_setN]
  · rw [if_neg (fun q => hl q.2)]
theorem setCell_comm (m : MemT) {d s o d' s' o' : Nat} (v v' : AV) (h : ¬ (d = d' ∧ s = s' ∧ o = o')) : setCell (setCell m d s o v) d' s' o' v' = setCell (setCell m d' s' o' v') d s o v := by
  by_cases hb : d = d' ∧ s = s'
  · obtain ⟨rfl, rfl⟩ := hb
    have ho : o ≠ o' := fun e => h ⟨rfl, rfl, e⟩
    cases hx : box? m d s with
    | none => rw [setCell_none hx, setCell_none hx, setCell_none hx]
    | some c =>
      have hlt := box?_lt hx
      have e : ∀ c', box? (setBox m d s c') d s = some c' := fun c' => by rw [box?_setBox, if_pos ⟨rfl, rfl, hlt.1, hlt.2⟩]
      rw [setCell_some hx, setCell_some hx, setCell_some (e _), setCell_some (e _), setBox_setBox, setBox_setBox, setN_comm _ _ _ ho]
  · cases hx : box? m d s with
    | none =>
      rw [setCell_none hx]
      cases hy : box? m d' s' with
      | none => rw [setCell_none hy, setCell_none hx]
      | some c => rw [setCell_some hy, setCell_none]; rw [box?_setBox, if_neg (fun q => hb ⟨q.1, q.2.1⟩)]; exact hx
    | some c =>
      rw [setCell_some hx, setCell_setBox _ _ _ (fun q => hb ⟨q.1.symm, q.2.symm⟩)]
      refine (setCell_some ?_).symm
      cases hy : box? m d' s' with
      | none => rw [setCell_none hy]; exact hx
      | some c' => rw [setCell_some hy, box?_setBox, if_neg (fun q => hb ⟨q.1, q.2.1⟩)]; exact hx

theorem W.comm (σ : St) {x y : W} (h : x.clash y = false) : y.apply (x.apply σ) = x.apply (y.apply σ) := by
  cases x <;> cases y <;> simp only [W.clash, W.apply, beq_eq_false_iff_ne, ne_eq] at h ⊢
  · rw [setN_comm _ _ _ h]
  · rename_i d s o v d' s' o' v'
    rw [setCell_comm _ _ _ (by intro q; simp [q] at h)]
  · rename_i d s o v d' s' c
    rw [setCell_setBox _ _ _ (by intro q; simp [q] at h)]
  · rename_i d s c d' s' o v
    rw [setCell_setBox _ _ _ (by intro q; simp [q] at h)]
  · rename_i d s c d' s' c'
    rw [setBox_comm _ _ _ (by intro q; simp [q] at h)]
theorem applyW_comm1 (x : W) : ∀ (ws : List W) (σ : St), (∀ y ∈ ws, x.clash y = false) → applyW (x.apply σ) ws = x.apply (applyW σ ws)
  | [], _, _ => rfl
  | y :: ws, σ, h => by
    simp only [applyW]
    rw [W.comm σ (h y (by simp)), applyW_comm1 x ws _ fun z hz => h z (by simp [hz])]
theorem applyW_comm : ∀ (ws vs : List W) (σ : St), (∀ x ∈ ws, ∀ y ∈ vs, x.clash y = false) → applyW (applyW σ ws) vs = applyW (applyW σ vs) ws
  | [], _, _, _ => rfl
  | x :: ws, vs, σ, h => by
    simp only [applyW]
    rw [applyW_comm ws vs _ fun z hz => h z (by simp [hz]), applyW_comm1 x vs σ (h x (by simp))]

/-! what a write leaves as it was -/
theorem W.shape (σ : St) (x : W) : Shape σ (x.apply σ) := by
  have hbox : ∀ (m : MemT) (d s : Nat) (c : List AV), (setBox m d s c).length = m.length ∧ ∀ e, (nthD [] (setBox m d s c) e).length = (nthD [] m e).length := fun m d s c => by
    refine ⟨by simp [setBox, length_setN], fun e => ?_⟩
    unfold setBox
    rw [nthD_setN]
    by_cases h : e = d ∧ d < m.length
    · rw [if_pos h, length_setN, h.1]
    · rw [if_neg h]
  cases x with
  | tmp i v => exact ⟨by simp [W.apply, length_setN], rfl, fun _ => rfl⟩
  | cell d s o v =>
    simp only [W.apply, setCell]
    split
    · exact ⟨rfl, (hbox _ _ _ _).1, (hbox _ _ _ _).2⟩
    · exact ⟨rfl, rfl, fun _ => rfl⟩
  | box d s c => exact ⟨rfl, (hbox _ _ _ _).1, (hbox _ _ _ _).2⟩
theorem Shape.refl (σ : St) : Shape σ σ := ⟨rfl, rfl, fun _ => rfl⟩
theorem Shape.trans {a b c : St} (h : Shape a b) (k : Shape b c) : Shape a c := ⟨k.1.trans h.1, k.2.1.trans h.2.1, fun d => (k.2.2 d).trans (h.2.2 d)⟩
theorem Shape.symm {a b : St} (h : Shape a b) : Shape b a := ⟨h.1.symm, h.2.1.symm, fun d => (h.2.2 d).symm⟩
theorem applyW_shape : ∀ (ws : List W) (σ : St), Shape σ (applyW σ ws)
  | [], σ => Shape.refl σ
  | x :: ws, σ => (x.shape σ).trans (applyW_shape ws _)
theorem Loc.same.refl (σ : St) (l : Loc) : Loc.same σ σ l := by cases l <;> simp [Loc.same]
theorem Loc.same.trans {a b c : St} {l : Loc} (h : Loc.same a b l) (k : Loc.same b c l) : Loc.same a c l := by
  cases l with
  | tmp i => exact Eq.trans k h
  | glob g => exact Eq.trans k h
  | own g => exact Eq.trans k h
  | cell d s o => exact ⟨k.1.trans h.1, k.2.trans h.2⟩
  | box d s => exact Eq.trans k h
theorem Loc.same.symm {a b : St} {l : Loc} (h : Loc.same a b l) : Loc.same b a l := by
  cases l with
  | tmp i => exact Eq.symm h
  | glob g => exact Eq.symm h
  | own g => exact Eq.symm h
  | cell d s o => exact ⟨h.1.symm, h.2.symm⟩
  | box d s => exact Eq.symm h
theorem box?_setCell (m : MemT) (d s o : Nat) (v : AV) (d' s' : Nat) : box? (setCell m d s o v) d' s' = if d' = d ∧ s' = s then (box? m d s).map (fun c => setN c o v) else box? m d' s' := by
  cases hx : box? m d s with
  | none =>
    rw [setCell_none hx]
    by_cases h : d' = d ∧ s' = s
    · rw [if_pos h, h.1, h.2, hx]; rfl
    · rw [if_neg h]
  | some c =>
    have hlt := box?_lt hx
    rw [setCell_some hx, box?_setBox]
    by_cases h : d' = d ∧ s' = s
    · rw [if_pos ⟨h.1, h.2, hlt.1, hlt.2⟩, if_pos h]; rfl
    · rw [if_neg (fun q => h ⟨q.1, q.2.1⟩), if_neg h]
theorem W.miss (σ : St) {x : W} {l : Loc} (h : l.hit x = false) : Loc.same σ (x.apply σ) l := by
  cases x with
  | tmp i v => cases l with
    | tmp j => simp only [Loc.hit, beq_eq_false_iff_ne, ne_eq] at h; simp only [Loc.same, W.apply]; rw [nthD_setN, if_neg (fun q => h q.1)]
    | cell _ _ _ => simp [Loc.same, W.apply, St.has]
    | box _ _ => simp [Loc.same, W.apply]
    | glob _ => simp [Loc.same, W.apply]
    | own _ => simp [Loc.same, W.apply]
  | cell d s o v => cases l with
    | tmp j => simp [Loc.same, W.apply]
    | glob _ => simp [Loc.same, W.apply]
    | own _ => simp [Loc.same, W.apply]
    | cell d' s' o' =>
      simp only [Loc.hit] at h
      simp only [Loc.same, W.apply, St.has, cellOf]
      rw [box?_setCell]
      by_cases e : d' = d ∧ s' = s
      · obtain ⟨rfl, rfl⟩ := e
        have ho : o' ≠ o := fun q => by simp [q] at h
        rw [if_pos ⟨rfl, rfl⟩]
        cases box? σ.mem d' s' with
        | none => exact ⟨rfl, rfl⟩
        | some c => simp [length_setN, nthD_setN, ho]
      · rw [if_neg e]; exact ⟨rfl, rfl⟩
    | box d' s' =>
      simp only [Loc.same, W.apply]
      rw [box?_setCell]
      by_cases e : d' = d ∧ s' = s
      · rw [if_pos e, e.1, e.2]; cases box? σ.mem d s <;> rfl
      · rw [if_neg e]
  | box d s c => cases l with
    | tmp j => simp [Loc.same, W.apply]
    | glob _ => simp [Loc.same, W.apply]
    | own _ => simp [Loc.same, W.apply]
    | cell d' s' o' =>
      simp only [Loc.hit] at h
      have e : box? (setBox σ.mem d s c) d' s' = box? σ.mem d' s' := by rw [box?_setBox, if_neg (fun q => by simp [q.1, q.2.1] at h)]
      simp only [Loc.same, W.apply, St.has, cellOf, e, and_self]
    | box d' s' =>
      simp only [Loc.hit] at h
      have e : box? (setBox σ.mem d s c) d' s' = box? σ.mem d' s' := by rw [box?_setBox, if_neg (fun q => by simp [q.1, q.2.1] at h)]
      simp only [Loc.same, W.apply, e]
/-- the same write keeps the same the same -/
theorem W.both {σ σ' : St} (hs : Shape σ σ') {l : Loc} (h : Loc.same σ σ' l) (x : W) : Loc.same (x.apply σ) (x.apply σ') l := by
  cases hh : l.hit x with
  | false => exact ((W.miss σ hh).symm.trans h).trans (W.miss σ' hh)
  | true =>
    cases x with
    | tmp i v => cases l with
      | tmp j => simp only [Loc.hit, beq_iff_eq] at hh; subst hh; simp only [Loc.same, W.apply, nthD_setN, hs.1]; split <;> first | rfl | exact h
      | cell _ _ _ => simp [Loc.hit] at hh
      | box _ _ => simp [Loc.hit] at hh
      | glob _ => simp [Loc.hit] at hh
      | own _ => simp [Loc.hit] at hh
    | cell d s o v => cases l with
      | tmp j => simp [Loc.hit] at hh
      | glob _ => simp [Loc.hit] at hh
      | own _ => simp [Loc.hit] at hh
      | box _ _ => simp [Loc.hit] at hh
      | cell d' s' o' =>
        simp only [Loc.hit, Bool.and_eq_true, beq_iff_eq] at hh
        obtain ⟨⟨rfl, rfl⟩, rfl⟩ := hh
        simp only [Loc.same, W.apply, St.has, cellOf] at h ⊢
        rw [box?_setCell, box?_setCell, if_pos ⟨rfl, rfl⟩, if_pos ⟨rfl, rfl⟩]
        obtain ⟨h1, _⟩ := h
        cases hx : box? σ.mem d' s' with
        | none => cases hy : box? σ'.mem d' s' with
          | none => exact ⟨rfl, rfl⟩
          | some c =>
            rw [hx, hy] at h1
            simp only [decide_eq_false_iff_not, Nat.not_lt] at h1
            have e : ¬ o' < c.length := by omega
            simp only [Option.map_some, Option.map_none, length_setN, nthD_setN, e, decide_false, and_false, if_false, true_and]
            rw [nthD_get, List.getElem?_eq_none h1]; rfl
        | some c => cases hy : box? σ'.mem d' s' with
          | none =>
            rw [hx, hy] at h1
            have h1 : ¬ o' < c.length := by simpa using h1.symm
            simp only [Option.map_some, Option.map_none, length_setN, nthD_setN, h1, decide_false, and_false, if_false, true_and]
            rw [nthD_get, List.getElem?_eq_none (by omega)]; rfl
          | some c' =>
            rw [hx, hy] at h1
            have h1 : (o' < c'.length) = (o' < c.length) := by simpa using h1
            simp only [Option.map_some, length_setN, nthD_setN, h1, true_and]
            by_cases e : o' < c.length
            · simp [e]
            · simp only [e, if_false]
              have e' : ¬ o' < c'.length := by rw [h1]; exact e
              rw [nthD_get, nthD_get, List.getElem?_eq_none (by omega), List.getElem?_eq_none (by omega)]
    | box d s c => cases l with
      | tmp j => simp [Loc.hit] at hh
      | glob _ => simp [Loc.hit] at hh
      | own _ => simp [Loc.hit] at hh
      | cell d' s' o' =>
        simp only [Loc.hit, Bool.and_eq_true, beq_iff_eq] at hh
        obtain ⟨rfl, rfl⟩ := hh
        simp only [Loc.same, W.apply, St.has, cellOf] at h ⊢
        rw [box?_setBox, box?_setBox]
        simp only [hs.2.1, hs.2.2 d', true_and]
        by_cases e : d' < σ.mem.length ∧ s' < (nthD [] σ.mem d').length
        · rw [if_pos e, if_pos e]; exact ⟨rfl, rfl⟩
        · rw [if_neg e, if_neg e]; exact h
      | box d' s' =>
        simp only [Loc.hit, Bool.and_eq_true, beq_iff_eq] at hh
        obtain ⟨rfl, rfl⟩ := hh
        simp only [Loc.same, W.apply] at h ⊢
        rw [box?_setBox, box?_setBox]
        simp only [hs.2.1, hs.2.2 d', true_and]
        split
        · rfl
        · exact h
theorem applyW_both : ∀ (ws : List W) {σ σ' : St}, Shape σ σ' → ∀ {l : Loc}, Loc.same σ σ' l → Loc.same (applyW σ ws) (applyW σ' ws) l ∧ Shape (applyW σ ws) (applyW σ' ws)
  | [], _, _, hs, _, h => ⟨h, hs⟩
  | x :: ws, σ, σ', hs, l, h => by
    simp only [applyW]
    exact applyW_both ws (((x.shape σ).symm.trans hs).trans (x.shape σ')) (W.both hs h x)
theorem applyW_miss : ∀ (ws : List W) (σ : St) {l : Loc}, (∀ x ∈ ws, l.hit x = false) → Loc.same σ (applyW σ ws) l
  | [], σ, l, _ => Loc.same.refl σ l
  | x :: ws, σ, l, h => by
    simp only [applyW]
    exact (W.miss σ (h x (by simp))).trans (applyW_miss ws _ fun y hy => h y (by simp [hy]))
end Go.Am
/- A region of the abstract machine whose order is drawn is sound. Conditions: none. -/
namespace Go.Am
open Go.RowKit
variable {P : Program} {B : Nat} {W0 : Base} {d : Nat} {σ : St} {a : Act} {w : World} {G : Gh} {β : Type} {call : FuncId → List CV → Option CV}
  {inl : FuncId → List AV → MemT → (AV → MemT → Option β) → Option β} {acc : List Loc} {r : β} {o : Oper} {ops : Array Oper}

/-! the table of what comes before what -/
def lookStep (look : Nat → Nat) (s : Nat) (e : Edge) : Nat := if Region.binds .any e then s ||| 2 ^ e.on ||| look e.on else s
theorem edges_bit (look : Nat → Nat) {i : Nat} : ∀ (l : List Edge) (s : Nat), (l.foldl (lookStep look) s).testBit i = true → s.testBit i = true ∨ ∃ e ∈ l, Region.binds .any e = true ∧ (e.on = i ∨ (look e.on).testBit i = true)
  | [], s, h => .inl h
  | e :: l, s, h => by
    rcases edges_bit look l _ h with h | ⟨e', h1, h2⟩
    · unfold lookStep at h
      by_cases hb : Region.binds .any e
      · rw [if_pos hb] at h
        rw [Nat.testBit_or, Nat.testBit_or, Bool.or_eq_true, Bool.or_eq_true] at h
        rcases h with (h | h) | h
        · exact .inl h
        · rw [Nat.testBit_two_pow] at h
          exact .inr ⟨e, by simp, hb, .inl (by simpa using h)⟩
        · exact .inr ⟨e, by simp, hb, .inr h⟩
      · rw [if_neg hb] at h; exact .inl h
    · exact .inr ⟨e', by simp [h1], h2⟩
def befStep (acc : Array Nat) (o : Oper) : Array Nat := acc.push (o.after.toList.foldl (lookStep fun i => acc.getD i 0) 0)
theorem before_fold (ops : Array Oper) : Region.before ops = ops.toList.foldl befStep #[] := by
  unfold Region.before
  rw [← Array.foldl_toList]
  congr 1
  funext acc o
  unfold befStep lookStep
  rw [Array.foldl_toList]
theorem bef_size : ∀ (l : List Oper) (A : Array Nat), (l.foldl befStep A).size = A.size + l.length
  | [], A => by simp
  | o :: l, A => by rw [List.foldl_cons, bef_size l]; simp [befStep]; omega
theorem bef_get : ∀ (l : List Oper) (A : Array Nat) (j : Nat), j < A.size → (l.foldl befStep A).getD j 0 = A.getD j 0
  | [], A, j, _ => rfl
  | o :: l, A, j, h => by
    rw [List.foldl_cons, bef_get l _ j (by simp [befStep]; omega)]
    simp [befStep, Array.getElem?_push, Nat.ne_of_lt h]
theorem bef_bit : ∀ (l : List Oper) (A : Array Nat) (t i : Nat) (o : Oper), l[t]? = some o → ((l.foldl befStep A).getD (A.size + t) 0).testBit i = true →
    ∃ e ∈ o.after.toList, Region.binds .any e = true ∧ (e.on = i ∨ (e.on < A.size + t ∧ ((l.foldl befStep A).getD e.on 0).testBit i = true))
  | [], A, t, i, o, h, _ => by simp at h
  | x :: l, A, 0, i, o, h, hb => by
    simp only [List.getElem?_cons_zero, Option.some.injEq] at h
    subst h
    rw [List.foldl_cons, Nat.add_zero, bef_get l _ _ (by simp [befStep])] at hb
    have e1 : (befStep A x).getD A.size 0 = x.after.toList.foldl (lookStep fun i => A.getD i 0) 0 := by simp [befStep]
    rw [e1] at hb
    rcases edges_bit _ _ _ hb with hb | ⟨e, h1, h2, h3⟩
    · simp at hb
    · refine ⟨e, h1, h2, ?_⟩
      rcases h3 with h3 | h3
      · exact .inl h3
      · have hlt : e.on < A.size := Decidable.byContradiction fun hn => by
          have : A.getD e.on 0 = 0 := by rw [Array.getD_eq_getD_getElem?, Array.getElem?_eq_none (by omega)]; rfl
          rw [this] at h3; simp at h3
        refine .inr ⟨by omega, ?_⟩
        rw [List.foldl_cons, bef_get l _ _ (by simp [befStep]; omega)]
        have : (befStep A x).getD e.on 0 = A.getD e.on 0 := by
          have := bef_get [x] A e.on hlt
          simpa using this
        rw [this]; exact h3
  | x :: l, A, t + 1, i, o, h, hb => by
    simp only [List.foldl_cons] at hb ⊢
    have hs : (befStep A x).size = A.size + 1 := by simp [befStep]
    rw [show A.size + (t + 1) = (befStep A x).size + t by omega] at hb ⊢
    exact bef_bit l (befStep A x) t i o (by simpa using h) hb
def bitOf (ops : Array Oper) (j i : Nat) : Bool := (nthD 0 (Region.before ops).toList j).testBit i
theorem bitOf_spec {j i : Nat} (h : bitOf ops j i = true) : ∃ o, ops[j]? = some o ∧ ∃ e ∈ o.after, Region.binds .any e = true ∧ (e.on = i ∨ (e.on < j ∧ bitOf ops e.on i = true)) := by
  have key : ∀ j, nthD 0 (Region.before ops).toList j = (ops.toList.foldl befStep #[]).getD j 0 := fun j => by
    rw [nthD_get, before_fold, Array.getD_eq_getD_getElem?, Array.getElem?_toList]
  unfold bitOf at *
  simp only [key] at *
  cases ho : ops[j]? with
  | none =>
    have : ops.size ≤ j := by simpa using ho
    have e : (ops.toList.foldl befStep #[]).getD j 0 = 0 := by
      rw [Array.getD_eq_getD_getElem?, Array.getElem?_eq_none (by rw [bef_size]; simpa using this)]; rfl
    rw [e] at h; simp at h
  | some o =>
    have := bef_bit ops.toList #[] j i o (by simpa using ho) (by simpa using h)
    obtain ⟨e, h1, h2, h3⟩ := this
    exact ⟨o, rfl, e, by simpa using h1, h2, by simpa using h3⟩

/-- whatever is listed waited for what it waits for -/
def Closed (ops : Array Oper) (L : Array Bool) : Prop := ∀ j o, L.getD j false = true → ops[j]? = some o → ∀ e ∈ o.after, Region.binds .any e = true → L.getD e.on false = true
theorem closed_bit {L : Array Bool} (hc : Closed ops L) : ∀ j i, (∀ o, ops[j]? = some o → ∀ e ∈ o.after, Region.binds .any e = true → L.getD e.on false = true) → bitOf ops j i = true → L.getD i false = true := by
  intro j
  induction j using Nat.strongRecOn with
  | _ j ih =>
    intro i hj h
    obtain ⟨o, ho, e, he, hb, h⟩ := bitOf_spec h
    have h1 := hj o ho e he hb
    rcases h with h | ⟨hlt, h⟩
    · rw [← h]; exact h1
    · exact ih e.on hlt i (fun o' ho' => hc e.on o' h1 ho') h

/-! what 'agree' says -/
theorem agree_spec {before : List Nat} : ∀ {ds : List Did} {n : Nat}, agree before n ds = true → ds.length ≤ n → ∀ p q x y, p < q → ds.reverse[p]? = some y → ds.reverse[q]? = some x →
    (nthD 0 before (n - ds.length + q)).testBit (n - ds.length + p) = true ∨ x.conflict y = false
  | [], n, _, _, p, q, x, y, _, h, _ => by simp at h
  | z :: r, n, h, hn, p, q, x, y, hpq, hy, hx => by
    simp only [agree, Bool.and_eq_true, List.all_eq_true] at h
    obtain ⟨h1, h2⟩ := h
    simp only [List.length_cons] at hn
    rw [List.reverse_cons] at hx hy
    have hq : q < r.length + 1 := by
      have := (List.getElem?_eq_some_iff.1 hx).1
      simpa using this
    have hyr : r.reverse[p]? = some y := by
      rw [List.getElem?_append_left (by simp; omega)] at hy; exact hy
    have en : n - (z :: r).length = n - 1 - r.length := by simp; omega
    rw [en]
    by_cases hlast : q = r.length
    · subst hlast
      have hxz : x = z := by
        rw [List.getElem?_append_right (by simp)] at hx
        simpa using hx.symm
      subst hxz
      have hyk : r[r.length - 1 - p]? = some y := by
        rw [List.getElem?_reverse (by omega)] at hyr; exact hyr
      have := h1 (y, r.length - 1 - p) (by rw [List.mem_zipIdx_iff_getElem?]; exact hyk)
      simp only [Bool.or_eq_true, Bool.not_eq_true'] at this
      have e1 : n - 1 - r.length + r.length = n - 1 := by omega
      have e2 : n - 2 - (r.length - 1 - p) = n - 1 - r.length + p := by omega
      rw [e1, ← e2]
      exact this
    · have hxr : r.reverse[q]? = some x := by
        rw [List.getElem?_append_left (by simp; omega)] at hx; exact hx
      exact agree_spec h2 (by omega) p q x y hpq hyr hxr
theorem conflict_no {x y : Did} (h : x.conflict y = false) : (∀ v ∈ x.writes, ∀ l ∈ y.reads, l.hit v = false) ∧ (∀ v ∈ y.writes, ∀ l ∈ x.reads, l.hit v = false) ∧ (∀ v ∈ x.writes, ∀ u ∈ y.writes, u.clash v = false) := by
  unfold Did.conflict at h
  simp only [Bool.or_eq_false_iff, List.any_eq_false, Bool.or_eq_true, not_or, List.any_eq_true, not_exists, not_and, Bool.not_eq_true] at h
  exact ⟨fun v hv l hl => (h.1 v hv).1 l hl, fun v hv l hl => h.2 v hv l hl, fun v hv u hu => (h.1 v hv).2 u hu⟩

/-! a stretch without calls in place -/
def Steps (P : Program) (B : Nat) (W0 : Base) (d : Nat) (ops : Array Oper) : St → Nat → List Did → St → Prop
  | σ, _, [], σ' => σ' = σ
  | σ, i, D :: E, σ' => (∃ o, ops[i]? = some o ∧ Moves P B W0 d ops o σ D) ∧ Steps P B W0 d ops (applyW σ D.writes) (i + 1) E σ'

/-- a call in place at m, and what comes after it -/
def Turns (P : Program) (B : Nat) (W0 : Base) (d : Nat) (ops : Array Oper) (rest : St → Prop) (σ : St) (o : Oper) : Prop :=
  ∀ a w G, Sim P B W0 d σ a w G → ∀ (K : Act → World → Prop) (Q : Exit → Act → World → Prop),
    (∀ a' w' G' σ', Sim P B W0 d σ' a' w' G' → Keeps B d w w' G G' → rest σ' → K a' w') → wpO P ops Q o K a w

noncomputable abbrev drawK (P : Program) (call : FuncId → List CV → Option CV) (inl : FuncId → List AV → MemT → (AV → MemT → Option β) → Option β) (d : Nat) (ops : Array Oper) (i : Nat) (ds : List Did) (k : St → Option β) (σ : St) : Option β :=
  opsDrawK P call inl d (Region.before ops).toList ops.toList (ops.toList.drop i) i ds k σ

theorem draw_segment (SE : StructEqOk P) (CO : CallOK P B W0 call) (Iok : InlOK P B W0 inl) {k : St → Option β} : ∀ (l : List Oper) (i : Nat), i ≤ ops.size → ops.toList.drop i = l → ∀ (ds : List Did) (σ : St), drawK P call inl d ops i ds k σ = some r →
    ∃ E σ', Steps P B W0 d ops σ i E σ' ∧
      ((i + E.length = ops.size ∧ agree (Region.before ops).toList ops.size (E.reverse ++ ds) = true ∧ k σ' = some r) ∨
       (i + E.length < ops.size ∧ agree (Region.before ops).toList (i + E.length) (E.reverse ++ ds) = true ∧ barrier (Region.before ops).toList (i + E.length) ops.size = true ∧
         ∃ o, ops[i + E.length]? = some o ∧ Turns P B W0 d ops (fun σ'' => drawK P call inl d ops (i + E.length + 1) [] k σ'' = some r) σ' o))
  | [], i, hi, hl, ds, σ, h => by
    have hn : ops.size = i := by
      have : ops.size ≤ i := by simpa using hl
      omega
    unfold drawK at h
    rw [hl] at h
    change endDraw (Region.before ops).toList ops.toList.length ds k σ = some r at h
    obtain ⟨h1, h2⟩ := chkO_some h
    exact ⟨[], σ, rfl, .inl ⟨by simp [hn], by simpa using h1, h2⟩⟩
  | o :: l, i, hi, hl, ds, σ, h => by
    have hlt : i < ops.size := Decidable.byContradiction fun hn => by
      rw [List.drop_eq_nil_of_le (by simp; omega)] at hl; cases hl
    have ho : ops[i]? = some o := by
      have : (ops.toList.drop i)[0]? = some o := by rw [hl]; rfl
      simpa using this
    have hl' : ops.toList.drop (i + 1) = l := by
      have : (ops.toList.drop i).drop 1 = l := by rw [hl]; rfl
      simpa [List.drop_drop, Nat.add_comm] using this
    unfold drawK at h
    rw [hl] at h
    change stepK P call inl d σ ops.toList o (barrier (Region.before ops).toList i ops.toList.length && agree (Region.before ops).toList i ds) (drawDid (opsDrawK P call inl d (Region.before ops).toList ops.toList l) i ds k)
      (opsDrawK P call inl d (Region.before ops).toList ops.toList l (i + 1) [] k) = some r at h
    rcases step_sound SE CO Iok h with ⟨D, h, hm⟩ | ⟨hp, hm⟩
    · have h : drawK P call inl d ops (i + 1) (D :: ds) k (applyW σ D.writes) = some r := by unfold drawK; rw [hl']; exact h
      obtain ⟨E, σ', h1, h2⟩ := draw_segment SE CO Iok l (i + 1) (by omega) hl' (D :: ds) _ h
      refine ⟨D :: E, σ', ⟨⟨o, ho, hm⟩, h1⟩, ?_⟩
      have e : i + (D :: E).length = i + 1 + E.length := by simp; omega
      have e2 : (D :: E).reverse ++ ds = E.reverse ++ (D :: ds) := by simp
      rw [e, e2]
      exact h2
    · rw [Bool.and_eq_true] at hp
      refine ⟨[], σ, rfl, .inr ⟨by simpa using hlt, by simpa using hp.2, by simpa using hp.1, o, by simpa using ho, ?_⟩⟩
      intro a w G S K Q hK
      refine hm a w G S K Q fun a' w' G' σ' S' K' h => hK a' w' G' σ' S' K' ?_
      unfold drawK
      simp only [List.length_nil, Nat.add_zero]
      rw [hl']; exact h
end Go.Am
/- A region of the abstract machine is sound in every order that can be drawn. Conditions: none. -/
namespace Go.Am
open Go.RowKit
variable {P : Program} {B : Nat} {W0 : Base} {d : Nat} {σ : St} {a : Act} {w : World} {G : Gh} {β : Type} {call : FuncId → List CV → Option CV}
  {inl : FuncId → List AV → MemT → (AV → MemT → Option β) → Option β} {acc : List Loc} {r : β} {o : Oper} {ops : Array Oper}

/-- the state behind those operations of a stretch that are listed -/
def part (L : Nat → Bool) : St → Nat → List Did → St
  | σ, _, [] => σ
  | σ, i, D :: E => part L (if L i then applyW σ D.writes else σ) (i + 1) E
theorem part_shape (L : Nat → Bool) : ∀ (E : List Did) (σ : St) (i : Nat), Shape σ (part L σ i E)
  | [], σ, _ => Shape.refl σ
  | D :: E, σ, i => by
    simp only [part]
    refine Shape.trans ?_ (part_shape L E _ _)
    split
    · exact applyW_shape _ _
    · exact Shape.refl σ
theorem part_congr {L L' : Nat → Bool} : ∀ (E : List Did) (σ : St) (i : Nat), (∀ q, q < E.length → L (i + q) = L' (i + q)) → part L σ i E = part L' σ i E
  | [], _, _, _ => rfl
  | D :: E, σ, i, h => by
    simp only [part]
    have h0 := h 0 (by simp)
    simp only [Nat.add_zero] at h0
    rw [h0]
    exact part_congr E _ _ fun q hq => by
      have := h (q + 1) (by simpa using hq)
      rw [show i + 1 + q = i + (q + 1) by omega]; exact this
theorem part_none {L : Nat → Bool} : ∀ (E : List Did) (σ : St) (i : Nat), (∀ q, q < E.length → L (i + q) = false) → part L σ i E = σ
  | [], _, _, _ => rfl
  | D :: E, σ, i, h => by
    simp only [part]
    have h0 := h 0 (by simp)
    simp only [Nat.add_zero] at h0
    rw [h0]
    exact part_none E _ _ fun q hq => by
      have := h (q + 1) (by simpa using hq)
      rw [show i + 1 + q = i + (q + 1) by omega]; exact this
theorem part_miss {L : Nat → Bool} {l : Loc} : ∀ (E : List Did) (σ : St) (i : Nat), (∀ q D, E[q]? = some D → L (i + q) = true → ∀ v ∈ D.writes, l.hit v = false) → Loc.same σ (part L σ i E) l
  | [], σ, _, _ => Loc.same.refl σ l
  | D :: E, σ, i, h => by
    simp only [part]
    have ht : ∀ σ, Loc.same σ (part L σ (i + 1) E) l := fun σ => part_miss E σ (i + 1) fun q D' hq hl => h (q + 1) D' (by simpa using hq) (by rw [show i + (q + 1) = i + 1 + q by omega]; exact hl)
    by_cases hl : L i = true
    · rw [if_pos hl]
      exact (applyW_miss D.writes σ (h 0 D (by simp) (by simpa using hl))).trans (ht _)
    · rw [if_neg hl]; exact ht σ
theorem part_read {L : Nat → Bool} {l : Loc} : ∀ (E : List Did) (p i : Nat) (σ σ' : St), Shape σ σ' → Loc.same σ σ' l → L (i + p) = false →
    (∀ q D, E[q]? = some D → (q < p ∧ L (i + q) = false) ∨ (p < q ∧ L (i + q) = true) → ∀ v ∈ D.writes, l.hit v = false) → Loc.same (part (fun _ => true) σ i (E.take p)) (part L σ' i E) l
  | [], p, i, σ, σ', _, h, _, _ => by simpa [part] using h
  | D :: E, 0, i, σ, σ', _, h, hp, hh => by
    simp only [List.take_zero, part]
    rw [Nat.add_zero] at hp
    rw [if_neg (by rw [hp]; simp)]
    exact h.trans (part_miss E σ' (i + 1) fun q D' hq hl => hh (q + 1) D' (by simpa using hq) (.inr ⟨by omega, by rw [show i + (q + 1) = i + 1 + q by omega]; exact hl⟩))
  | D :: E, p + 1, i, σ, σ', hs, h, hp, hh => by
    simp only [List.take_succ_cons, part, if_true]
    have hp' : L (i + 1 + p) = false := by rw [show i + 1 + p = i + (p + 1) by omega]; exact hp
    have hh' : ∀ q D, E[q]? = some D → (q < p ∧ L (i + 1 + q) = false) ∨ (p < q ∧ L (i + 1 + q) = true) → ∀ v ∈ D.writes, l.hit v = false := fun q D' hq hor => by
      refine hh (q + 1) D' (by simpa using hq) ?_
      rw [show i + (q + 1) = i + 1 + q by omega]
      rcases hor with ⟨h1, h2⟩ | ⟨h1, h2⟩
      · exact .inl ⟨by omega, h2⟩
      · exact .inr ⟨by omega, h2⟩
    by_cases hl : L i = true
    · rw [if_pos hl]
      obtain ⟨h1, h2⟩ := applyW_both D.writes hs h
      exact part_read E p (i + 1) _ _ h2 h1 hp' hh'
    · rw [if_neg hl]
      refine part_read E p (i + 1) _ _ ((applyW_shape D.writes σ).symm.trans hs) ?_ hp' hh'
      exact (applyW_miss D.writes σ (hh 0 D (by simp) (.inl ⟨by omega, by simpa using hl⟩))).symm.trans h
theorem part_comm {L : Nat → Bool} {ws : List W} : ∀ (E : List Did) (σ : St) (i : Nat), (∀ q D, E[q]? = some D → L (i + q) = true → ∀ u ∈ ws, ∀ v ∈ D.writes, u.clash v = false) → part L (applyW σ ws) i E = applyW (part L σ i E) ws
  | [], _, _, _ => rfl
  | D :: E, σ, i, h => by
    simp only [part]
    have ht : ∀ σ, part L (applyW σ ws) (i + 1) E = applyW (part L σ (i + 1) E) ws := fun σ => part_comm E σ (i + 1) fun q D' hq hl => h (q + 1) D' (by simpa using hq) (by rw [show i + (q + 1) = i + 1 + q by omega]; exact hl)
    by_cases hl : L i = true
    · rw [if_pos hl, if_pos hl, applyW_comm ws D.writes σ (h 0 D (by simp) (by simpa using hl))]
      exact ht _
    · rw [if_neg hl, if_neg hl]; exact ht σ
theorem part_add {L L' : Nat → Bool} {D : Did} : ∀ (E : List Did) (p i : Nat) (σ : St), E[p]? = some D → L (i + p) = false → (∀ j, L' j = if j = i + p then true else L j) →
    (∀ q D', E[q]? = some D' → p < q → L (i + q) = true → ∀ u ∈ D.writes, ∀ v ∈ D'.writes, u.clash v = false) → part L' σ i E = applyW (part L σ i E) D.writes
  | [], p, i, σ, h, _, _, _ => by simp at h
  | D0 :: E, 0, i, σ, h, hp, hL, hc => by
    simp only [List.getElem?_cons_zero, Option.some.injEq] at h
    subst h
    simp only [part]
    rw [Nat.add_zero] at hp
    rw [if_neg (show ¬ L i = true by rw [hp]; simp), if_pos (by rw [hL i]; simp)]
    rw [part_congr (L := L') (L' := L) E _ (i + 1) fun q _ => by rw [hL]; rw [if_neg (by omega)]]
    exact part_comm E σ (i + 1) fun q D' hq hl => hc (q + 1) D' (by simpa using hq) (by omega) (by rw [show i + (q + 1) = i + 1 + q by omega]; exact hl)
  | D0 :: E, p + 1, i, σ, h, hp, hL, hc => by
    simp only [part]
    have e : L' i = L i := by rw [hL, if_neg (by omega)]
    rw [e]
    refine part_add E p (i + 1) _ (by simpa using h) (by rw [show i + 1 + p = i + (p + 1) by omega]; exact hp) (fun j => by rw [hL, show i + 1 + p = i + (p + 1) by omega]) fun q D' hq hpq hl => ?_
    exact hc (q + 1) D' (by simpa using hq) (by omega) (by rw [show i + (q + 1) = i + 1 + q by omega]; exact hl)

theorem Steps.get : ∀ {E : List Did} {σ σ' : St} {i : Nat}, Steps P B W0 d ops σ i E σ' → σ' = part (fun _ => true) σ i E ∧
    ∀ p D, E[p]? = some D → ∃ o, ops[i + p]? = some o ∧ Moves P B W0 d ops o (part (fun _ => true) σ i (E.take p)) D
  | [], σ, σ', i, h => ⟨h, fun p D hp => by simp at hp⟩
  | D0 :: E, σ, σ', i, h => by
    obtain ⟨⟨o, ho, hm⟩, h⟩ := h
    obtain ⟨h1, h2⟩ := Steps.get h
    refine ⟨by simpa [part] using h1, fun p D hp => ?_⟩
    cases p with
    | zero => simp at hp; subst hp; exact ⟨o, by simpa using ho, by simpa [part] using hm⟩
    | succ p =>
      obtain ⟨o', q1, q2⟩ := h2 p D (by simpa using hp)
      exact ⟨o', by rw [show i + (p + 1) = i + 1 + p by omega]; exact q1, by simpa [part] using q2⟩

/-! how many are left -/
def unl (f : Nat → Bool) : Nat → Nat
  | 0 => 0
  | n + 1 => (if f n then 0 else 1) + unl f n
theorem unl_zero {f : Nat → Bool} : ∀ {n : Nat}, unl f n = 0 → ∀ j, j < n → f j = true
  | 0, _, j, h => by omega
  | n + 1, h, j, hj => by
    simp only [unl] at h
    by_cases e : j = n
    · subst e
      cases hf : f j with
      | true => rfl
      | false => rw [hf] at h; simp at h
    · exact unl_zero (n := n) (by omega) j (by omega)
theorem unl_same {f f' : Nat → Bool} : ∀ {n : Nat}, (∀ j, j < n → f' j = f j) → unl f' n = unl f n
  | 0, _ => rfl
  | n + 1, h => by simp only [unl]; rw [h n (by omega), unl_same fun j hj => h j (by omega)]
theorem unl_less {f f' : Nat → Bool} {i : Nat} (hi : f i = false) (h : ∀ j, f' j = if j = i then true else f j) : ∀ {n : Nat}, i < n → unl f' n + 1 = unl f n
  | 0, hn => by omega
  | n + 1, hn => by
    simp only [unl]
    by_cases e : i = n
    · subst e
      rw [h i, if_pos rfl, hi, unl_same (f := f) (f' := f') fun j hj => by rw [h, if_neg (by omega)]]
      simp; omega
    · have e1 : f' n = f n := by rw [h n, if_neg (Ne.symm e)]
      have := unl_less hi h (n := n) (by omega)
      rw [e1]
      omega

theorem edgesDown_spec : ∀ (l : List Oper) (i : Nat), edgesDown i l = true → ∀ j o, l[j]? = some o → ∀ e ∈ o.after, Region.binds .any e = true → e.on < i + j
  | [], _, _, j, o, h, _, _, _ => by simp at h
  | x :: l, i, h, 0, o, ho, e, he, hb => by
    simp only [edgesDown, Bool.and_eq_true, List.all_eq_true, Bool.or_eq_true, decide_eq_true_eq] at h
    simp at ho; subst ho
    rcases h.1 e (by simpa using he) with q | q
    · exact q
    · rw [hb] at q; cases q
  | x :: l, i, h, j + 1, o, ho, e, he, hb => by
    simp only [edgesDown, Bool.and_eq_true] at h
    have := edgesDown_spec l (i + 1) h.2 j o (by simpa using ho) e he hb
    omega
theorem ready_spec {L : Array Bool} (hs : L.size = ops.size) {j : Nat} : j ∈ Region.ready .any ops L ↔ j < ops.size ∧ L.getD j false = false ∧ ∀ o, ops[j]? = some o → ∀ e ∈ o.after, Region.binds .any e = true → L.getD e.on false = true := by
  rw [mem_ready]
  constructor
  · rintro ⟨h0, o, ho, h⟩
    have hlt : j < ops.size := (Array.getElem?_eq_some_iff.1 ho).1
    refine ⟨hlt, ?_, fun o' ho' => ?_⟩
    · have : j < L.size := by omega
      simp [this] at h0 ⊢; exact h0
    · rw [ho] at ho'; cases ho'; exact h
  · rintro ⟨hlt, h0, h⟩
    have : j < L.size := by omega
    refine ⟨by simp [this] at h0 ⊢; exact h0, ops[j], by simp [hlt], h _ (by simp [hlt])⟩
theorem ready_or {L : Array Bool} (hs : L.size = ops.size) (he : edgesDown 0 ops.toList = true) : ∀ m, m ≤ ops.size → (∀ j, j < m → L.getD j false = true) ∨ ∃ i, i ∈ Region.ready .any ops L
  | 0, _ => .inl fun j hj => by omega
  | m + 1, hm => by
    rcases ready_or hs he m (by omega) with h | h
    · cases hL : L.getD m false with
      | true => refine .inl fun j hj => ?_
                by_cases e : j = m
                · rw [e]; exact hL
                · exact h j (by omega)
      | false =>
        refine .inr ⟨m, (ready_spec hs).2 ⟨by omega, hL, fun o ho e hee hbb => ?_⟩⟩
        have := edgesDown_spec ops.toList 0 he m o (by simpa using ho) e hee hbb
        exact h e.on (by omega)
    · exact .inr h
theorem barrier_spec {m n : Nat} (h : barrier (Region.before ops).toList m n = true) : (∀ j, j < m → bitOf ops m j = true) ∧ ∀ i, m < i → i < n → bitOf ops i m = true := by
  simp only [barrier, Bool.and_eq_true, List.all_eq_true, List.mem_range] at h
  refine ⟨fun j hj => h.1 j hj, fun i h1 h2 => ?_⟩
  have := h.2 (i - m - 1) (by omega)
  rw [show m + 1 + (i - m - 1) = i by omega] at this
  exact this

theorem getD_set {L : Array Bool} {i : Nat} (hi : i < L.size) (j : Nat) : (L.setIfInBounds i true).getD j false = if j = i then true else L.getD j false := by
  by_cases e : j = i
  · subst e; simp [hi]
  · rw [if_neg e]; exact getD_set_ne false (Ne.symm e)

theorem draw_any (SE : StructEqOk P) (CO : CallOK P B W0 call) (Iok : InlOK P B W0 inl) {k : St → Option β} {Q : Exit → Act → World → Prop} (he : edgesDown 0 ops.toList = true) :
    ∀ (fuel s : Nat) (E : List Did) (σ σ' : St) (L : Array Bool) (a : Act) (w : World) (G : Gh), L.size = ops.size → Steps P B W0 d ops σ s E σ' →
      agree (Region.before ops).toList (s + E.length) E.reverse = true →
      ((s + E.length = ops.size ∧ k σ' = some r) ∨
       (s + E.length < ops.size ∧ barrier (Region.before ops).toList (s + E.length) ops.size = true ∧
         ∃ o, ops[s + E.length]? = some o ∧ Turns P B W0 d ops (fun σ'' => drawK P call inl d ops (s + E.length + 1) [] k σ'' = some r) σ' o)) →
      (∀ j, j < s → L.getD j false = true) → (∀ j, s + E.length ≤ j → L.getD j false = false) → Closed ops L → unl (fun j => L.getD j false) ops.size ≤ fuel →
      Sim P B W0 d (part (fun j => L.getD j false) σ s E) a w G →
      (∀ a' w' G' σ', Sim P B W0 d σ' a' w' G' → Keeps B d w w' G G' → k σ' = some r → Q .normal a' w') →
      wpAny P .any ops Q fuel L a w := by
  intro fuel
  induction fuel with
  | zero =>
    intro s E σ σ' L a w G hsz hst hag htl hlo hhi hcl hun S hQ
    have hall := unl_zero (Nat.le_zero.1 hun)
    refine ⟨List.eq_nil_iff_forall_not_mem.2 fun i hi => ?_, ?_⟩
    · have h1 := (ready_spec hsz).1 hi
      have := hall i h1.1
      rw [h1.2.1] at this; cases this
    · obtain ⟨h1, _⟩ := hst.get
      rcases htl with ⟨hn, hk⟩ | ⟨hn, _⟩
      · rw [part_congr (L' := fun _ => true) E σ s fun q hq => hall _ (by omega), ← h1] at S
        exact hQ _ _ G _ S (Keeps.refl _ _ _ _) hk
      · have := hall _ hn
        rw [hhi _ (Nat.le_refl _)] at this; cases this
  | succ fuel ih =>
    intro s E σ σ' L a w G hsz hst hag htl hlo hhi hcl hun S hQ
    obtain ⟨h1, h2⟩ := hst.get
    refine ⟨fun hnil => ?_, fun i hi => ?_⟩
    · have hall : ∀ j, j < ops.size → L.getD j false = true := by
        rcases ready_or hsz he ops.size (Nat.le_refl _) with h | ⟨i, hi⟩
        · exact h
        · rw [hnil] at hi; cases hi
      rcases htl with ⟨hn, hk⟩ | ⟨hn, _⟩
      · rw [part_congr (L' := fun _ => true) E σ s fun q hq => hall _ (by omega), ← h1] at S
        exact hQ _ _ G _ S (Keeps.refl _ _ _ _) hk
      · have := hall _ hn
        rw [hhi _ (Nat.le_refl _)] at this; cases this
    · obtain ⟨hin, hil, hie⟩ := (ready_spec hsz).1 hi
      have hisz : i < L.size := by omega
      have hset := fun j => getD_set hisz j
      have hcl' : Closed ops (L.setIfInBounds i true) := by
        intro j o hj ho e hee hb
        rw [hset] at hj ⊢
        by_cases e2 : e.on = i
        · rw [if_pos e2]
        · rw [if_neg e2]
          by_cases e1 : j = i
          · subst e1; exact hie o ho e hee hb
          · rw [if_neg e1] at hj; exact hcl j o hj ho e hee hb
      have hun' : unl (fun j => (L.setIfInBounds i true).getD j false) ops.size ≤ fuel := by
        have := unl_less (f := fun j => L.getD j false) (f' := fun j => (L.setIfInBounds i true).getD j false) hil hset hin
        omega
      have hsz' : (L.setIfInBounds i true).size = ops.size := by simpa using hsz
      by_cases him : i < s + E.length
      · -- an operation of the stretch
        have his : s ≤ i := Decidable.byContradiction fun hn => by rw [hlo i (by omega)] at hil; cases hil
        obtain ⟨p, rfl⟩ : ∃ p, i = s + p := ⟨i - s, by omega⟩
        have hp : p < E.length := by omega
        obtain ⟨D, hD⟩ : ∃ D, E[p]? = some D := ⟨E[p], by simp [hp]⟩
        obtain ⟨o, ho, hm⟩ := h2 p D hD
        have hagree := fun p q x y hpq hy hx => agree_spec hag (by simp) p q x y hpq (by rw [List.reverse_reverse]; exact hy) (by rw [List.reverse_reverse]; exact hx)
        rw [List.length_reverse, Nat.add_sub_cancel] at hagree
        have before_p : ∀ q D', E[q]? = some D' → q < p → L.getD (s + q) false = false → D.conflict D' = false := fun q D' hq hqp hL => by
          rcases hagree q p D D' hqp hq hD with h | h
          · have := closed_bit hcl (s + p) (s + q) hie h
            rw [hL] at this; cases this
          · exact h
        have after_p : ∀ q D', E[q]? = some D' → p < q → L.getD (s + q) false = true → D'.conflict D = false := fun q D' hq hqp hL => by
          rcases hagree p q D' D hqp hD hq with h | h
          · have := closed_bit hcl (s + q) (s + p) (fun o ho => hcl _ o hL ho) h
            rw [hil] at this; cases this
          · exact h
        unfold wpOp
        rw [ho]
        refine hm (part (fun j => L.getD j false) σ s E) ((part_shape _ _ _ _).symm.trans (part_shape _ _ _ _)) (fun l hl => ?_) a w G S _ Q fun a' w' G' S' K' => ?_
        · refine part_read E p s σ σ (Shape.refl σ) (Loc.same.refl σ l) hil fun q D' hq hor v hv => ?_
          rcases hor with ⟨q1, q2⟩ | ⟨q1, q2⟩
          · exact (conflict_no (before_p q D' hq q1 q2)).2.1 v hv l hl
          · exact (conflict_no (after_p q D' hq q1 q2)).1 v hv l hl
        · refine ih s E σ σ' _ a' w' G' hsz' hst hag htl (fun j hj => ?_) (fun j hj => ?_) hcl' hun' ?_ fun a'' w'' G'' σ'' S'' K'' => hQ _ _ _ _ S'' (K'.trans K'')
          · rw [hset]; split
            · rfl
            · exact hlo j hj
          · rw [hset, if_neg (by omega)]; exact hhi j hj
          · rw [part_add (L := fun j => L.getD j false) E p s σ hD hil hset fun q D' hq hpq hL u hu v hv => (conflict_no (after_p q D' hq hpq hL)).2.2 v hv u hu]
            exact S'
      · -- the call in place behind the stretch
        rcases htl with ⟨hn, hk⟩ | ⟨hn, hbar, o, ho, ht⟩
        · omega
        · obtain ⟨b1, b2⟩ := barrier_spec hbar
          have hi_eq : i = s + E.length := Decidable.byContradiction fun hne => by
            have := closed_bit hcl i (s + E.length) hie (b2 i (by omega) hin)
            rw [hhi _ (Nat.le_refl _)] at this; cases this
          subst hi_eq
          have hall : ∀ j, j < s + E.length → L.getD j false = true := fun j hj => closed_bit hcl _ j hie (b1 j hj)
          rw [part_congr (L' := fun _ => true) E σ s fun q hq => hall _ (by omega), ← h1] at S
          unfold wpOp
          rw [ho]
          refine ht a w G S _ Q fun a' w' G' σ'' S' K' hk => ?_
          obtain ⟨E', τ, hst', htl'⟩ := draw_segment SE CO Iok _ (s + E.length + 1) (by omega) rfl [] σ'' hk
          rw [List.append_nil] at htl'
          have hpart : part (fun j => (L.setIfInBounds (s + E.length) true).getD j false) σ'' (s + E.length + 1) E' = σ'' :=
            part_none E' σ'' _ fun q _ => by rw [hset, if_neg (by omega)]; exact hhi _ (by omega)
          refine ih (s + E.length + 1) E' σ'' τ _ a' w' G' hsz' hst' ?_ ?_ (fun j hj => ?_) (fun j hj => ?_) hcl' hun' (by rw [hpart]; exact S') fun a'' w'' G'' σ3 S'' K'' => hQ _ _ _ _ S'' (K'.trans K'')
          · rcases htl' with ⟨q1, q2, _⟩ | ⟨_, q2, _⟩
            · rw [q1]; exact q2
            · exact q2
          · rcases htl' with ⟨q1, _, q3⟩ | ⟨q1, _, q3, q4⟩
            · exact .inl ⟨q1, q3⟩
            · exact .inr ⟨q1, q3, q4⟩
          · rw [hset]; split
            · rfl
            · exact hall j (by omega)
          · rw [hset, if_neg (by omega)]; exact hhi j (by omega)

/-- a region whose order is drawn -/
theorem opsDrawK_sound (SE : StructEqOk P) (CO : CallOK P B W0 call) (Iok : InlOK P B W0 inl) (hmix : P.follows .mixedOrders = true) {k : St → Option β} {Q : Exit → Act → World → Prop} {id : Nat}
    (h : chkO (edgesDown 0 ops.toList) (opsDrawK P call inl d (Region.before ops).toList ops.toList ops.toList 0 [] k σ) = some r) (S : Sim P B W0 d σ a w G)
    (hQ : ∀ a' w' G' σ', Sim P B W0 d σ' a' w' G' → Keeps B d w w' G G' → k σ' = some r → Q .normal a' w') : (Code.region id ops true).wp P Q a w := by
  obtain ⟨he, h⟩ := chkO_some h
  refine wp_region_any hmix ?_
  have hb : Below B w { w with drawn := w.drawn + 1 } := ⟨rfl, rfl, rfl, Nat.le_refl _, fun _ _ => rfl⟩
  have K0 : Keeps B d w { w with drawn := w.drawn + 1 } G G := Keeps.sameHeap rfl hb
  obtain ⟨E, σ', hst, htl⟩ := draw_segment SE CO Iok _ 0 (by omega) rfl [] σ h
  rw [List.append_nil] at htl
  have hL : ∀ j, (Array.replicate ops.size false).getD j false = false := fun j => by
    rw [Array.getD_eq_getD_getElem?, Array.getElem?_replicate]; split <;> rfl
  refine draw_any SE CO Iok he ops.size 0 E σ σ' _ a _ G (by simp) hst ?_ ?_ (fun j hj => by omega) (fun j _ => hL j) (fun j o hj => by rw [hL] at hj; cases hj) ?_ ?_ fun a' w' G' σ'' S' K' => hQ _ _ _ _ S' (K0.trans K')
  · rcases htl with ⟨q1, q2, _⟩ | ⟨_, q2, _⟩
    · rw [q1]; exact q2
    · exact q2
  · rcases htl with ⟨q1, _, q3⟩ | ⟨q1, _, q3, q4⟩
    · exact .inl ⟨q1, q3⟩
    · exact .inr ⟨q1, q3, q4⟩
  · have : ∀ n, unl (fun j => (Array.replicate ops.size false).getD j false) n ≤ n := fun n => by
      induction n with
      | zero => simp [unl]
      | succ n ih => simp only [unl]; split <;> omega
    exact this _
  · rw [part_none E σ 0 fun q _ => hL _]
    exact S.sameHeap rfl hb
end Go.Am
/- What the abstract machine may forget. Conditions: none. -/
namespace Go.Am
open Go.RowKit
variable {P : Program} {B : Nat} {W0 : Base} {d : Nat} {σ : St} {a : Act} {w : World} {G : Gh} {p : Nat → Nat → Bool}

/-- variables in memory are forgotten -/
def Gh.drop (G : Gh) (p : Nat → Nat → Bool) : Gh := { G with blk := fun d s => if p d s then none else G.blk d s }
mutual
theorem ARep.drop {pl : Place} (hpl : ∀ d s o, pl = .cell d s o → p d s = false) : ∀ (a : AV) {v : Value}, a.hasPtr p = false → ARep P w G pl a v → ARep P w (G.drop p) pl a v
  | .any, _, _, _ => by simp [ARep]
  | .undef, _, _, x => by simpa [ARep] using x
  | .val c, v, _, x => by simp only [ARep] at x ⊢; exact x
  | .lst own isnil e l, v, _, x => by simp only [ARep, Spare] at x ⊢; exact x
  | .ptr d s off, v, h, x => by
    simp only [ARep] at x ⊢
    simp only [AV.hasPtr] at h
    obtain ⟨b, h1, h2⟩ := x
    exact ⟨b, by simp [Gh.drop, h, h1], h2⟩
  | .cptr c off, v, _, x => by simp only [ARep] at x ⊢; exact x
  | .siter s pos, v, _, x => by simp only [ARep] at x ⊢; exact x
  | .bld T, v, _, x => by
    simp only [ARep] at x ⊢
    obtain ⟨d, s, b, h1, h2, h3⟩ := x
    exact ⟨d, s, b, h1, by simp [Gh.drop, hpl d s 0 h1, h2], h3⟩
  | .clo f caps, v, h, x => by
    simp only [ARep] at x ⊢
    simp only [AV.hasPtr] at h
    obtain ⟨vs, h1, h2⟩ := x
    exact ⟨vs, h1, ARepL.drop caps h h2⟩
  | .agg cs, v, h, x => by
    simp only [ARep] at x ⊢
    simp only [AV.hasPtr] at h
    obtain ⟨vs, h1, h2, h3⟩ := x
    exact ⟨vs, h1, ARepL.drop cs h h2, h3⟩
  | .tup cs, v, h, x => by
    simp only [ARep] at x ⊢
    simp only [AV.hasPtr] at h
    obtain ⟨vs, h1, h2⟩ := x
    exact ⟨vs, h1, ARepL.drop cs h h2⟩
theorem ARepL.drop : ∀ (l : List AV) {vs : List Value}, AV.hasPtrs p l = false → ARepL P w G l vs → ARepL P w (G.drop p) l vs
  | [], _, _, x => by simpa [ARepL] using x
  | c :: cs, vs, h, x => by
    simp only [ARepL] at x ⊢
    simp only [AV.hasPtrs, Bool.or_eq_false_iff] at h
    obtain ⟨v, r, h1, h2, h3⟩ := x
    exact ⟨v, r, h1, ARep.drop (by intro d s o h; cases h) c h.1 h2, ARepL.drop cs h.2 h3⟩
end
theorem ARep.scrub {pl : Place} (hpl : ∀ d s o, pl = .cell d s o → p d s = false) {v : AV} {x : Value} (h : ARep P w G pl v x) : ARep P w (G.drop p) pl (v.scrub p) x := by
  unfold AV.scrub
  split
  · simp [ARep]
  · rename_i hp; exact ARep.drop hpl v hp h

def dropBox (p : Nat → Nat → Bool) (mem : MemT) (d s : Nat) : Option (List AV) := if p d s then none else (box? mem d s).map fun c => c.map (AV.scrub p)
theorem Mem.drop {mem mem' : MemT} (M : Mem P B W0 w G mem) (h : ∀ d s, box? mem' d s = dropBox p mem d s) : Mem P B W0 w (G.drop p) mem' := by
  refine ⟨M.below, M.base, M.own, M.hw, fun d s hb => ?_, fun d s cs hb => ?_, fun d s d' s' b h1 h2 => ?_, M.glob⟩
  · show (if p d s then none else G.blk d s) = none
    rw [h] at hb
    unfold dropBox at hb
    by_cases hp : p d s = true
    · rw [if_pos hp]
    · rw [if_neg hp] at hb ⊢
      exact M.blk d s (by simpa using hb)
  · rw [h] at hb
    unfold dropBox at hb
    by_cases hp : p d s = true
    · rw [if_pos hp] at hb; cases hb
    · rw [if_neg hp] at hb
      obtain ⟨c, hc, rfl⟩ := Option.map_eq_some_iff.1 hb
      obtain ⟨b, vs, T, fz, R⟩ := M.box d s c hc
      refine ⟨b, vs, T, fz, by show (if p d s then none else G.blk d s) = some b; rw [if_neg hp]; exact R.blk, R.lo, R.heap, R.free, R.hw, R.own, ⟨by rw [R.rep.len]; simp, fun o ho => ?_⟩⟩
      obtain ⟨v, q1, q2, q3⟩ := R.rep.rep o (by simpa using ho)
      refine ⟨v, q1, q2, ?_⟩
      have e : nthD .any (c.map (AV.scrub p)) o = (nthD .any c o).scrub p := by
        rw [nthD_get, nthD_get, List.getElem?_map]
        cases c[o]? <;> rfl
      rw [e]; exact q3.scrub (by intro d' s' o' h; cases h; simpa using hp)
  · have h1 : (if p d s then none else G.blk d s) = some b := h1
    have h2 : (if p d' s' then none else G.blk d' s') = some b := h2
    by_cases hp : p d s = true
    · rw [if_pos hp] at h1; cases h1
    · by_cases hp' : p d' s' = true
      · rw [if_pos hp'] at h2; cases h2
      · rw [if_neg hp] at h1; rw [if_neg hp'] at h2
        exact M.inj d s d' s' b h1 h2
theorem Keeps.drop (h : ∀ d' s, d' < d → p d' s = false) : Keeps B d w w G (G.drop p) :=
  ⟨Keep.refl _ _, fun _ _ _ _ h => ⟨h, rfl, rfl⟩, fun d' s b hd hb => by simp [Gh.drop, h d' s hd, hb], Below.refl _ _, fun _ _ => rfl⟩

theorem box?_scrub (mem : MemT) (d s : Nat) : box? (scrubMem p mem) d s = (box? mem d s).map fun c => c.map (AV.scrub p) := by
  unfold box? scrubMem
  simp only [nthD_get, List.getElem?_map]
  cases h : mem[d]? with
  | none => simp
  | some l =>
    simp only [Option.map_some, Option.getD_some, List.getElem?_map]
    cases l[s]? with
    | none => rfl
    | some b => cases b <;> rfl

theorem clearT_get : ∀ (ts : List Nat) (l : List AV) (i : Nat), (clearT l ts).length = l.length ∧ (nthD .any (clearT l ts) i = .any ∨ nthD .any (clearT l ts) i = nthD .any l i)
  | [], l, i => ⟨rfl, .inr rfl⟩
  | t :: ts, l, i => by
    simp only [clearT]
    obtain ⟨h1, h2⟩ := clearT_get ts (setN l t .any) i
    refine ⟨by rw [h1, length_setN], ?_⟩
    rcases h2 with h2 | h2
    · exact .inl h2
    · rw [nthD_setN] at h2
      split at h2
      · exact .inl h2
      · exact .inr h2
theorem clearB_get : ∀ (ts : List Nat) (l : List (Option (List AV))) (i : Nat), nthD none (clearB l ts) i = if ts.contains i then none else nthD none l i
  | [], l, i => by simp [clearB]
  | t :: ts, l, i => by
    simp only [clearB]
    rw [clearB_get ts, nthD_setN]
    simp only [List.contains_cons]
    by_cases h : ts.contains i = true
    · rw [h]; simp
    · by_cases e : i = t
      · subst e
        simp
        intro _ hlt
        rw [nthD_get, List.getElem?_eq_none (by omega)]; rfl
      · simp [e]

theorem Fr.mapAny {tmps tmps' : List AV} {t : Array Value} (F : Fr P w G d tmps t) (hl : tmps'.length = tmps.length) (h : ∀ i, nthD .any tmps' i = .any ∨ nthD .any tmps' i = (nthD .any tmps i).scrub p) : Fr P w (G.drop p) d tmps' t := by
  refine ⟨by rw [hl]; exact F.len, fun i => ?_⟩
  rcases h i with h | h
  · rw [h]; simp [ARep]
  · rw [h]; exact (F.rep i).scrub (by intro d s o h; cases h)

theorem Sim.clear (S : Sim P B W0 d σ a w G) (d0 : Nat) (ts bs : List Nat) (hd : bs = [] ∨ d0 = d) : ∃ G', Sim P B W0 d (clear d0 ts bs σ) a w G' ∧ Keeps B d w w G G' := by
  unfold Am.clear
  split
  · refine ⟨G, ⟨S.mem, S.depth, ⟨by rw [(clearT_get ts σ.tmps 0).1]; exact S.fr.len, fun i => ?_⟩, S.cfg, S.defers⟩, Keeps.refl _ _ _ _⟩
    rcases (clearT_get ts σ.tmps i).2 with h | h
    · rw [h]; simp [ARep]
    · rw [h]; exact S.fr.rep i
  · rename_i hne
    have hd : d0 = d := hd.resolve_left hne
    subst hd
    refine ⟨G.drop fun d' s => d' == d0 && bs.contains s, ⟨S.mem.drop fun d' s => ?_, by simp [scrubMem, length_setN]; exact S.depth, S.fr.mapAny (by simp [(clearT_get ts σ.tmps 0).1]) fun i => ?_, S.cfg, S.defers⟩, Keeps.drop fun d' s hlt => by simp; intro e; omega⟩
    · rw [box?_scrub]
      unfold dropBox box?
      rw [nthD_setN]
      by_cases e : d' = d0
      · subst e
        rw [if_pos ⟨rfl, by rw [S.depth]; omega⟩, clearB_get]
        by_cases hs : s ∈ bs
        · simp [hs]
        · simp [hs]
      · simp [e]
    · rcases (clearT_get ts σ.tmps i).2 with h | h
      · left
        rw [nthD_get] at h ⊢
        rw [List.getElem?_map]
        cases hh : (clearT σ.tmps ts)[i]? with
        | none => rfl
        | some x => rw [hh] at h; simp at h; subst h; rfl
      · right
        rw [← h]
        simp only [nthD_get, List.getElem?_map]
        cases (clearT σ.tmps ts)[i]? <;> rfl
theorem Sim.tidy (S : Sim P B W0 d σ a w G) (c : Code) : ∃ G', Sim P B W0 d (tidy c σ) a w G' ∧ Keeps B d w w G G' := by
  unfold Am.tidy
  split
  · exact S.clear 0 _ [] (.inl rfl)
  · exact ⟨G, S, Keeps.refl _ _ _ _⟩
end Go.Am
/- The abstract machine's evaluation of code is sound. Conditions: none. -/
namespace Go.Am
open Go.RowKit
variable {P : Program} {B : Nat} {W0 : Base} {d : Nat} {σ : St} {a : Act} {w : World} {G : Gh} {β : Type} {call : FuncId → List CV → Option CV}
  {inl : FuncId → List AV → MemT → (AV → MemT → Option β) → Option β} {r : β} {m : Nat}

def Ex.out : Ex → Exit
  | .normal => .normal
  | .exit id => .exit id
  | .ret => .ret

/-- what is known of the machine behind a stretch of code -/
def Post (P : Program) (B : Nat) (W0 : Base) (d : Nat) (k : Ex → St → Option β) (r : β) (w : World) (G : Gh) (Q : Exit → Act → World → Prop) : Prop :=
  ∀ e a' w' G' σ', Sim P B W0 d σ' a' w' G' → Keeps B d w w' G G' → k e σ' = some r → Q e.out a' w'
theorem Post.trans {k : Ex → St → Option β} {Q : Exit → Act → World → Prop} {w' : World} {G' : Gh} (h : Post P B W0 d k r w G Q) (K : Keeps B d w w' G G') : Post P B W0 d k r w' G' Q :=
  fun e a' w'' G'' σ' S' K' hk => h e a' w'' G'' σ' S' (K.trans K') hk

/-- evaluations that are sound -/
def EvOK (P : Program) (B : Nat) (W0 : Base) (d : Nat) (r : β) (ev : Code → (Ex → St → Option β) → St → Option β) : Prop :=
  ∀ (c : Code) (k : Ex → St → Option β) (σ : St), ev c k σ = some r → ∀ a w G, Sim P B W0 d σ a w G → ∀ Q, Post P B W0 d k r w G Q → c.wp P Q a w

theorem loop_sound {ev : Code → (Ex → St → Option β) → St → Option β} (hev : EvOK P B W0 d r ev) {c : Code} {ts bs : List Nat} {k : Ex → St → Option β} :
    ∀ (n : Nat) (σ : St), loopC ev d ts bs c k n σ = some r → ∀ a w G, Sim P B W0 d σ a w G → ∀ Q, Post P B W0 d k r w G Q → Code.rounds P c Q n a w
  | 0, σ, h, _, _, _, _, _, _ => by cases h
  | n + 1, σ, h, a, w, G, S, Q, hQ => by
    rw [rounds_succ]
    change ev c (loopK d ts bs (loopC ev d ts bs c k n) k) σ = some r at h
    refine hev c _ σ h a w G S _ fun e a' w' G' σ' S' K' hk => ?_
    cases e with
    | normal =>
      obtain ⟨G2, S2, K2⟩ := S'.clear d ts bs (.inr rfl)
      have hk : hold (loopC ev d ts bs c k n (clear d ts bs σ')) = some r := hk
      rw [hold_eq] at hk
      exact loop_sound hev n _ hk a' w' G2 S2 Q (hQ.trans (K'.trans K2))
    | exit id => exact hQ (.exit id) _ _ _ _ S' K' hk
    | ret => exact hQ .ret _ _ _ _ S' K' hk

theorem evStep_sound (SE : StructEqOk P) (CO : CallOK P B W0 call) (Iok : InlOK P B W0 inl) (hmix : P.follows .mixedOrders = true) {ev : Code → (Ex → St → Option β) → St → Option β} (hev : EvOK P B W0 d r ev) :
    EvOK P B W0 d r (evStep P call inl m d ev) := by
  intro c k σ h a w G S Q hQ
  unfold evStep at h
  cases c with
  | skip => exact wp_skip (hQ .normal _ _ _ _ S (Keeps.refl _ _ _ _) h)
  | region id ops draw =>
    have hn : ∀ a' w' G' σ', Sim P B W0 d σ' a' w' G' → Keeps B d w w' G G' → k .normal σ' = some r → Q .normal a' w' := fun a' w' G' σ' S' K' hk => hQ .normal a' w' G' σ' S' K' hk
    cases draw with
    | false =>
      refine wp_region ?_
      have := opsK_sound SE CO Iok (Q := Q) ops.toList 0 (by simp) h a w G S hn
      rw [List.range_eq_range']
      simpa using this
    | true => exact opsDrawK_sound SE CO Iok hmix h S hn
  | seq x y =>
    refine wp_seq (hev x _ σ h a w G S _ fun e a' w' G' σ' S' K' hk => ?_)
    cases e with
    | normal =>
      obtain ⟨G2, S2, K2⟩ := S'.tidy x
      have hk : ev y k (tidy x σ') = some r := by
        unfold seqK at hk
        cases hc : cutAt x y with
        | true => rw [hc] at hk; simp only [hold_eq] at hk; exact hk
        | false => rw [hc] at hk; exact hk
      exact hev y k _ hk a' w' G2 S2 Q (hQ.trans (K'.trans K2))
    | exit id => exact hQ (.exit id) _ _ _ _ S' K' hk
    | ret => exact hQ .ret _ _ _ _ S' K' hk
  | cond c x y =>
    obtain ⟨t, ht, h⟩ := optO_some h
    have hc : a.eval c = .bool t := by
      unfold condOf at ht
      split at ht
      · rename_i i
        split at ht
        · rename_i v hv
          have := S.fr.rep i
          rw [hv] at this
          simp only [ARep] at this
          rw [asB_some ht] at this
          simp only [CRep] at this
          exact this
        · cases ht
      · rename_i b; simp only [Option.some.injEq] at ht; subst ht; rfl
      · cases ht
    have hp : Post P B W0 d (condK x y k) r w G Q := fun e a' w' G' σ' S' K' hk => by
      obtain ⟨G2, S2, K2⟩ := S'.clear 0 (temps x ++ temps y) [] (.inl rfl)
      exact hQ e _ _ _ _ S2 (K'.trans K2) hk
    refine wp_cond hc ?_
    cases t with
    | true => exact hev x _ σ h a w G S Q hp
    | false => exact hev y _ σ h a w G S Q hp
  | block id x =>
    refine wp_block (hev x _ σ h a w G S _ fun e a' w' G' σ' S' K' hk => ?_)
    cases e with
    | normal => exact hQ .normal _ _ _ _ S' K' hk
    | exit id' =>
      unfold blockK at hk
      show if id' = id then Q .normal a' w' else Q (.exit id') a' w'
      by_cases hid : id' = id
      · rw [if_pos hid]
        simp only [hid, if_true] at hk
        exact hQ .normal _ _ _ _ S' K' hk
      · rw [if_neg hid]
        simp only [hid, if_false] at hk
        exact hQ (.exit id') _ _ _ _ S' K' hk
    | ret => exact hQ .ret _ _ _ _ S' K' hk
  | loop x =>
    obtain ⟨G2, S2, K2⟩ := S.clear d (loopTemps x ++ anys σ (assigns x)) (nones σ d (allocs x)) (.inr rfl)
    have h : hold (loopC ev d (loopTemps x ++ anys σ (assigns x)) (nones σ d (allocs x)) x k m (clear d (loopTemps x ++ anys σ (assigns x)) (nones σ d (allocs x)) σ)) = some r := h
    rw [hold_eq] at h
    exact wp_loop_rounds m (loop_sound hev m _ h a w G2 S2 Q (hQ.trans K2))
  | exit id => exact wp_exit (hQ (.exit id) _ _ _ _ S (Keeps.refl _ _ _ _) h)
  | label l => exact wp_label (hQ .normal _ _ _ _ S (Keeps.refl _ _ _ _) h)
  | ret => exact wp_ret (hQ .ret _ _ _ _ S (Keeps.refl _ _ _ _) h)
  | scope x =>
    refine wp_scope_straight (hev x k σ h a w G S _ fun e a' w' G' σ' S' K' hk => ?_)
    cases e with
    | normal => exact hQ .normal _ _ _ _ S' K' hk
    | exit id => exact hQ (.exit id) _ _ _ _ S' K' hk
    | ret => exact hQ .ret _ _ _ _ S' K' hk
  | _ => cases h

theorem evN_sound (SE : StructEqOk P) (CO : CallOK P B W0 call) (Iok : InlOK P B W0 inl) (hmix : P.follows .mixedOrders = true) : ∀ j : Nat, EvOK P B W0 d r (evN P call inl m d j)
  | 0 => fun c k σ h => by cases h
  | j + 1 => evStep_sound SE CO Iok hmix (evN_sound SE CO Iok hmix j)
end Go.Am
/- The abstract machine's evaluation of functions is sound. Conditions: none. -/
namespace Go.Am
open Go.RowKit
variable {P : Program} {B : Nat} {W0 : Base} {d : Nat} {σ : St} {a : Act} {w : World} {G : Gh} {β : Type} {call : FuncId → List CV → Option CV}
  {inl : FuncId → List AV → MemT → (AV → MemT → Option β) → Option β} {r : β} {m : Nat}

/-- no function of the program is one that the machine answers itself -/
def NamesOk (P : Program) : Prop := ∀ (f : FuncId) (fn : Func), P.funcs[f]? = some fn → (fn.name == "runtime.NumGoroutine") = false

theorem run_callFunc_enter (N : NamesOk P) {f : FuncId} {fn : Func} {c : Code} (hf : P.funcs[f]? = some fn) (hb : fn.body = some c) (args : Array Value) (w : World) :
    (callFunc f args).run P w = .ok (.enter f args) w := by
  have hn : fn.name ≠ "runtime.NumGoroutine" := by simpa using N f fn hf
  simp [callFunc, hf, hn, hb]

/-! results -/
def Pts (P : Program) (w : World) (G : Gh) : List AV → List Value → Prop
  | [], xs => xs = []
  | v :: vs, xs => ∃ x r, xs = x :: r ∧ (∃ p, ARep P w G p v x) ∧ Pts P w G vs r
theorem Pts.copy : ∀ {vs : List AV} {xs : List Value}, Pts P w G vs xs → ARepL P w G (vs.map AV.copy) xs
  | [], xs, h => by simp only [Pts] at h; subst h; simp [ARepL]
  | v :: vs, xs, h => by
    simp only [Pts] at h
    obtain ⟨x, r, rfl, ⟨p, hp⟩, h⟩ := h
    simp only [List.map_cons, ARepL]
    exact ⟨x, r, rfl, hp.copy, h.copy⟩
theorem Pts.data : ∀ {vs : List AV} {xs : List Value} {cs : List CV}, Pts P w G vs xs → allCV vs = some cs → CRepT w G.hw cs xs
  | [], xs, cs, h, e => by
    simp only [Pts] at h; subst h
    simp [allCV] at e; subst e; simp [CRepT]
  | v :: vs, xs, cs, h, e => by
    simp only [Pts] at h
    obtain ⟨x, r, rfl, ⟨p, hp⟩, h⟩ := h
    cases v with
    | val c =>
      simp only [allCV] at e
      obtain ⟨cs', he, rfl⟩ := Option.map_eq_some_iff.1 e
      simp only [ARep] at hp
      simp only [CRepT]
      exact ⟨x, r, rfl, hp, h.data he⟩
    | lst own n e' l =>
      simp only [allCV] at e
      obtain ⟨cs', he, rfl⟩ := Option.map_eq_some_iff.1 e
      simp only [CRepT]
      exact ⟨x, r, rfl, hp.list, h.data he⟩
    | _ => simp [allCV] at e
theorem resOf_sound {vs : List AV} {xs : List Value} (h : Pts P w G vs xs) : ARep P w G .none (resOf vs).copy (if h : xs.toArray.size = 1 then xs.toArray[0] else .tuple xs.toArray) := by
  unfold resOf
  split
  · rename_i v
    simp only [Pts] at h
    obtain ⟨x, r, rfl, ⟨p, hp⟩, rfl⟩ := h
    simpa using hp.copy
  · rename_i hne
    have hl : xs.toArray.size ≠ 1 := by
      intro e
      cases vs with
      | nil => simp only [Pts] at h; subst h; simp at e
      | cons v vs =>
        simp only [Pts] at h
        obtain ⟨x, r, rfl, _, h⟩ := h
        cases vs with
        | nil => exact hne v rfl
        | cons v' vs =>
          simp only [Pts] at h
          obtain ⟨x', r', rfl, _⟩ := h
          simp at e
    rw [dif_neg hl]
    split
    · rename_i cs hcs
      simp only [AV.copy, ARep, CRep]
      exact ⟨xs, rfl, h.data hcs⟩
    · simp only [AV.copy, ARep]
      exact ⟨xs, rfl, h.copy⟩

theorem resVals_sound (S : Sim P B W0 d σ a w G) : ∀ {rs : List ResultVar} {vs : List AV}, resVals P σ rs = some vs →
    ∃ xs : List Value, (rs.mapM (m := Sem) fun | .tmp t => pure (a.tmps.getD t undef) | .cell b t => do loadVar t (← asAddr (a.tmps.getD b undef))).run P w = .ok xs w ∧ Pts P w G vs xs
  | [], vs, h => by
    simp [resVals] at h; subst h
    exact ⟨[], by simp, rfl⟩
  | x :: rs, vs, h => by
    unfold resVals at h
    split at h
    · cases h
    · rename_i vs' hvs
      obtain ⟨xs, hx, hp⟩ := resVals_sound S hvs
      have fin : ∀ {v : AV} {u : Value} {p : Place}, vs = v :: vs' → ARep P w G p v u → ∀ {f : ResultVar → Sem Value}, (f x).run P w = .ok u w → (rs.mapM (m := Sem) f).run P w = .ok xs w → ∃ xs : List Value, ((x :: rs).mapM (m := Sem) f).run P w = .ok xs w ∧ Pts P w G vs xs :=
        fun {v u p} e hv f hr hm => ⟨u :: xs, by simp only [List.mapM_cons, Sem.run_bind, hr, hm, Result.andThen_ok, Sem.run_pure], by rw [e]; exact ⟨u, xs, rfl, ⟨p, hv⟩, hp⟩⟩
      split at h
      · rename_i t
        simp only [Option.some.injEq] at h
        exact fin h.symm (S.fr.rep t) (by simp) hx
      · rename_i b t
        split at h
        · rename_i d' s off hb
          have hptr := S.fr.rep b
          rw [hb] at hptr
          simp only [ARep] at hptr
          obtain ⟨bl, hbl, hv⟩ := hptr
          split at h
          · cases h
          · rename_i hchk
            rw [Bool.and_eq_true] at hchk
            obtain ⟨hu, hall⟩ := hchk
            rw [List.all_eq_true] at hall
            have hall : ∀ i, i < P.cellsOf t → σ.has (.cell d' s (off + i)) = true := fun i hi => hall i (by simpa using hi)
            split at h
            · rename_i hagg
              split at h
              · rename_i h0
                simp only [Option.some.injEq] at h
                obtain ⟨u, q1, q2, q3⟩ := cell_of_has S hbl h0
                refine fin h.symm q3 ?_ hx
                simp [hv, asAddr, loadVar, run_isAgg hu, hagg, q1]
              · cases h
            · rename_i hagg
              simp only [Option.some.injEq] at h
              have all : ∀ i, i < P.cellsOf t → ∃ u, w.cell? (cellA bl (off + i)) = some u ∧ u.oneCell' = true ∧ ARep P w G (.cell d' s (off + i)) (cellOf σ.mem d' s (off + i)) u :=
                fun i hi => cell_of_has S hbl (hall i hi)
              have : ∃ us : List Value, us.length = P.cellsOf t ∧ ∀ i, i < P.cellsOf t → ∃ u, us[i]? = some u ∧ w.cell? (cellA bl (off + i)) = some u ∧ u.oneCell' = true ∧ ARep P w G (.cell d' s (off + i)) (cellOf σ.mem d' s (off + i)) u := by
                refine ⟨(List.range (P.cellsOf t)).map fun i => (w.cell? (cellA bl (off + i))).getD undef, by simp, fun i hi => ?_⟩
                obtain ⟨u, q1, q2, q3⟩ := all i hi
                exact ⟨u, by simp [hi, q1], q1, q2, q3⟩
              obtain ⟨us, hul, hus⟩ := this
              have hcells : Cells P w G (fun i => .cell d' s (off + i)) ((List.range (P.cellsOf t)).map fun i => cellOf σ.mem d' s (off + i)) us := by
                refine ⟨by rw [hul]; simp, fun i hi => ?_⟩
                have hi : i < P.cellsOf t := by simpa using hi
                obtain ⟨u, q1, q2, q3, q4⟩ := hus i hi
                refine ⟨u, q1, q3, ?_⟩
                rw [nthD_get]
                simp [hi]
                exact q4
              refine fin h.symm (mkAgg_sound hcells .none) ?_ hx
              have hload := run_loadCells_list (P := P) w (cellA bl off) us (fun j u hj => by
                have hj' : j < us.length := (List.getElem?_eq_some_iff.1 hj).1
                obtain ⟨u', q1, q2, _⟩ := hus j (by omega)
                rw [add_cellA, q2, ← q1, hj])
              rw [hul] at hload
              simp [hv, asAddr, loadVar, run_isAgg hu, hagg, run_sizeOf_of hu, hload]
        · cases h

theorem results_sound (S : Sim P B W0 d σ a w G) {fn : Func} {vs : List AV} (h : resVals P σ fn.results.toList = some vs) :
    ∃ v, (results fn a.tmps).run P w = .ok v w ∧ ARep P w G .none (resOf vs).copy v := by
  obtain ⟨xs, hx, hp⟩ := resVals_sound S h
  rw [← Array.toList_mapM] at hx
  refine ⟨_, ?_, resOf_sound hp⟩
  unfold results
  simp only [Sem.run_map, Sem.run_bind] at hx ⊢
  generalize (Array.mapM (m := Sem) _ fn.results).run P w = R at hx ⊢
  cases R with
  | ok x w' =>
    simp only [Result.andThen_ok, Result.ok.injEq] at hx
    obtain ⟨h3, rfl⟩ := hx
    subst h3
    simp
  | halt x w' => simp [Result.andThen] at hx

/-! calls in place -/
theorem ARepL.length : ∀ {vs : List AV} {xs : List Value}, ARepL P w G vs xs → xs.length = vs.length
  | [], xs, h => by simp only [ARepL] at h; simp [h]
  | v :: vs, xs, h => by
    simp only [ARepL] at h
    obtain ⟨x, r, rfl, _, h⟩ := h
    simp [ARepL.length h]
theorem ARepL.getD : ∀ {vs : List AV} {xs : List Value}, ARepL P w G vs xs → ∀ i, i < vs.length → ARep P w G .none (nthD .any vs i) (xs.getD i undef)
  | [], xs, h, i, hi => by simp at hi
  | v :: vs, xs, h, i, hi => by
    simp only [ARepL] at h
    obtain ⟨x, r, rfl, hv, h⟩ := h
    cases i with
    | zero => simpa [nthD] using hv
    | succ i => simpa [nthD] using ARepL.getD h i (by simpa using hi)
theorem Mem.congr {mem mem' : MemT} (M : Mem P B W0 w G mem) (h : ∀ d s, box? mem' d s = box? mem d s) : Mem P B W0 w G mem' :=
  ⟨M.below, M.base, M.own, M.hw, fun d s hb => M.blk d s (by rw [← h]; exact hb), fun d s cs hb => M.box d s cs (by rw [← h]; exact hb), M.inj, M.glob⟩
theorem box?_append (mem : MemT) (n : Nat) (d s : Nat) : box? (mem ++ [List.replicate n none]) d s = box? mem d s := by
  unfold box?
  simp only [nthD_get]
  by_cases h : d < mem.length
  · rw [List.getElem?_append_left h]
  · rw [List.getElem?_append_right (by omega), List.getElem?_eq_none (l := mem) (by omega)]
    by_cases e : d = mem.length
    · subst e
      simp [List.getElem?_replicate]
      split <;> rfl
    · have h2 : ([List.replicate n none] : MemT)[d - mem.length]? = none := List.getElem?_eq_none (by simp; omega)
      rw [h2]
theorem AV.copy_copy (v : AV) : v.copy.copy = v.copy := by
  cases v with
  | lst own n e l => cases own <;> rfl
  | _ => rfl
theorem AV.copy_scrub {p : Nat → Nat → Bool} (v : AV) : (v.copy.scrub p).copy = v.copy.scrub p := by
  unfold AV.scrub
  split
  · rfl
  · exact v.copy_copy

theorem evF_body {f : FuncId} {vs : List AV} {mem : MemT} {k : AV → MemT → Option β} {K : Cfg} (h : evFStep P K call m inl f vs mem k = some r) :
    ∃ fn c, P.funcs[f]? = some fn ∧ fn.body = some c ∧ evN P call inl m mem.length 1000 c (retK P fn.results.toList mem.length k) { tmps := vs ++ List.replicate (fn.ntmps - vs.length) .any, mem := mem ++ [List.replicate fn.ntmps none], K := K } = some r := by
  unfold evFStep at h
  split at h
  · rename_i fn hf
    split at h
    · rename_i c hb
      exact ⟨fn, c, hf, hb, h⟩
    · cases h
  · cases h

theorem evFStep_sound (SE : StructEqOk P) (N : NamesOk P) (CO : CallOK P B W0 call) (hmix : P.follows .mixedOrders = true) (Iok : InlOK P B W0 inl) : InlOK P B W0 (evFStep P W0.K call m inl) := by
  refine ⟨fun {f vs mem k r} h w G D M hD xs hx => ?_⟩
  subst hD
  obtain ⟨fn, c, hf, hb, h⟩ := evF_body h
  refine ⟨fun w' => run_callFunc_enter N hf hb _ w', calls_of_wp hf hb ?_⟩
  have hlen := hx.length
  have S : Sim P B W0 mem.length { tmps := vs ++ List.replicate (fn.ntmps - vs.length) .any, mem := mem ++ [List.replicate fn.ntmps none], K := W0.K } { tmps := xs.toArray ++ Array.replicate (fn.ntmps - xs.toArray.size) undef, defers := [] } w G := by
    refine ⟨M.congr (box?_append mem _), by simp, ⟨by simp [hlen], fun i => ?_⟩, rfl, rfl⟩
    by_cases hi : i < vs.length
    · have e1 : nthD .any (vs ++ List.replicate (fn.ntmps - vs.length) AV.any) i = nthD .any vs i := by
        rw [nthD_get, nthD_get, List.getElem?_append_left hi]
      have e2 : (xs.toArray ++ Array.replicate (fn.ntmps - xs.toArray.size) undef).getD i undef = xs.getD i undef := by
        rw [Array.getD_eq_getD_getElem?, Array.getElem?_append_left (by simp; omega)]
        simp
      rw [e1, e2]
      exact ARep.ofNone M.noNone (hx.getD i hi)
    · have e1 : nthD .any (vs ++ List.replicate (fn.ntmps - vs.length) AV.any) i = .any := by
        rw [nthD_get, List.getElem?_append_right (by omega), List.getElem?_replicate]
        split <;> rfl
      rw [e1]
      simp [ARep]
  refine evN_sound SE CO Iok hmix 1000 c _ _ h _ w G S _ fun e a' w' G' σ' S' K' hk => ?_
  have fin : (optO (resVals P σ' fn.results.toList) fun vs => k ((resOf vs).copy.scrub fun d' _ => d' == mem.length) (scrubMem (fun d' _ => d' == mem.length) (σ'.mem.take mem.length))) = some r →
      a'.defers = [] ∧ ∃ v, (results fn a'.tmps).run P w' = .ok v w' ∧ (∃ v' x mem' G', (Ending.returned v) = .returned x ∧ k v' mem' = some r ∧ Mem P B W0 w' G' mem' ∧ mem'.length = mem.length ∧ ARep P w' G' .none v' x ∧ v'.copy = v' ∧ Keeps B mem.length w w' G G') := by
    intro h
    obtain ⟨rv, hr, h⟩ := optO_some h
    obtain ⟨v, h1, h2⟩ := results_sound S' hr
    have hl := S'.depth
    refine ⟨S'.defers, v, h1, _, v, _, G'.drop fun d' _ => d' == mem.length, rfl, h, S'.mem.drop fun d s => ?_, by simp [scrubMem]; omega, h2.scrub (by intro d s o h; cases h), AV.copy_scrub _, K'.trans (Keeps.drop fun d' s hd => by simp; omega)⟩
    rw [box?_scrub]
    unfold dropBox
    by_cases e : d = mem.length
    · subst e
      have : box? (σ'.mem.take mem.length) mem.length s = none := by
        unfold box?
        rw [nthD_get [], List.getElem?_eq_none (by simp; omega)]
        rfl
      rw [this]
      simp
    · have : box? (σ'.mem.take mem.length) d s = box? σ'.mem d s := by
        unfold box?
        rw [nthD_get [], nthD_get []]
        by_cases hlt : d < mem.length
        · rw [List.getElem?_take, if_pos hlt]
        · rw [List.getElem?_eq_none (by simp; omega), List.getElem?_eq_none (by omega)]
      rw [this]
      simp [e]
  cases e with
  | exit id => cases hk
  | normal => exact fin hk
  | ret => exact fin hk

/-- what is said of functions that are called in place holds -/
def HookOK (P : Program) (B : Nat) (W0 : Base) : Prop :=
  ∀ f g, W0.K.hook f = some g → ∀ vs mem l q b v mem', g vs mem = some (l, q) → bytesOf l = some b → q b = (v, mem') → ∀ w G D, Mem P B W0 w G mem → mem.length = D → ∀ xs : List Value, ARepL P w G vs xs →
    (∀ w', (callFunc f xs.toArray).run P w' = .ok (.enter f xs.toArray) w') ∧
    Calls P f xs.toArray w fun e w' => ∃ x G', e = .returned x ∧ Mem P B W0 w' G' mem' ∧ mem'.length = D ∧ ARep P w' G' .none v x ∧ v.copy = v ∧ Keeps B D w w' G G'
theorem hooked_sound (H : HookOK P B W0) (Iok : InlOK P B W0 inl) : InlOK P B W0 (hooked W0.K inl) := by
  refine ⟨fun {f vs mem k r} h w G D M hD xs hx => ?_⟩
  unfold hooked at h
  split at h
  · rename_i g hg
    obtain ⟨⟨l, q⟩, hp, h⟩ := optO_some h
    obtain ⟨b, hb, h⟩ := optO_some h
    obtain ⟨h1, h2⟩ := H f g hg vs mem l q b (q b).1 (q b).2 hp hb rfl w G D M hD xs hx
    exact ⟨h1, h2.mono fun e w' ⟨x, G', q1, q2, q3, q4, q5, q6⟩ => ⟨_, x, _, G', q1, h, q2, q3, q4, q5, q6⟩⟩
  · exact Iok.run h w G D M hD xs hx

theorem evF_sound (SE : StructEqOk P) (N : NamesOk P) (CO : CallOK P B W0 call) (H : HookOK P B W0) (hmix : P.follows .mixedOrders = true) : ∀ dp : Nat, InlOK (β := β) P B W0 (evF P W0.K call m dp)
  | 0 => ⟨fun h => by cases h⟩
  | dp + 1 => hooked_sound H (evFStep_sound SE N CO hmix (evF_sound SE N CO H hmix dp))

/-! calls -/
/-- the library's functions do as they are said to do, in worlds of a kind -/
def LibOK (P : Program) (T : World → Prop) (lib : FuncId → Option (List CV → Option CV)) : Prop :=
  ∀ f s, lib f = some s → ∀ args r, s args = some r → (∀ vs w, (callFunc f vs).run P w = .ok (.enter f vs) w) ∧
    ∀ (w : World) (h : Hw) (vs : List Value), T w → (∀ b, w.heap.size ≤ b → h b = 0) → CRepT w h args vs →
      Calls P f vs.toArray w fun e w' => ∃ v h', e = .returned v ∧ Below w.heap.size w w' ∧ (∀ b, b < w.heap.size → h' b = h b) ∧ (∀ b, w'.heap.size ≤ b → h' b = 0) ∧ CRep w' h' r v

theorem CRepT.vals : ∀ {cs : List CV} {xs : List Value}, CRepT w G.hw cs xs → ARepL P w G (cs.map .val) xs
  | [], xs, h => by simp only [CRepT] at h; subst h; simp [ARepL]
  | c :: cs, xs, h => by
    simp only [CRepT] at h
    obtain ⟨x, r, rfl, h1, h2⟩ := h
    simp only [List.map_cons, ARepL, ARep]
    exact ⟨x, r, rfl, h1, CRepT.vals h2⟩
theorem out_sound {v : AV} {c : CV} {x : Value} {p : Place} (h : v.out = some c) (hv : ARep P w G p v x) : CRep w G.hw c x := by
  cases v with
  | val c' => simp only [AV.out, Option.some.injEq] at h; subst h; simpa only [ARep] using hv
  | lst own n e l => simp only [AV.out, Option.some.injEq] at h; subst h; exact hv.list
  | _ => simp [AV.out] at h

theorem outT_sound {v : AV} {c : CV} {x : Value} {p : Place} {t : Option TypeId} (h : v.outT t = some c) (hv : ARep P w G p v x) : CRep w G.hw c x ∧ ∀ e, t = some e → Tight P w G.hw e c x := by
  unfold AV.outT at h
  cases t with
  | none => exact ⟨out_sound h hv, fun e he => by cases he⟩
  | some e =>
    cases v with
    | lst own n e' l =>
      cases own with
      | true => simp at h
      | false =>
        simp only at h
        split at h
        · rename_i he
          simp only [beq_iff_eq] at he
          subst he
          simp only [Option.some.injEq] at h
          subst h
          refine ⟨hv.list, fun e2 he2 => ?_⟩
          obtain rfl := Option.some.inj he2
          refine ⟨n, l, rfl, ?_⟩
          simp only [ARep] at hv ⊢
          rcases hv with hv | ⟨h1, b, off, cap, h2, h3, h4, h5, h6, h7⟩
          · exact .inl hv
          · refine .inr ⟨h1, b, off, cap, h2, h3, h4, h5, h6, ?_⟩
            rcases h7 with h7 | ⟨h7, _⟩
            · exact .inl h7
            · cases h7
        · cases h
    | _ => simp at h

theorem evFOwn_sound (SE : StructEqOk P) (N : NamesOk P) (CO : CallOK P B W0 call) (hmix : P.follows .mixedOrders = true) {inl : FuncId → List AV → MemT → (AV → MemT → Option CV) → Option CV} (Iok : InlOK P B W0 inl) {f : FuncId} {vs : List AV} {e : TypeId} {r : CV}
    (h : evFOwn P W0.K call m inl f vs e = some r) (w : World) (G : Gh) (M : Mem P B W0 w G []) (xs : List Value) (hx : ARepL P w G vs xs) (hB : B = w.heap.size) :
    (∀ w', (callFunc f xs.toArray).run P w' = .ok (.enter f xs.toArray) w') ∧
    Calls P f xs.toArray w fun en w' => ∃ x G', en = .returned x ∧ Mem P B W0 w' G' [] ∧ CRep w' G'.hw r x ∧ Keeps B 0 w w' G G' ∧ Fresh P w w' G'.hw e r x := by
  unfold evFOwn at h
  split at h
  · rename_i fn hf
    split at h
    · rename_i c hb
      refine ⟨fun w' => run_callFunc_enter N hf hb _ w', calls_of_wp hf hb ?_⟩
      have hlen := hx.length
      have S : Sim P B W0 0 { tmps := vs ++ List.replicate (fn.ntmps - vs.length) .any, mem := [List.replicate fn.ntmps none], K := W0.K } { tmps := xs.toArray ++ Array.replicate (fn.ntmps - xs.toArray.size) undef, defers := [] } w G := by
        refine ⟨M.congr (by have := box?_append [] fn.ntmps; simpa using this), by simp, ⟨by simp [hlen], fun i => ?_⟩, rfl, rfl⟩
        by_cases hi : i < vs.length
        · have e1 : nthD .any (vs ++ List.replicate (fn.ntmps - vs.length) AV.any) i = nthD .any vs i := by
            rw [nthD_get, nthD_get, List.getElem?_append_left hi]
          have e2 : (xs.toArray ++ Array.replicate (fn.ntmps - xs.toArray.size) undef).getD i undef = xs.getD i undef := by
            rw [Array.getD_eq_getD_getElem?, Array.getElem?_append_left (by simp; omega)]
            simp
          rw [e1, e2]
          exact ARep.ofNone M.noNone (hx.getD i hi)
        · have e1 : nthD .any (vs ++ List.replicate (fn.ntmps - vs.length) AV.any) i = .any := by
            rw [nthD_get, List.getElem?_append_right (by omega), List.getElem?_replicate]
            split <;> rfl
          rw [e1]
          simp [ARep]
      refine evN_sound SE CO Iok hmix 1000 c _ _ h _ w G S _ fun en a' w' G' σ' S' K' hk => ?_
      have fin : retOwn fn.results.toList e .ret σ' = some r →
          a'.defers = [] ∧ ∃ v, (results fn a'.tmps).run P w' = .ok v w' ∧ (∃ x G', (Ending.returned v) = .returned x ∧ Mem P B W0 w' G' [] ∧ CRep w' G'.hw r x ∧ Keeps B 0 w w' G G' ∧ Fresh P w w' G'.hw e r x) := by
        intro h
        unfold retOwn at h
        simp only at h
        split at h
        · rename_i t hres
          split at h
          · rename_i n e' l hv
            obtain ⟨he, hr0⟩ := chkO_some h
            have he : e' = e := by simpa using he
            subst he
            obtain rfl := Option.some.inj hr0
            have hrep := S'.fr.rep t
            rw [hv] at hrep
            have hrun : (results fn a'.tmps).run P w' = .ok (a'.tmps.getD t undef) w' := by
              have hr : fn.results = #[.tmp t] := by apply Array.ext'; simpa using hres
              simp [results, hr]
            refine ⟨S'.defers, _, hrun, _, G'.drop fun d' _ => d' == 0, rfl, ?_, ?_, ?_, ?_⟩
            · refine S'.mem.drop fun d s => ?_
              unfold dropBox
              have e0 : box? ([] : MemT) d s = none := by simp [box?, nthD]
              rw [e0]
              by_cases hd : d = 0
              · simp [hd]
              · have hl := S'.depth
                have : box? σ'.mem d s = none := by
                  unfold box?
                  rw [nthD_get [], List.getElem?_eq_none (by omega)]
                  rfl
                rw [this]
                simp
            · exact hrep.list
            · exact K'.trans (Keeps.drop fun d' s hd => by simp; omega)
            · refine ⟨n, l, rfl, ?_⟩
              simp only [ARep] at hrep
              rcases hrep with hrep | ⟨h1, b, off, cap, h2, h3, h4, h5, h6, h7⟩
              · exact .inl hrep
              · rcases h7 with ⟨q, _⟩ | ⟨_, q1, rfl, q3, q4, q5⟩
                · cases q
                · have := (S'.mem.own b _ q1).1
                  exact .inr ⟨h1, b, cap, h2, by omega, h3, h4, q3, q4, q5, h6⟩
          · cases h
        · cases h
      cases en with
      | exit id => cases hk
      | normal => exact fin hk
      | ret => exact fin hk
    · cases h
  · cases h
theorem callF_sound (SE : StructEqOk P) (N : NamesOk P) (hmix : P.follows .mixedOrders = true) {K : Cfg} {T : World → Prop} {N0 : Nat} (hT : ∀ w w', Below N0 w w' → T w → T w')
    {lib : FuncId → Option (List CV → Option CV)} (L : LibOK P T lib) (Lt : ∀ f s, lib f = some s → tightF P f = none ∧ K.own f = none) (H : ∀ (B : Nat) (W0 : Base), W0.K = K → N0 ≤ B → T W0.W → HookOK P B W0) :
    ∀ (n B : Nat) (W0 : Base), W0.K = K → N0 ≤ B → T W0.W → CallOK P B W0 (callF P K lib n)
  | 0, B, W0, _, _, _ => ⟨fun h => by simp [callF] at h, fun h => by simp [callF] at h⟩
  | n + 1, B, W0, hK, hB, hW => by
    subst hK
    have key : ∀ {f args r}, callF P W0.K lib (n + 1) f args = some r → (∃ s, lib f = some s ∧ s args = some r) ∨ evTop P W0.K (callF P W0.K lib n) n (evF P W0.K (callF P W0.K lib n) n 9) f (args.map .val) = some r := by
      intro f args r h
      unfold callF at h
      split at h
      · rename_i s hs; exact .inl ⟨s, hs, h⟩
      · exact .inr h
    refine ⟨fun {f args r} h vs w => ?_, fun {f args r} h w hw vs hbel hglob hle hz hv => ?_⟩
    · rcases key h with ⟨s, hs, h⟩ | h
      · exact (L f s hs args r h).1 vs w
      · unfold evTop at h
        split at h
        · obtain ⟨fn, c, hf, hb, _⟩ := evF_body h
          exact run_callFunc_enter N hf hb vs w
        · split at h
          · unfold evFOwn at h
            split at h
            · rename_i fn hf
              split at h
              · rename_i c hb
                exact run_callFunc_enter N hf hb vs w
              · cases h
            · cases h
          · cases h
    · have hTw : T w := hT _ _ (hbel.mono hB) hW
      rcases key h with ⟨s, hs, h⟩ | h
      · refine ((L f s hs args r h).2 w hw vs hTw hz hv).mono fun e w' he => ?_
        obtain ⟨v, h', q1, q2, q3, q4, q5⟩ := he
        exact ⟨v, h', q1, q2, q3, q4, q5, (fun e he => by rw [(Lt f s hs).1] at he; cases he), (fun e _ he => by rw [(Lt f s hs).2] at he; cases he)⟩
      · have CO := callF_sound SE N hmix hT L Lt H n w.heap.size ⟨w, W0.K⟩ rfl (Nat.le_trans hB hle) hTw
        have Iok : InlOK (β := CV) P w.heap.size ⟨w, W0.K⟩ (evFStep P W0.K (callF P W0.K lib n) n (evF P W0.K (callF P W0.K lib n) n 9)) :=
          evFStep_sound (W0 := ⟨w, W0.K⟩) SE N CO hmix (evF_sound (W0 := ⟨w, W0.K⟩) SE N CO (H _ ⟨w, W0.K⟩ rfl (Nat.le_trans hB hle) hTw) hmix 9)
        have M : Mem P w.heap.size ⟨w, W0.K⟩ w { blk := fun _ _ => none, hw := hw, own := fun _ => none } [] :=
          ⟨Below.refl _ _, Nat.le_refl _, fun b p h => (by cases h), hz, fun _ _ _ => rfl, fun d s cs h => (by simp [box?, nthD] at h), fun _ _ _ _ _ h => (by cases h), hglob⟩
        unfold evTop at h
        split at h
        · rename_i hno
          refine (Iok.run h w _ 0 M rfl vs (CRepT.vals hv)).2.mono fun e w' he => ?_
          obtain ⟨v, x, mem', G', rfl, hk, M', _, hr, _, K'⟩ := he
          exact ⟨x, G'.hw, rfl, K'.below, K'.low, M'.hw, (outT_sound hk hr).1, (outT_sound hk hr).2, (fun e _ he => by rw [hno] at he; cases he)⟩
        · rename_i e0 ho
          split at h
          · rename_i ht
            refine (evFOwn_sound SE N CO hmix (evF_sound (W0 := ⟨w, W0.K⟩) SE N CO (H _ ⟨w, W0.K⟩ rfl (Nat.le_trans hB hle) hTw) hmix 9) h w _ M vs (CRepT.vals hv) rfl).2.mono fun e w' he => ?_
            obtain ⟨x, G', rfl, M', hr, K', hfr⟩ := he
            exact ⟨x, G'.hw, rfl, K'.below, K'.low, M'.hw, hr, (fun e he => by rw [ht] at he; cases he), (fun e _ he => by rw [ho] at he; cases he; exact hfr)⟩
          · cases h
end Go.Am
/- Arguments that read as data stand for plain data. Conditions: as each says. -/
namespace Go.Am
open Go.RowKit

/-- the fields lie one behind the other -/
def tiled (P : Program) : List Field → Nat → Option Nat
  | [], o => some o
  | f :: r, o => if f.offset = o then tiled P r (o + P.cellsOf f.type) else none
/-- a type of plain data -/
def plainT (P : Program) : Nat → Bool → TypeId → Bool
  | 0, _, _ => false
  | n + 1, sl, t =>
    match P.underlying t with
    | some .bool => true
    | some (.int _) => true
    | some .string => true
    | some (.slice e) => P.cellsOf e != 0 && plainT P n sl e
    | some (.struct fs) => tiled P fs.toList 0 == some (P.cellsOf t) && fs.toList.all fun f => plainT P n sl f.type
    | _ => false
def TyF (ty : TypeId → List CV → Prop) : List TypeId → List CV → Prop
  | [], l => l = []
  | t :: ts, l => ∃ p r, l = p ++ r ∧ ty t p ∧ TyF ty ts r
/-- what values of a type are, cell by cell -/
def Ty (P : Program) : Nat → TypeId → List CV → Prop
  | 0, _, _ => False
  | n + 1, t, l =>
    match P.underlying t with
    | some .bool => ∃ b, l = [.bool b]
    | some (.int k) => ∃ z, l = [.int k z] ∧ k.min ≤ z ∧ z ≤ k.max
    | some .string => ∃ s : List UInt8, l = [.str s] ∧ s.length ≤ reachBytes
    | some (.slice e) => ∃ nl xs, l = [.list nl xs] ∧ (nl = true → xs = []) ∧ xs.length * P.bytesOf e ≤ reachBytes ∧ ∀ x ∈ xs, Ty P n e x
    | some (.struct fs) => TyF (Ty P n) (fs.toList.map (·.type)) l
    | _ => False

section
variable {H : Type} {enc : TypeId × Value → H} {P : Program} {W : World} {h : Hw}

theorem weightsAll_mem {e : TypeId} {d : DataW H} {y : Nat} : ∀ {l : List (DataW H)}, d ∈ l → y ∈ d.weights P e → y ∈ DataW.weightsAll P e l
  | [], h, _ => by cases h
  | x :: l, hd, hy => by
    unfold DataW.weightsAll
    rcases List.mem_cons.1 hd with rfl | hd
    · exact List.mem_append_left _ hy
    · exact List.mem_append_right _ (weightsAll_mem hd hy)
theorem weightsEach_mem {d : DataW H} {t : TypeId} {y : Nat} : ∀ {ts : List TypeId} {l : List (DataW H)} {i : Nat}, ts[i]? = some t → l[i]? = some d → y ∈ d.weights P t → y ∈ DataW.weightsEach P ts l
  | [], _, _, h, _, _ => by simp at h
  | _ :: _, [], _, _, h, _ => by simp at h
  | t' :: ts, x :: l, i, ht, hl, hy => by
    unfold DataW.weightsEach
    cases i with
    | zero =>
      simp only [List.getElem?_cons_zero, Option.some.injEq] at ht hl
      subst ht; subst hl
      exact List.mem_append_left _ hy
    | succ i => exact List.mem_append_right _ (weightsEach_mem (by simpa using ht) (by simpa using hl) hy)

theorem crepC_mk {b : Nat} : ∀ {c : List CV} {us : List Value} {off : Nat}, CRepV W h c us → (∀ (j : Nat) u, us[j]? = some u → W.cell? (cellA b (off + j)) = some u) → CRepC W h b off c
  | [], _, _, _, _ => by simp [CRepC]
  | c :: cs, us, off, hr, hc => by
    simp only [CRepV] at hr
    obtain ⟨v, r, rfl, h1, h2, h3⟩ := hr
    simp only [CRepC]
    refine ⟨⟨v, by simpa using hc 0 v rfl, h1, h2⟩, crepC_mk h3 fun j u hj => ?_⟩
    have := hc (j + 1) u (by simpa using hj)
    rw [show off + 1 + j = off + (j + 1) by omega]
    exact this
theorem crepLL_mk {b es : Nat} : ∀ {xs : List (List CV)} {off : Nat}, (∀ (i : Nat) c, xs[i]? = some c → ∃ us : List Value, us.length = es ∧ CRepV W h c us ∧ ∀ (j : Nat) u, us[j]? = some u → W.cell? (cellA b (off + i * es + j)) = some u) →
    CRepLL W h b off xs
  | [], _, _ => by simp [CRepLL]
  | c :: xs, off, hx => by
    simp only [CRepLL]
    obtain ⟨us, h1, h2, h3⟩ := hx 0 c rfl
    refine ⟨crepC_mk h2 fun j u hj => by simpa using h3 j u hj, ?_⟩
    have hl : c.length = es := by rw [← h1]; exact (CRepV.length h2).symm
    rw [hl]
    refine crepLL_mk (es := es) fun i c' hi => ?_
    obtain ⟨us', q1, q2, q3⟩ := hx (i + 1) c' (by simpa using hi)
    refine ⟨us', q1, q2, fun j u hj => ?_⟩
    have := q3 j u hj
    rw [show off + es + i * es + j = off + (i + 1) * es + j by rw [Nat.add_mul]; omega]
    exact this

/-- the bound on addresses of empty slices -/
def Near (h : Hw) (cs : List Value) : Prop := ∀ v ∈ cs, ∀ a len cap, v = Value.slice (some a) len cap → a.spot = none ∧ a.off ≤ h a.block

theorem fields_in {ty : TypeId → List CV → Prop} {cs : List Value} : ∀ {fs : List Field} {o : Nat}, tiled P fs o = some cs.length → o ≤ cs.length →
    (∀ f ∈ fs, ∃ l, ty f.type l ∧ CRepV W h l ((cs.drop f.offset).take (P.cellsOf f.type))) → ∃ l, TyF ty (fs.map (·.type)) l ∧ CRepV W h l (cs.drop o)
  | [], o, ht, _, _ => by
    simp only [tiled, Option.some.injEq] at ht
    subst ht
    exact ⟨[], rfl, by simp [CRepV]⟩
  | f :: fs, o, ht, ho, hf => by
    unfold tiled at ht
    split at ht
    · rename_i e
      subst e
      have hle : ∀ {fs : List Field} {a b : Nat}, tiled P fs a = some b → a ≤ b := by
        intro fs
        induction fs with
        | nil => intro a b h; simp only [tiled, Option.some.injEq] at h; omega
        | cons g gs ih =>
          intro a b h
          unfold tiled at h
          split at h
          · have := ih h; omega
          · cases h
      obtain ⟨l1, h1, h2⟩ := hf f (by simp)
      obtain ⟨l2, h3, h4⟩ := fields_in ht (hle ht) fun g hg => hf g (by simp [hg])
      refine ⟨l1 ++ l2, ⟨l1, l2, rfl, h1, h3⟩, ?_⟩
      have e2 : cs.drop f.offset = (cs.drop f.offset).take (P.cellsOf f.type) ++ cs.drop (f.offset + P.cellsOf f.type) := by
        rw [← List.drop_drop, List.take_append_drop]
      rw [e2]
      exact h2.append h4
    · cases ht

theorem trod_in (hh : ∀ b o v, W.cell? (cellA b o) = some v → o < h b) : ∀ (n : Nat) (sl : Bool) (t : TypeId) (m : Nat) (cs : List Value) (x : DataW H × List MemPlace), plainT P n sl t = true →
    DataW.trod enc P W 0 (fun _ => true) true m t cs = some x → (∀ y ∈ x.1.weights P t, y ≤ reachBytes) → ∃ l, Ty P n t l ∧ CRepV W h l cs
  | 0, _, _, _, _, _, hp, _, _ => by cases hp
  | n + 1, sl, t, m, cs, x, hp, ht, hw => by
    unfold plainT at hp
    unfold Ty
    cases hu : P.underlying t with
    | none => rw [hu] at hp; cases hp
    | some d =>
      rw [hu] at hp
      cases d with
      | bool =>
        obtain ⟨b, rfl, rfl⟩ := DataW.trod_bool hu ht
        exact ⟨[.bool b], ⟨b, rfl⟩, by simp only [CRepV, CRep]; exact ⟨_, _, rfl, rfl, rfl, rfl⟩⟩
      | int k =>
        obtain ⟨z, rfl, rfl, hz⟩ := DataW.trod_int hu ht
        simp only [Lit.wf, Bool.and_eq_true, decide_eq_true_eq] at hz
        exact ⟨[.int k z], ⟨z, rfl, hz.1, hz.2⟩, by simp only [CRepV, CRep]; exact ⟨_, _, rfl, rfl, rfl, rfl⟩⟩
      | string =>
        obtain ⟨s, rfl, rfl, hs⟩ := DataW.trod_string hu ht
        exact ⟨[.str s.data.toList], ⟨s.data.toList, rfl, hw _ (by simp [DataW.weights])⟩, by simp only [CRepV, CRep]; exact ⟨_, _, rfl, rfl, rfl, rfl⟩⟩
      | slice e =>
        simp only [Bool.and_eq_true, bne_iff_ne, ne_eq] at hp
        obtain ⟨hc0, hpe⟩ := hp
        rcases DataW.trod_slice hu ht with ⟨rfl, rfl⟩ | ⟨a, len, cap, elems, rest, m', rfl, rfl, rfl, hb, hl, hm, hlen, hel, hsp, hns⟩
        · exact ⟨[.list true []], ⟨true, [], rfl, fun _ => rfl, by simp, fun x hx => by cases hx⟩, by simp only [CRepV, CRep]; exact ⟨_, _, rfl, rfl, .inl ⟨trivial, trivial, rfl⟩, rfl⟩⟩
        · by_cases hlen0 : len = 0
          · subst hlen0
            refine ⟨[.list false []], ⟨false, [], rfl, fun _ => rfl, by simp, fun x hx => (by cases hx)⟩, ?_⟩
            simp only [CRepV]
            refine ⟨_, _, rfl, rfl, ?_, rfl⟩
            simp only [CRep]
            exact .inr ⟨trivial, 0, 0, cap, 0, ⟨a, rfl, fun q => by simp at q⟩, by simp, by simp, by simp, by simp [CRepLL]⟩
          obtain ⟨b, off, rfl⟩ : ∃ b off, a = cellA b off := by
            have h0 := hel 0 (by omega)
            have hi : 0 < elems.length := by omega
            rw [List.getElem?_eq_getElem hi, Option.bind_eq_some_iff] at h0
            obtain ⟨us, hus, _⟩ := h0
            obtain ⟨_, r1, r2⟩ := World.cells?_some hus
            have r3 := r2 0 (by omega)
            obtain ⟨bl, of, sp⟩ := a
            cases sp with
            | none => exact ⟨bl, of, rfl⟩
            | some q =>
              exfalso
              have hu0 : us[0]? ≠ none := by rw [List.getElem?_eq_getElem (by omega)]; simp
              rw [← r3] at hu0
              simp [World.cell?, Addr.add] at hu0
              split at hu0 <;> simp at hu0
          have each : ∀ i : Fin len, ∃ l, Ty P n e l ∧ ∃ us : List Value, us.length = P.cellsOf e ∧ CRepV W h l us ∧ ∀ (j : Nat) u, us[j]? = some u → W.cell? (cellA b (off + i.1 * P.cellsOf e + j)) = some u := by
            intro i
            have hi : i.1 < elems.length := by rw [hlen]; exact i.2
            have hb' := hel i.1 i.2
            rw [List.getElem?_eq_getElem hi, Option.bind_eq_some_iff] at hb'
            obtain ⟨us, hus, hy⟩ := hb'
            obtain ⟨_, r1, r2⟩ := World.cells?_some hus
            obtain ⟨l, q1, q2⟩ := trod_in hh n sl e m' us _ hpe hy (fun y hy' => hw y (by
              unfold DataW.weights
              rw [hu]
              exact List.mem_cons_of_mem _ (List.mem_append_left _ (weightsAll_mem (List.mem_map.2 ⟨_, List.getElem_mem hi, rfl⟩) hy'))))
            refine ⟨l, q1, us, r1, q2, fun j u hj => ?_⟩
            have := r2 j (by rw [← r1]; exact (List.getElem?_eq_some_iff.1 hj).1)
            rw [hj, add_cellA, add_cellA] at this
            exact this
          obtain ⟨F, hF⟩ : ∃ F : Fin len → List CV, ∀ i, Ty P n e (F i) ∧ ∃ us : List Value, us.length = P.cellsOf e ∧ CRepV W h (F i) us ∧ ∀ (j : Nat) u, us[j]? = some u → W.cell? (cellA b (off + i.1 * P.cellsOf e + j)) = some u :=
            ⟨fun i => Classical.choose (each i), fun i => Classical.choose_spec (each i)⟩
          clear each
          have hrep : ∀ (i : Nat) c, (List.ofFn F)[i]? = some c → ∃ us : List Value, us.length = P.cellsOf e ∧ CRepV W h c us ∧ ∀ (j : Nat) u, us[j]? = some u → W.cell? (cellA b (off + i * P.cellsOf e + j)) = some u := by
            intro i c hi
            have hlt : i < len := by have := (List.getElem?_eq_some_iff.1 hi).1; simpa using this
            rw [List.getElem?_eq_getElem (by simpa using hlt), List.getElem_ofFn, Option.some.injEq] at hi
            subst hi
            exact (hF ⟨i, hlt⟩).2
          have hlens : ∀ c ∈ List.ofFn F, c.length = P.cellsOf e := by
            intro c hc
            obtain ⟨i, hi, hci⟩ := List.getElem_of_mem hc
            obtain ⟨us, q1, q2, _⟩ := hrep i c (by rw [List.getElem?_eq_getElem hi, hci])
            rw [← q1]; exact (CRepV.length q2).symm
          refine ⟨[.list false (List.ofFn F)], ⟨false, _, rfl, fun q => (by cases q), ?_, ?_⟩, ?_⟩
          · have := hw ((elems.length + rest.length) * P.bytesOf e) (by
              unfold DataW.weights
              rw [hu]
              simp)
            refine Nat.le_trans (Nat.mul_le_mul_right _ ?_) this
            simp [hlen]
          · intro x hx
            obtain ⟨i, rfl⟩ := List.mem_ofFn.1 hx
            exact (hF i).1
          · simp only [CRepV]
            refine ⟨_, _, rfl, rfl, ?_, rfl⟩
            simp only [CRep]
            refine .inr ⟨trivial, b, off, cap, P.cellsOf e, .mk (by simp), by simpa using hl, hlens, ?_, crepLL_mk hrep⟩
            · obtain ⟨us, q1, q2, q3⟩ := hrep (len - 1) _ (List.getElem?_eq_getElem (by simp; omega))
              have hj : P.cellsOf e - 1 < us.length := by omega
              have := hh _ _ _ (q3 (P.cellsOf e - 1) _ (List.getElem?_eq_getElem hj))
              simp only [List.length_ofFn]
              have e1 : len * P.cellsOf e = (len - 1) * P.cellsOf e + P.cellsOf e := by
                rw [← Nat.succ_mul]; congr 1; omega
              omega
      | struct fs =>
        simp only [Bool.and_eq_true, beq_iff_eq, List.all_eq_true] at hp
        obtain ⟨hti, hpf⟩ := hp
        obtain ⟨xs, m', rfl, rfl, hlen, hxs, hf⟩ := DataW.trod_struct hu ht
        have := fields_in (P := P) (W := W) (h := h) (ty := Ty P n) (cs := cs) (fs := fs.toList) (o := 0) (by rw [hti, hlen]) (Nat.zero_le _) fun f hfm => by
          obtain ⟨i, hi, rfl⟩ := List.getElem_of_mem hfm
          have hi' : i < fs.size := by simpa using hi
          have hfi := hf i fs[i] (by simp [hi'])
          have hix : i < xs.length := by omega
          rw [List.getElem?_eq_getElem hix] at hfi
          simp only [Array.getElem_toList]
          refine trod_in hh n sl _ m' _ _ (hpf _ (by simp)) hfi (fun y hy => hw y ?_)
          unfold DataW.weights
          rw [hu]
          exact weightsEach_mem (i := i) (by simp [hi']) (by simp [hix]) hy
        simpa using this
      | _ => cases hp
end

/-! arguments -/
def ArgTy (P : Program) (t : TypeId) (c : CV) : Prop := match isAggT P t with
  | true => ∃ l, c = .agg l ∧ Ty P 8 t l
  | false => Ty P 8 t [c]
def ArgsTy (P : Program) : List TypeId → List CV → Prop
  | [], cs => cs = []
  | t :: ts, cs => ∃ c r, cs = c :: r ∧ ArgTy P t c ∧ ArgsTy P ts r
section
variable {P : Program} {n : Nat} {t : TypeId} {l : List CV} {c : CV}
theorem Ty.bool (hu : P.underlying t = some .bool) (h : Ty P (n + 1) t l) : ∃ b, l = [.bool b] := by
  unfold Ty at h; rw [hu] at h; exact h
theorem Ty.int {k : IntKind} (hu : P.underlying t = some (.int k)) (h : Ty P (n + 1) t l) : ∃ z, l = [.int k z] ∧ k.min ≤ z ∧ z ≤ k.max := by
  unfold Ty at h; rw [hu] at h; exact h
theorem Ty.str (hu : P.underlying t = some .string) (h : Ty P (n + 1) t l) : ∃ s : List UInt8, l = [.str s] ∧ s.length ≤ reachBytes := by
  unfold Ty at h; rw [hu] at h; exact h
theorem Ty.slice {e : TypeId} (hu : P.underlying t = some (.slice e)) (h : Ty P (n + 1) t l) :
    ∃ nl xs, l = [.list nl xs] ∧ (nl = true → xs = []) ∧ xs.length * P.bytesOf e ≤ reachBytes ∧ ∀ x ∈ xs, Ty P n e x := by
  unfold Ty at h; rw [hu] at h; exact h
theorem Ty.struct {fs : Array Field} {ts : List TypeId} (hu : P.underlying t = some (.struct fs)) (hts : fs.toList.map (·.type) = ts) (h : Ty P (n + 1) t l) : TyF (Ty P n) ts l := by
  unfold Ty at h; rw [hu] at h; rw [← hts]; exact h
theorem ArgTy.bool (hu : P.underlying t = some .bool) (h : ArgTy P t c) : ∃ b, c = .bool b := by
  unfold ArgTy isAggT at h; rw [hu] at h
  obtain ⟨b, e⟩ := Ty.bool hu h
  exact ⟨b, by simpa using e⟩
theorem ArgTy.int {k : IntKind} (hu : P.underlying t = some (.int k)) (h : ArgTy P t c) : ∃ z, c = .int k z ∧ k.min ≤ z ∧ z ≤ k.max := by
  unfold ArgTy isAggT at h; rw [hu] at h
  obtain ⟨z, e, h⟩ := Ty.int hu h
  exact ⟨z, by simpa using e, h⟩
theorem ArgTy.str (hu : P.underlying t = some .string) (h : ArgTy P t c) : ∃ s : List UInt8, c = .str s ∧ s.length ≤ reachBytes := by
  unfold ArgTy isAggT at h; rw [hu] at h
  obtain ⟨z, e, h⟩ := Ty.str hu h
  exact ⟨z, by simpa using e, h⟩
theorem ArgTy.slice {e : TypeId} (hu : P.underlying t = some (.slice e)) (h : ArgTy P t c) :
    ∃ nl xs, c = .list nl xs ∧ (nl = true → xs = []) ∧ xs.length * P.bytesOf e ≤ reachBytes ∧ ∀ x ∈ xs, Ty P 7 e x := by
  unfold ArgTy isAggT at h; rw [hu] at h
  obtain ⟨nl, xs, e, h⟩ := Ty.slice hu h
  exact ⟨nl, xs, by simpa using e, h⟩
theorem ArgTy.struct {fs : Array Field} {ts : List TypeId} (hu : P.underlying t = some (.struct fs)) (hts : fs.toList.map (·.type) = ts) (h : ArgTy P t c) : ∃ l, c = .agg l ∧ TyF (Ty P 7) ts l := by
  unfold ArgTy isAggT at h; rw [hu] at h
  obtain ⟨l, e, h⟩ := h
  exact ⟨l, e, Ty.struct hu hts h⟩
theorem ArgsTy.cons {ts : List TypeId} {cs : List CV} (h : ArgsTy P (t :: ts) cs) : ∃ c r, cs = c :: r ∧ ArgTy P t c ∧ ArgsTy P ts r := h
theorem ArgsTy.nil {cs : List CV} (h : ArgsTy P [] cs) : cs = [] := h
end
/-- marks above all cells, and above the bound -/
def hw0 (W : World) (M : Nat) : Hw := fun b => if b < W.heap.size then M + (match W.heap[b]? with | some (.cells c _ _) => c.size | _ => 0) else 0
theorem hw0_out {W : World} {M : Nat} (b : Nat) (h : W.heap.size ≤ b) : hw0 W M b = 0 := by
  unfold hw0
  rw [if_neg (by omega)]
theorem hw0_near {W : World} {M b : Nat} (h : b < W.heap.size) : M ≤ hw0 W M b := by
  unfold hw0
  rw [if_pos h]
  omega
theorem hw0_cell {W : World} {M : Nat} (b o : Nat) (v : Value) (h : W.cell? (cellA b o) = some v) : o < hw0 W M b := by
  unfold World.cell? at h
  split at h
  · rename_i c e fz hb
    have hlt : b < W.heap.size := (Array.getElem?_eq_some_iff.1 hb).1
    have hb : W.heap[b]? = some (.cells c e fz) := hb
    unfold hw0
    rw [if_pos hlt, hb]
    simp only [Option.isSome_none, Bool.false_eq_true, if_false] at h
    have := (Array.getElem?_eq_some_iff.1 h).1
    simp only
    omega
  · cases h
def offOf : Value → Nat
  | .slice (some a) _ _ => a.off
  | _ => 0
def offs (vs : List Value) : Nat := ((vs.flatMap fun v => v.cells.toList).map offOf).sum

section
variable {H : Type} {enc : TypeId × Value → H} {P : Program} {W : World}

theorem le_sum : ∀ {l : List Nat} {x : Nat}, x ∈ l → x ≤ l.sum
  | [], _, h => by cases h
  | y :: l, x, h => by
    rcases List.mem_cons.1 h with rfl | h
    · simp
    · have := le_sum h; simp; omega

theorem cell_near {base : Nat} {u : TypeId} {a : Addr} {len cap : Nat} (h : Cell.okWide P W .any base u (.slice (some a) len cap)) : a.spot = none ∧ a.block < W.heap.size := by
  unfold Cell.okWide at h
  split at h
  all_goals first
    | (rename_i hv; cases hv; done)
    | skip
  all_goals try (rename_i hv _; cases hv; done)
  unfold Cell.ok at h
  split at h
  all_goals first
    | (rename_i hv; cases hv; done)
    | skip
  · rename_i hv
    cases hv
    obtain ⟨_, _, _, hs, row, cells, hsh, _⟩ := h
    refine ⟨hs, ?_⟩
    refine Decidable.byContradiction fun hn => ?_
    simp [World.shape?, Array.getElem?_eq_none (Nat.le_of_not_lt hn)] at hsh
  · cases h

theorem arg_in {M base : Nat} {t : TypeId} {v : Value} {d : DataW H} {ps : List MemPlace} (hT : DataW.Trod enc P W 0 (fun _ => true) true t v d ps) (hok : Value.okWide P W .any base t v)
    (hp : plainT P 8 true t = true) (hw : ∀ y ∈ d.weights P t, y ≤ reachBytes) (hM : offs [v] ≤ M) : ∃ c, ArgTy P t c ∧ CRep W (hw0 W M) c v := by
  obtain ⟨m, hm⟩ := hT
  have hcells : ∀ x ∈ v.cells.toList, ∃ u, Cell.okWide P W .any base u x := by
    intro x hx
    unfold Value.okWide at hok
    split at hok
    · obtain ⟨cs, rfl, _, ts, _, _, hall⟩ := hok
      have hx : x ∈ cs.toList := hx
      obtain ⟨i, hi⟩ := List.mem_iff_getElem?.1 hx
      obtain ⟨u, _, hu⟩ := hall i x (by simpa using hi)
      exact ⟨u, hu⟩
    · obtain ⟨cs, rfl, _, ts, _, _, hall⟩ := hok
      have hx : x ∈ cs.toList := hx
      obtain ⟨i, hi⟩ := List.mem_iff_getElem?.1 hx
      obtain ⟨u, _, hu⟩ := hall i x (by simpa using hi)
      exact ⟨u, hu⟩
    · rename_i q1 q2
      refine ⟨t, ?_⟩
      have : v.cells.toList = [v] := by
        cases v with
        | agg cs =>
          exfalso
          unfold Cell.okWide at hok
          split at hok
          all_goals first
            | (rename_i hv; cases hv; done)
            | skip
          all_goals try (rename_i hv _; cases hv; done)
          unfold Cell.ok at hok
          split at hok
          all_goals first
            | (rename_i hv; cases hv; done)
            | exact hok
        | _ => rfl
      rw [this] at hx
      rw [List.mem_singleton.1 hx]
      exact hok
  have hnear : Near (hw0 W M) v.cells.toList := by
    intro x hx a len cap e
    subst e
    obtain ⟨u, hu⟩ := hcells _ hx
    obtain ⟨h1, h2⟩ := cell_near hu
    refine ⟨h1, Nat.le_trans ?_ (hw0_near h2)⟩
    refine Nat.le_trans ?_ hM
    have : a.off ∈ (([v].flatMap fun v => v.cells.toList).map offOf) := List.mem_map.2 ⟨_, by simpa using hx, rfl⟩
    exact le_sum this
  obtain ⟨l, h1, h2⟩ := trod_in (h := hw0 W M) hw0_cell 8 true t m _ _ hp hm hw
  unfold ArgTy
  cases ha : isAggT P t with
  | true =>
    have : ∃ cs, v = .agg cs := by
      unfold Value.okWide at hok
      unfold isAggT at ha
      split at hok
      · exact ⟨_, hok.choose_spec.1⟩
      · exact ⟨_, hok.choose_spec.1⟩
      · rename_i q1 q2
        split at ha
        · rename_i fs hu; exact (q1 fs hu).elim
        · rename_i n e hu; exact (q2 n e hu).elim
        · cases ha
    obtain ⟨cs, rfl⟩ := this
    refine ⟨.agg l, ⟨l, rfl, h1⟩, ?_⟩
    simp only [CRep]
    exact ⟨cs.toList, by simp, h2⟩
  | false =>
    have hone : v.cells.toList = [v] := by
      cases v with
      | agg cs =>
        exfalso
        unfold Value.okWide at hok
        unfold isAggT at ha
        split at ha
        · cases ha
        · cases ha
        rename_i q1 q2
        split at hok
        · rename_i fs hu; exact q1 fs hu
        · rename_i n e hu; exact q2 n e hu
        unfold Cell.okWide at hok
        split at hok
        all_goals first
          | (rename_i hv; cases hv; done)
          | skip
        all_goals try (rename_i hv _; cases hv; done)
        unfold Cell.ok at hok
        split at hok
        all_goals first
          | (rename_i hv; cases hv; done)
          | exact hok
      | _ => rfl
    rw [hone] at h2
    match l, h1, h2 with
    | [], _, h2 => simp [CRepV] at h2
    | [c], h1, h2 =>
      simp only [CRepV] at h2
      obtain ⟨v', r, e, _, h3, rfl⟩ := h2
      simp only [List.cons.injEq, and_true] at e
      subst e
      exact ⟨c, h1, h3⟩
    | c :: c' :: l, _, h2 =>
      simp only [CRepV] at h2
      obtain ⟨v', r, e, _, h3, v2, r2, rfl, _⟩ := h2
      simp at e

theorem args_in {M base : Nat} : ∀ {ts : List TypeId} {vs : List Value} {ds : List (DataW H)} {ps : List MemPlace}, DataW.TrodAll enc P W 0 (fun _ => true) true ts vs ds ps →
    (∀ (j : Nat) t v, ts[j]? = some t → vs[j]? = some v → Value.okWide P W .any base t v) → ts.all (plainT P 8 true) = true → (∀ y ∈ DataW.weightsEach P ts ds, y ≤ reachBytes) → offs vs ≤ M →
    ∃ cs, ArgsTy P ts cs ∧ CRepT W (hw0 W M) cs vs
  | [], [], [], _, _, _, _, _, _ => ⟨[], rfl, by simp [CRepT]⟩
  | t :: ts, v :: vs, d :: ds, ps, hT, hok, hp, hw, hM => by
    obtain ⟨p, q, h1, h2, rfl⟩ := hT
    simp only [List.all_cons, Bool.and_eq_true] at hp
    unfold DataW.weightsEach at hw
    have hM' : offs [v] + offs vs = offs (v :: vs) := by simp [offs]
    obtain ⟨c, a1, a2⟩ := arg_in (M := M) h1 (hok 0 t v rfl rfl) hp.1 (fun y hy => hw y (List.mem_append_left _ hy)) (by omega)
    obtain ⟨cs, b1, b2⟩ := args_in (M := M) h2 (fun j t v ht hv => hok (j + 1) t v (by simpa using ht) (by simpa using hv)) hp.2 (fun y hy => hw y (List.mem_append_right _ hy)) (by omega)
    refine ⟨c :: cs, ⟨c, cs, rfl, a1, b1⟩, ?_⟩
    simp only [CRepT]
    exact ⟨v, vs, rfl, a2, b2⟩
  | [], _ :: _, _, _, h, _, _, _, _ => by simp [DataW.TrodAll] at h
  | [], [], _ :: _, _, h, _, _, _, _ => by simp [DataW.TrodAll] at h
  | _ :: _, [], _, _, h, _, _, _, _ => by simp [DataW.TrodAll] at h
  | _ :: _, _ :: _, [], _, h, _, _, _, _ => by simp [DataW.TrodAll] at h

theorem trodAll_len {base : Nat} {spare : Nat → Bool} {held : Bool} : ∀ {ts : List TypeId} {vs : List Value} {ds : List (DataW H)} {ps : List MemPlace}, DataW.TrodAll enc P W base spare held ts vs ds ps → ds.length = ts.length
  | [], [], [], _, _ => rfl
  | t :: ts, v :: vs, d :: ds, _, h => by
    obtain ⟨p, q, h1, h2, rfl⟩ := h
    simp [trodAll_len h2]
  | [], _ :: _, _, _, h => by simp [DataW.TrodAll] at h
  | [], [], _ :: _, _, h => by simp [DataW.TrodAll] at h
  | _ :: _, [], _, _, h => by simp [DataW.TrodAll] at h
  | _ :: _, _ :: _, [], _, h => by simp [DataW.TrodAll] at h

/-- arguments read behind the call as they did -/
theorem args_out {W' : World} {sp : Nat → Bool} (hl : laidOutB P = true) (hb : Below W.heap.size W W') : ∀ {ts : List TypeId} {vs : List Value} {ds : List (DataW H)} {ps : List MemPlace},
    DataW.TrodAll enc P W 0 (fun _ => true) true ts vs ds ps → ts.all (fun t => P.readableRec t && decide (t < P.types.size)) = true → (∀ x ∈ ps, x.block < W.heap.size) → (∀ x ∈ ps, sp x.block = true) →
    DataW.TrodAll enc P W' 0 sp true ts vs ds ps
  | [], [], [], _, h, _, _, _ => h
  | t :: ts, v :: vs, d :: ds, ps, hT, hr, hlt, hsp => by
    obtain ⟨p, q, h1, h2, rfl⟩ := hT
    simp only [List.all_cons, Bool.and_eq_true, decide_eq_true_eq] at hr
    exact ⟨p, q, WideElems.Trod_stays hl hr.1.1 hr.1.2 h1 (fun x hx => hb.same (hlt x (List.mem_append_left _ hx))) (fun x hx => hsp x (List.mem_append_left _ hx)),
      args_out hl hb h2 hr.2 (fun x hx => hlt x (List.mem_append_right _ hx)) (fun x hx => hsp x (List.mem_append_right _ hx)), rfl⟩
  | [], _ :: _, _, _, h, _, _, _ => by simp [DataW.TrodAll] at h
  | [], [], _ :: _, _, h, _, _, _ => by simp [DataW.TrodAll] at h
  | _ :: _, [], _, _, h, _, _, _ => by simp [DataW.TrodAll] at h
  | _ :: _, _ :: _, [], _, h, _, _, _ => by simp [DataW.TrodAll] at h

open Go.ChangeShapes Go.WideShapes Go.ChangeAt in
theorem post_of_below {f : Func} {s : ChangeSpec} {apart fresh handsOn again : Bool} {W W' : World} {args : Array Value} {v : Value} {ds gs : List (DataW H)} {before pa pv : List MemPlace}
    (hW : DataW.Whole enc P f.params.toList s.vars apart W args.toList ds gs before)
    (hres : ∀ (b : Nat) (sp : Nat → Bool) (hd : Bool), DataW.TrodAll enc P W' b sp hd f.resultTypes.toList (v.resultList f.resultTypes.size) (s.fn H (ds ++ gs)).results [])
    (hargs : ∀ sp : Nat → Bool, (∀ p ∈ before, sp p.block = true) → DataW.TrodAll enc P W' 0 sp true f.params.toList args.toList (s.fn H (ds ++ gs)).args pa)
    (hvars : ∀ sp : Nat → Bool, (∀ p ∈ before, sp p.block = true) → DataW.TrodVars enc P W' sp s.vars (s.fn H (ds ++ gs)).vars pv)
    (hps : before = pa ++ pv) (hb : Below W.heap.size W W')
    (hok : ∀ (j : Nat) (t : TypeId) (r : Value), f.resultTypes[j]? = some t → (v.resultList f.resultTypes.size)[j]? = some r → Value.okWide P W' .any 0 t r) :
    s.post enc P f apart fresh handsOn again W args v W' := by
  have hlt := hW.lt
  have hold : ∀ p ∈ before, (fun b => decide (b < W.heap.size)) p.block = true := fun p hp => by simpa using hW.lt p hp
  refine ⟨ds, gs, before, [], pa, pv, hW, hres _ _ _, hargs _ hold, hvars _ hold, hb.frame _, fun _ => ?_⟩
  obtain ⟨_, _, _, _, _, hz, hn⟩ := hW
  refine ⟨hok, _, _, ([] ++ pa) ++ pv, ⟨[] ++ pa, pv, trodAll_append (hargs _ (fun _ _ => rfl)) (hres _ _ _), hvars _ (fun _ _ => rfl), rfl, ?_, ?_⟩, ?_⟩
  · intro b off hp
    have hp : MemPlace.cell b off ∈ before := by rw [hps]; simpa using hp
    rw [hb.frozen (hlt _ hp)]
    exact hz b off hp
  · intro ha
    have := hn ha
    rw [hps] at this
    simpa using this
  · intro p hp _
    rw [hps]
    simpa using hp
end

section
open Go.ChangeShapes Go.WideShapes Go.ChangeAt
variable {H : Type} {enc : TypeId × Value → H}
/-- a law of plain data is a law of the program -/
theorem lift_true {C : Checked} {os : Os} {f : FuncId} {fn : Func} {s : ChangeSpec} {conds : List PathCond} {tb : TypeId} (own : ownKnob C.prog.godebug = none) (started : os.Started) (noInit : C.prog.inits.idxOf? f = none) (hfn : C.prog.funcs[f]? = some fn)
    (witness : ∃ (w : World) (tape : Tape) (i : Input), w.os = os ∧ (w.forCall tape i).Shaped C.prog ∧ i.vars = [] ∧ Input.okWide C.prog (w.forCall tape i) .any w.heap.size f i ∧
      s.pre6 enc C.prog fn conds false (w.forCall tape i).memory i.args ∧ ({} : Assume).holds C.prog (lone (Frame.enter C.prog f i.args .normal) [] (w.forCall tape i)))
    (hl : laidOutB C.prog = true) (hplain : fn.params.toList.all (plainT C.prog 8 true) = true) (hread : fn.params.toList.all (fun t => C.prog.readableRec t && decide (t < C.prog.types.size)) = true)
    (hres : fn.resultTypes = #[tb]) (hub : C.prog.underlying tb = some .bool) (hvars : s.vars = []) (hspec : ∀ ds : List (DataW H), ds.length = fn.params.toList.length → s.fn H ds = { results := [.lit (.bool true)], args := ds })
    (law : ∀ (W : World) (M : Nat) (vs : List Value) (cs : List CV), W.ShapedOpen C.prog → ArgsTy C.prog fn.params.toList cs → CRepT W (hw0 W M) cs vs →
      Calls C.prog f vs.toArray W fun e W' => e = .returned (.bool true) ∧ Below W.heap.size W W') :
    ReturnsInHanded {} C os f .any (s.pre6 enc C.prog fn conds false) (s.post enc C.prog fn false true false false) := by
  refine returnsInHanded_of_change_shaped own started noInit hfn witness ?_
  intro W base args ds gs before hval hW hcnd hsz hsh _
  have hW' := hW
  have hlt := hW.lt
  obtain ⟨p, q, hA, hV, rfl, hfz, hnd⟩ := hW
  rw [hvars] at hV
  obtain ⟨rfl, rfl⟩ := trodVars_none hV
  have hvt : s.plain.varTypes C.prog = [] := by simp [ChangeSpec.plain, DataSpec.varTypes, hvars]
  rw [hvt] at hsz
  simp only [List.append_nil] at hsz hlt hW'
  obtain ⟨cs, h1, h2⟩ := args_in (M := offs args.toList) hA (fun j t v ht hv => hval j t v (by simpa using ht) (by simpa using hv)) hplain
    (fun y hy => by simpa using List.all_eq_true.1 hsz y hy) (Nat.le_refl _)
  have hlen := trodAll_len hA
  refine (law W _ args.toList cs hsh h1 h2).mono fun e W' ⟨he, hb⟩ => ?_
  subst he
  have hs := hspec ds hlen
  refine ⟨.bool true, rfl, post_of_below (pa := p) (pv := []) hW' (fun b sp hd => ?_) (fun sp hsp => ?_) (fun _ _ => ?_) (by simp) hb (ok_one hres rfl (okWide_bool_mk hub true))⟩
  · simp only [List.append_nil, hs, hres]
    exact trodAll_mk1 (shut_bool hub true)
  · simp only [List.append_nil, hs]
    exact args_out hl hb hA hread hlt hsp
  · simp only [List.append_nil, hs, hvars]
    rfl
/-- .. where package-level variables read as the row lists them -/
theorem lift_laid {C : Checked} {os : Os} {f : FuncId} {fn : Func} {s : ChangeSpec} {conds : List PathCond} {tb : TypeId} {laid : List (String × DataW Unit)} (own : ownKnob C.prog.godebug = none) (started : os.Started) (noInit : C.prog.inits.idxOf? f = none) (hfn : C.prog.funcs[f]? = some fn)
    (witness : ∃ (w : World) (tape : Tape) (i : Input), w.os = os ∧ (w.forCall tape i).Shaped C.prog ∧ i.vars = [] ∧ Input.okWide C.prog (w.forCall tape i) .any w.heap.size f i ∧
      ((s.pre enc C.prog fn conds false (w.forCall tape i).memory i.args ∧ laidMetH C.prog laid (w.forCall tape i).memory) ∧ sizedMet enc C.prog fn (OpenSpec.ofChange s) false (w.forCall tape i).memory i.args) ∧
      ({} : Assume).holds C.prog (lone (Frame.enter C.prog f i.args .normal) [] (w.forCall tape i)))
    (hl : laidOutB C.prog = true) (hplain : fn.params.toList.all (plainT C.prog 8 true) = true) (hread : fn.params.toList.all (fun t => C.prog.readableRec t && decide (t < C.prog.types.size)) = true)
    (hres : fn.resultTypes = #[tb]) (hub : C.prog.underlying tb = some .bool) (hvars : s.vars = []) (hspec : ∀ ds : List (DataW H), ds.length = fn.params.toList.length → s.fn H ds = { results := [.lit (.bool true)], args := ds })
    (law : ∀ (W : World) (M : Nat) (vs : List Value) (cs : List CV), W.ShapedOpen C.prog → laidMetH C.prog laid W → ArgsTy C.prog fn.params.toList cs → CRepT W (hw0 W M) cs vs →
      Calls C.prog f vs.toArray W fun e W' => e = .returned (.bool true) ∧ Below W.heap.size W W') :
    ReturnsInHanded {} C os f .any (fun w args => (s.pre enc C.prog fn conds false w args ∧ laidMetH C.prog laid w) ∧ sizedMet enc C.prog fn (OpenSpec.ofChange s) false w args) (s.post enc C.prog fn false true false false) := by
  refine returnsInHanded_of_calls own started noInit witness ?_
  intro w tape i _ hsh _ hok hpre _
  obtain ⟨_, _, _, fn', hfn', _, _, _, _, hval⟩ := hok
  have e : fn' = fn := Option.some.inj (hfn'.symm.trans hfn)
  subst e
  obtain ⟨⟨⟨ds, gs, before, hw, _⟩, hx⟩, hz⟩ := hpre
  have hW : DataW.Whole enc C.prog fn'.params.toList s.vars false (w.forCall tape i) i.args.toList ds gs before := DataW.Whole.of_heap (w' := w.forCall tape i) (by rfl) hw
  have hL : laidMetH C.prog laid (w.forCall tape i) := hx.of_heap (by rfl)
  have hsz : (DataW.weightsEach C.prog (fn'.params.toList ++ s.plain.varTypes C.prog) (ds ++ gs)).all (· ≤ reachBytes) = true := hz.weights hw
  have hW' := hW
  have hlt := hW.lt
  obtain ⟨p, q, hA, hV, rfl, hfz, hnd⟩ := hW
  rw [hvars] at hV
  obtain ⟨rfl, rfl⟩ := trodVars_none hV
  have hvt : s.plain.varTypes C.prog = [] := by simp [ChangeSpec.plain, DataSpec.varTypes, hvars]
  rw [hvt] at hsz
  simp only [List.append_nil] at hsz hlt hW'
  obtain ⟨cs, h1, h2⟩ := args_in (M := offs i.args.toList) hA (fun j t v ht hv => hval j t v (by simpa using ht) (by simpa using hv)) hplain
    (fun y hy => by simpa using List.all_eq_true.1 hsz y hy) (Nat.le_refl _)
  have hlen := trodAll_len hA
  refine (law (w.forCall tape i) _ i.args.toList cs hsh hL h1 h2).mono fun e W' ⟨he, hb⟩ => ?_
  subst he
  have hs := hspec ds hlen
  refine ChangeSpec.post_blind (post_of_below (pa := p) (pv := []) hW' (fun b sp hd => ?_) (fun sp hsp => ?_) (fun _ _ => ?_) (by simp) hb (ok_one hres rfl (okWide_bool_mk hub true)))
  · simp only [List.append_nil, hs, hres]
    exact trodAll_mk1 (shut_bool hub true)
  · simp only [List.append_nil, hs]
    exact args_out hl hb hA hread hlt hsp
  · simp only [List.append_nil, hs, hvars]
    rfl
end
end Go.Am
