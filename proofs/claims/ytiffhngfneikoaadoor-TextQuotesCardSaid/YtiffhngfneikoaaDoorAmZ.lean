/- A step of the abstract machine through a region is sound; calls in place. Conditions: none. -/
import Derived.Test.YtiffhngfneikoaaDoorAmY
namespace Go.Am
open Go.RowKit
variable {P : Program} {B : Nat} {W0 : Base} {d : Nat} {σ : St} {a : Act} {w : World} {G : Gh} {β : Type} {call : FuncId → List CV → Option CV}
  {inl : FuncId → List AV → MemT → (AV → MemT → Option β) → Option β} {acc : List Loc} {r : β} {o : Oper} {ops : Array Oper}

theorem skip_moves {ops : Array Oper} (hg : ∀ σ', Shape σ σ' → (∀ l ∈ guardReads ops.toList o, Loc.same σ σ' l) → ∀ a w G, Sim P B W0 d σ' a w G → Region.wanted o (yielded ops a.tmps) = false) :
    Moves P B W0 d ops o σ ⟨guardReads ops.toList o, put o .undef⟩ := by
  intro σ' hs hl a w G S K Q hK
  unfold wpO
  rw [if_neg (by rw [hg σ' hs hl a w G S]; simp)]
  exact hK _ _ G (S.put o fun t _ => by simp [ARep]) (Keeps.refl _ _ _ _)

theorem guard_read {ops : List Oper} {j t : Nat} {want : Bool} (hg : o.guard = some (j, want)) (ht : (ops[j]?).bind (·.dst) = some t) : Loc.tmp t ∈ guardReads ops o := by
  simp [guardReads, hg, ht]

theorem run_moves {ops : Array Oper} (SE : StructEqOk P) (CO : CallOK P B W0 call) {did : Did → St → Option β}
    (h : (opM P d ops.toList o).exec call σ (callReads o ++ guardReads ops.toList o) (fun w rs => did ⟨rs, w⟩ (applyW σ w)) = some r)
    (hg : ∀ σ', Shape σ σ' → (∀ l ∈ guardReads ops.toList o, Loc.same σ σ' l) → ∀ a w G, Sim P B W0 d σ' a w G → Region.wanted o (yielded ops a.tmps) = true) :
    ∃ D, did D (applyW σ D.writes) = some r ∧ Moves P B W0 d ops o σ D := by
  obtain ⟨ws, rs, h1, h2, h3⟩ := M.exec_local _ h
  refine ⟨⟨rs, ws⟩, h1, ?_⟩
  intro σ' hs hl a w G S K Q hK
  unfold wpO
  rw [if_pos (hg σ' hs (fun l hh => hl l (h2 l (by simp [hh]))) a w G S)]
  have e := h3 σ' hs hl (fun ws _ => some ws)
  obtain ⟨ws', rs', q1, q2⟩ := op_sound SE CO S e
  simp only [Option.some.injEq] at q1
  subst q1
  exact .inl (q2 K Q hK)

/-- an inline call, as the model does it -/
structure InlOK (P : Program) (B : Nat) (W0 : Base) (inl : FuncId → List AV → MemT → (AV → MemT → Option β) → Option β) : Prop where
  run : ∀ {f vs mem k r}, inl f vs mem k = some r → ∀ w G D, Mem P B W0 w G mem → mem.length = D → ∀ xs : List Value, ARepL P w G vs xs →
    (∀ w', (callFunc f xs.toArray).run P w' = .ok (.enter f xs.toArray) w') ∧
    Calls P f xs.toArray w fun e w' => ∃ v x mem' G', e = .returned x ∧ k v mem' = some r ∧ Mem P B W0 w' G' mem' ∧ mem'.length = D ∧ ARep P w' G' .none v x ∧ v.copy = v ∧ Keeps B D w w' G G'

theorem ARepL.append {w : World} {G : Gh} : ∀ {c e : List AV} {us vs : List Value}, ARepL P w G c us → ARepL P w G e vs → ARepL P w G (c ++ e) (us ++ vs)
  | [], e, us, vs, h1, h2 => by simp only [ARepL] at h1; subst h1; simpa using h2
  | c :: cs, e, us, vs, h1, h2 => by
    simp only [ARepL] at h1
    obtain ⟨v, r, rfl, h3, h4⟩ := h1
    simp only [List.cons_append, ARepL]
    exact ⟨v, r ++ vs, rfl, h3, ARepL.append h4 h2⟩

def evArg (σ : St) (x : Operand) : AV :=
  match x with
  | .tmp t => (σ.get (.tmp t)).copy
  | .const v => AV.ofConst v
  | .func f => .val (.fn f)
  | .global _ => .any
theorem evArg_sound (S : Sim P B W0 d σ a w G) (x : Operand) : ARep P w G .none (evArg σ x) (a.eval x) := by
  cases x with
  | tmp t => exact (S.fr.rep t).copy
  | const v => exact AV.ofConst_rep w G .none v
  | func f => simp [evArg, ARep, CRep, Act.eval]
  | global g => simp [evArg, ARep]
theorem evArgs_sound (S : Sim P B W0 d σ a w G) : ∀ l : List Operand, ARepL P w G (l.map (evArg σ)) (l.map a.eval)
  | [] => by simp [ARepL]
  | x :: l => by simp only [List.map_cons, ARepL]; exact ⟨_, _, rfl, evArg_sound S x, evArgs_sound S l⟩

theorem inlineCall_eq (σ : St) (o : Oper) : inlineCall σ o = match o.op with
    | .call { callee := .value f, args, .. } => match evArg σ f with
      | .clo g caps => some (g, args.toList.map (evArg σ) ++ caps)
      | .val v => v.asF.bind fun g => if (args.toList.map (evArg σ)).all AV.plain && (σ.K.hook g).isNone then none else some (g, args.toList.map (evArg σ))
      | _ => none
    | _ => none := by
  unfold inlineCall
  rfl

/-- the frame behind a call in place -/
theorem Sim.backIn (S : Sim P B W0 d σ a w G) {w' : World} {G' : Gh} {mem' : MemT} {v : AV} {x : Value} (o : Oper) (M' : Mem P B W0 w' G' mem') (hl : mem'.length = d + 1) (hv : ARep P w' G' .none v x) (hown : v.copy = v)
    (K : Keeps B (d + 1) w w' G G') : Sim P B W0 d (backIn σ o v mem') (a.put o.dst x) w' G' := by
  have N : ∀ q, (∀ d' s o', q ≠ .cell d' s o') → (∀ d' i, q = .tmp d' i → d' = d) → Same q w w' G G' := fun q h1 h2 => by
    refine ⟨K.keep, fun d' s b hb => ?_, fun b hb => ?_⟩
    · by_cases hlt : d' < d + 1
      · rw [K.blk d' s hlt]; exact hb
      · have : box? σ.mem d' s = none := by
          unfold box?
          have e : nthD [] σ.mem d' = [] := by rw [nthD_get, List.getElem?_eq_none (by rw [S.depth]; omega)]; rfl
          rw [e]; rfl
        rw [S.mem.blk d' s this] at hb; cases hb
    · cases q with
      | tmp d' i => exact K.own b d' i (by have := h2 d' i rfl; omega) hb
      | cell d' s o' => exact absurd rfl (h1 d' s o')
      | none => exact ((S.mem.noNone b) hb).elim
  have F : Fr P w' G' d σ.tmps a.tmps := ⟨S.fr.len, fun i => ARep.same (N _ (by simp) (by simp)) (N _ (by simp) (by simp)) _ (S.fr.rep i)⟩
  have S0 : Sim P B W0 d { tmps := σ.tmps, mem := mem', K := σ.K } a w' G' := ⟨M', hl, F, S.cfg, S.defers⟩
  have := S0.put o (v := v) (x := x) fun t _ => hown ▸ hv.copy
  unfold Am.backIn
  cases hd : o.dst with
  | none => simpa [Am.put, hd, applyW] using this
  | some t => simpa [Am.put, hd, applyW, W.apply] using this

theorem step_sound (SE : StructEqOk P) (CO : CallOK P B W0 call) (Iok : InlOK P B W0 inl) {pre : Bool} {did : Did → St → Option β} {k : St → Option β}
    (h : stepK P call inl d σ ops.toList o pre did k = some r) :
    (∃ D, did D (applyW σ D.writes) = some r ∧ Moves P B W0 d ops o σ D) ∨
    (pre = true ∧ ∀ a w G, Sim P B W0 d σ a w G → ∀ (K : Act → World → Prop) (Q : Exit → Act → World → Prop),
      (∀ a' w' G' σ', Sim P B W0 d σ' a' w' G' → Keeps B d w w' G G' → k σ' = some r → K a' w') → wpO P ops Q o K a w) := by
  have hrun : runK P call inl d ops.toList o pre did k σ = some r → (∀ σ', Shape σ σ' → (∀ l ∈ guardReads ops.toList o, Loc.same σ σ' l) → ∀ a w G, Sim P B W0 d σ' a w G → Region.wanted o (yielded ops a.tmps) = true) →
      (∃ D, did D (applyW σ D.writes) = some r ∧ Moves P B W0 d ops o σ D) ∨
      (pre = true ∧ ∀ a w G, Sim P B W0 d σ a w G → ∀ (K : Act → World → Prop) (Q : Exit → Act → World → Prop),
        (∀ a' w' G' σ', Sim P B W0 d σ' a' w' G' → Keeps B d w w' G G' → k σ' = some r → K a' w') → wpO P ops Q o K a w) := by
    intro h hg
    unfold runK at h
    split at h
    · rename_i f vs hi
      obtain ⟨hpre, h⟩ := chkO_some h
      refine .inr ⟨hpre, fun a w G S K Q hK => ?_⟩
      unfold wpO
      rw [if_pos (hg σ ⟨rfl, rfl, fun _ => rfl⟩ (fun l _ => by cases l <;> simp [Loc.same]) a w G S)]
      refine .inl ?_
      rw [inlineCall_eq] at hi
      split at hi
      · rename_i fo args at_ ho
        have key : ∃ xs : List Value, ARepL P w G vs xs ∧ ∀ w, (execOp a.eval o).run P w = (callFunc f xs.toArray).run P w := by
          have hfo := evArg_sound S fo
          have hargs := evArgs_sound S args.toList
          split at hi
          · rename_i g caps hf
            simp only [Option.some.injEq, Prod.mk.injEq] at hi
            obtain ⟨rfl, rfl⟩ := hi
            rw [hf] at hfo
            simp only [ARep] at hfo
            obtain ⟨us, h1, h2⟩ := hfo
            refine ⟨_, hargs.append h2, fun w => ?_⟩
            have e : (args.toList.map a.eval ++ us).toArray = args.map a.eval ++ us.toArray := by apply Array.ext'; simp
            rw [e]
            simp only [execOp, ho, resolve, h1, Deferred.ofValue]
            simp [invoke]
          · rename_i v hf
            cases hv : v.asF with
            | none => rw [hv] at hi; cases hi
            | some g =>
              rw [hv] at hi
              simp only [Option.bind_some] at hi
              split at hi
              · cases hi
              · simp only [Option.some.injEq, Prod.mk.injEq] at hi
                obtain ⟨rfl, rfl⟩ := hi
                rw [hf, asF_some hv] at hfo
                simp only [ARep, CRep] at hfo
                refine ⟨_, hargs, fun w => ?_⟩
                have e : (args.toList.map a.eval).toArray = args.map a.eval := by apply Array.ext'; simp
                rw [e]
                simp only [execOp, ho, resolve, hfo, Deferred.ofValue]
                simp [invoke]
          · cases hi
        obtain ⟨xs, hxs, hex⟩ := key
        obtain ⟨h1, h2⟩ := Iok.run h w G (d + 1) S.mem S.depth xs hxs
        unfold Oper.wp
        rw [hex, h1 w]
        rw [Oper.upon_enter]
        refine h2.mono fun e w' he => ?_
        obtain ⟨v, x, mem', G', rfl, hk, M', hl, hv, hc, K'⟩ := he
        exact hK _ _ _ _ (S.backIn o M' hl hv hc K') (K'.mono (Nat.le_succ _)) hk
      · cases hi
    · exact .inl (run_moves SE CO h hg)
  have hskip : skipK ops.toList o did σ = some r → (∀ σ', Shape σ σ' → (∀ l ∈ guardReads ops.toList o, Loc.same σ σ' l) → ∀ a w G, Sim P B W0 d σ' a w G → Region.wanted o (yielded ops a.tmps) = false) →
      (∃ D, did D (applyW σ D.writes) = some r ∧ Moves P B W0 d ops o σ D) := fun h hg => ⟨_, h, skip_moves hg⟩
  unfold stepK at h
  rcases guardK_some h with ⟨hg, h⟩ | ⟨j, want, t, hg, ht, ⟨b, hb, ⟨hbw, h⟩ | ⟨hbw, h⟩⟩ | ⟨hb, h⟩⟩
  · exact hrun h fun σ' _ _ a w G _ => wanted_none hg
  · refine hrun h fun σ' hs hl a w G S => ?_
    have e : nthD .any σ'.tmps t = nthD .any σ.tmps t := hl (.tmp t) (guard_read hg ht)
    have := S.fr.rep t
    rw [e, hb] at this
    simp only [ARep, CRep] at this
    rw [wanted_bool hg ht this, hbw]
    cases want <;> rfl
  · refine .inl (hskip h fun σ' hs hl a w G S => ?_)
    have e : nthD .any σ'.tmps t = nthD .any σ.tmps t := hl (.tmp t) (guard_read hg ht)
    have := S.fr.rep t
    rw [e, hb] at this
    simp only [ARep, CRep] at this
    rw [wanted_bool hg ht this]
    cases b <;> cases want <;> simp_all
  · refine .inl (hskip h fun σ' hs hl a w G S => ?_)
    have e : nthD .any σ'.tmps t = nthD .any σ.tmps t := hl (.tmp t) (guard_read hg ht)
    have := S.fr.rep t
    rw [e, hb] at this
    simp only [ARep] at this
    exact wanted_undef hg ht this
end Go.Am
