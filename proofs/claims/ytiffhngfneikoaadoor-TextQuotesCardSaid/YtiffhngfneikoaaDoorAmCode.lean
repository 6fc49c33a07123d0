/- The abstract machine's evaluation of code is sound. Conditions: none. -/
import Derived.Test.YtiffhngfneikoaaDoorAmForget
import Derived.LoopN
import Derived.Scope
namespace Go.Am
open Go.RowKit
variable {P : Program} {B : Nat} {W0 : Base} {d : Nat} {σ : St} {a : Act} {w : World} {G : Gh} {β : Type} {call : FuncId → List CV → Option CV}
  {inl : FuncId → List AV → MemT → (AV → MemT → Option β) → Option β} {r : β} {m : Nat}

def Ex.out : Ex → Exit
  | .normal => .normal
  | .exit id => .exit id
  | .ret => .ret

/-- what is known of the machine behind a stretch of code -/
def Post (P : Program) (B : Nat) (W0 : Base) (d : Nat) (k : Ex → St → Option β) (r : β) (w : World) (G : Gh) (Q : Exit → Act → World → Prop) : Prop :=
  ∀ e a' w' G' σ', Sim P B W0 d σ' a' w' G' → Keeps B d w w' G G' → k e σ' = some r → Q e.out a' w'
theorem Post.trans {k : Ex → St → Option β} {Q : Exit → Act → World → Prop} {w' : World} {G' : Gh} (h : Post P B W0 d k r w G Q) (K : Keeps B d w w' G G') : Post P B W0 d k r w' G' Q :=
  fun e a' w'' G'' σ' S' K' hk => h e a' w'' G'' σ' S' (K.trans K') hk

/-- evaluations that are sound -/
def EvOK (P : Program) (B : Nat) (W0 : Base) (d : Nat) (r : β) (ev : Code → (Ex → St → Option β) → St → Option β) : Prop :=
  ∀ (c : Code) (k : Ex → St → Option β) (σ : St), ev c k σ = some r → ∀ a w G, Sim P B W0 d σ a w G → ∀ Q, Post P B W0 d k r w G Q → c.wp P Q a w

theorem loop_sound {ev : Code → (Ex → St → Option β) → St → Option β} (hev : EvOK P B W0 d r ev) {c : Code} {ts bs : List Nat} {k : Ex → St → Option β} :
    ∀ (n : Nat) (σ : St), loopC ev d ts bs c k n σ = some r → ∀ a w G, Sim P B W0 d σ a w G → ∀ Q, Post P B W0 d k r w G Q → Code.rounds P c Q n a w
  | 0, σ, h, _, _, _, _, _, _ => by cases h
  | n + 1, σ, h, a, w, G, S, Q, hQ => by
    rw [rounds_succ]
    change ev c (loopK d ts bs (loopC ev d ts bs c k n) k) σ = some r at h
    refine hev c _ σ h a w G S _ fun e a' w' G' σ' S' K' hk => ?_
    cases e with
    | normal =>
      obtain ⟨G2, S2, K2⟩ := S'.clear d ts bs (.inr rfl)
      have hk : hold (loopC ev d ts bs c k n (clear d ts bs σ')) = some r := hk
      rw [hold_eq] at hk
      exact loop_sound hev n _ hk a' w' G2 S2 Q (hQ.trans (K'.trans K2))
    | exit id => exact hQ (.exit id) _ _ _ _ S' K' hk
    | ret => exact hQ .ret _ _ _ _ S' K' hk

theorem evStep_sound (SE : StructEqOk P) (CO : CallOK P B W0 call) (Iok : InlOK P B W0 inl) (hmix : P.follows .mixedOrders = true) {ev : Code → (Ex → St → Option β) → St → Option β} (hev : EvOK P B W0 d r ev) :
    EvOK P B W0 d r (evStep P call inl m d ev) := by
  intro c k σ h a w G S Q hQ
  unfold evStep at h
  cases c with
  | skip => exact wp_skip (hQ .normal _ _ _ _ S (Keeps.refl _ _ _ _) h)
  | region id ops draw =>
    have hn : ∀ a' w' G' σ', Sim P B W0 d σ' a' w' G' → Keeps B d w w' G G' → k .normal σ' = some r → Q .normal a' w' := fun a' w' G' σ' S' K' hk => hQ .normal a' w' G' σ' S' K' hk
    cases draw with
    | false =>
      refine wp_region ?_
      have := opsK_sound SE CO Iok (Q := Q) ops.toList 0 (by simp) h a w G S hn
      rw [List.range_eq_range']
      simpa using this
    | true => exact opsDrawK_sound SE CO Iok hmix h S hn
  | seq x y =>
    refine wp_seq (hev x _ σ h a w G S _ fun e a' w' G' σ' S' K' hk => ?_)
    cases e with
    | normal =>
      obtain ⟨G2, S2, K2⟩ := S'.tidy x
      have hk : ev y k (tidy x σ') = some r := by
        unfold seqK at hk
        cases hc : cutAt x y with
        | true => rw [hc] at hk; simp only [hold_eq] at hk; exact hk
        | false => rw [hc] at hk; exact hk
      exact hev y k _ hk a' w' G2 S2 Q (hQ.trans (K'.trans K2))
    | exit id => exact hQ (.exit id) _ _ _ _ S' K' hk
    | ret => exact hQ .ret _ _ _ _ S' K' hk
  | cond c x y =>
    obtain ⟨t, ht, h⟩ := optO_some h
    have hc : a.eval c = .bool t := by
      unfold condOf at ht
      split at ht
      · rename_i i
        split at ht
        · rename_i v hv
          have := S.fr.rep i
          rw [hv] at this
          simp only [ARep] at this
          rw [asB_some ht] at this
          simp only [CRep] at this
          exact this
        · cases ht
      · rename_i b; simp only [Option.some.injEq] at ht; subst ht; rfl
      · cases ht
    have hp : Post P B W0 d (condK x y k) r w G Q := fun e a' w' G' σ' S' K' hk => by
      obtain ⟨G2, S2, K2⟩ := S'.clear 0 (temps x ++ temps y) [] (.inl rfl)
      exact hQ e _ _ _ _ S2 (K'.trans K2) hk
    refine wp_cond hc ?_
    cases t with
    | true => exact hev x _ σ h a w G S Q hp
    | false => exact hev y _ σ h a w G S Q hp
  | block id x =>
    refine wp_block (hev x _ σ h a w G S _ fun e a' w' G' σ' S' K' hk => ?_)
    cases e with
    | normal => exact hQ .normal _ _ _ _ S' K' hk
    | exit id' =>
      unfold blockK at hk
      show if id' = id then Q .normal a' w' else Q (.exit id') a' w'
      by_cases hid : id' = id
      · rw [if_pos hid]
        simp only [hid, if_true] at hk
        exact hQ .normal _ _ _ _ S' K' hk
      · rw [if_neg hid]
        simp only [hid, if_false] at hk
        exact hQ (.exit id') _ _ _ _ S' K' hk
    | ret => exact hQ .ret _ _ _ _ S' K' hk
  | loop x =>
    obtain ⟨G2, S2, K2⟩ := S.clear d (loopTemps x ++ anys σ (assigns x)) (nones σ d (allocs x)) (.inr rfl)
    have h : hold (loopC ev d (loopTemps x ++ anys σ (assigns x)) (nones σ d (allocs x)) x k m (clear d (loopTemps x ++ anys σ (assigns x)) (nones σ d (allocs x)) σ)) = some r := h
    rw [hold_eq] at h
    exact wp_loop_rounds m (loop_sound hev m _ h a w G2 S2 Q (hQ.trans K2))
  | exit id => exact wp_exit (hQ (.exit id) _ _ _ _ S (Keeps.refl _ _ _ _) h)
  | label l => exact wp_label (hQ .normal _ _ _ _ S (Keeps.refl _ _ _ _) h)
  | ret => exact wp_ret (hQ .ret _ _ _ _ S (Keeps.refl _ _ _ _) h)
  | scope x =>
    refine wp_scope_straight (hev x k σ h a w G S _ fun e a' w' G' σ' S' K' hk => ?_)
    cases e with
    | normal => exact hQ .normal _ _ _ _ S' K' hk
    | exit id => exact hQ (.exit id) _ _ _ _ S' K' hk
    | ret => exact hQ .ret _ _ _ _ S' K' hk
  | _ => cases h

theorem evN_sound (SE : StructEqOk P) (CO : CallOK P B W0 call) (Iok : InlOK P B W0 inl) (hmix : P.follows .mixedOrders = true) : ∀ j : Nat, EvOK P B W0 d r (evN P call inl m d j)
  | 0 => fun c k σ h => by cases h
  | j + 1 => evStep_sound SE CO Iok hmix (evN_sound SE CO Iok hmix j)
end Go.Am
