/- The laws of chapter 31 hold of the program: StatusTells, StatusBack, StatusEnds. Conditions: none. -/
import Derived.Test.YtlfopiicpgggfaaRows
import Derived.Test.YtlfopiicpgggfaaAmIn
import Derived.Test.YtlfopiicpgggfaaAmEq
import Derived.Test.YtlfopiicpgggfaaLaw
import Derived.ProofKit
namespace Go.Proofs.Ytlfopiicpgggfaa
open Go.ChangeShapes Go.WideShapes Go.ChangeAt Go.RowKit Go.Am

theorem Try.own : ownKnob Try.prog.godebug = none := by kernel_rfl
theorem Try.names : NamesOk Try.prog := by
  have h : Try.prog.funcs.toList.all (fun fn => !(fn.name == "runtime.NumGoroutine")) = true := by kernel_rfl
  intro f fn hf
  rw [List.all_eq_true] at h
  have := h fn (by
    have : Try.prog.funcs.toList[f]? = some fn := by simpa using hf
    exact List.mem_of_getElem? this)
  simpa using this
/-- a function that the machine finds to answer true, called from a world that it leaves as it was -/
theorem Try.walk {k : Nat} {f : FuncId} {args : List CV} (h : C false k f args = some (.bool true)) (W : World) (M : Nat) (vs : List Value) (hv : CRepT W (hw0 W M) args vs) :
    Calls Try.prog f vs.toArray W fun e W' => e = .returned (.bool true) ∧ Below W.heap.size W W' :=
  ((callF_sound (structEqOk _) Try.names (Checked.mixed Try.checked) (K := KK) (T := fun _ => True) (N0 := 0) (fun _ _ _ _ => trivial) (lib := L false) (fun _ _ h => by cases h) (fun _ _ hK _ _ => fun _ _ hg => by rw [hK] at hg; cases hg)
      k W.heap.size ⟨W, KK⟩ rfl (Nat.zero_le _) trivial).calls h W (hw0 W M) vs (Below.refl _ _) (fun _ _ hg => by cases hg) (Nat.le_refl _) (fun b hb => hw0_out b hb) hv).mono
    fun _ _ ⟨v, h', h1, h2, _, _, h3⟩ => by
      simp only [CRep] at h3
      subst h3
      exact ⟨h1, h2⟩
theorem laid : laidOutB Try.prog = true := by kernel_rfl

set_option maxRecDepth 100000 in
theorem tells_lifted (os : Os) (started : os.Started) (H : Type) (enc : TypeId × Value → H) :
    ReturnsInHanded {} Try.checked os 3 .any (Rows.statusTellsSpec.pre6 enc Try.prog Try.f3 Rows.statusTellsRow.domain false) (Rows.statusTellsSpec.post enc Try.prog Try.f3 false true false false) := by
  refine lift_true (C := Try.checked) (tb := 4) Try.own started (by kernel_rfl) Try.func3 (ChangeSpec.witness6 (enc := enc) (C := Try.checked) false ⟨#[], #[.int .i64 0, .int .i64 0, .string ⟨#[]⟩], []⟩ 8 (by kernel_rfl) (by kernel_rfl) (by kernel_rfl) (by kernel_rfl))
    laid (by kernel_rfl) (by kernel_rfl) (by kernel_rfl) Try.underlying4 rfl (fun ds hd => ?_) fun W M vs cs _ hA hR => ?_
  · match ds, hd with
    | [d1, d2, d3], _ => rfl
  · obtain ⟨c1, r1, rfl, h1, c2, r2, rfl, h2, c3, r3, rfl, h3, rfl⟩ := hA
    obtain ⟨a, h1, _⟩ := h1
    obtain ⟨e, h2, _⟩ := h2
    obtain ⟨s, h3, _⟩ := h3
    simp only [List.cons.injEq, and_true] at h1 h2 h3
    subst h1; subst h2; subst h3
    obtain ⟨n, hn⟩ := (statusTells_ok false a e s).one
    exact Try.walk hn W M vs hR

set_option maxRecDepth 100000 in
theorem back_lifted (os : Os) (started : os.Started) (H : Type) (enc : TypeId × Value → H) :
    ReturnsInHanded {} Try.checked os 4 .any (Rows.statusBackSpec.pre6 enc Try.prog Try.f4 Rows.statusBackRow.domain false) (Rows.statusBackSpec.post enc Try.prog Try.f4 false true false false) := by
  refine lift_true (C := Try.checked) (tb := 4) Try.own started (by kernel_rfl) Try.func4 (ChangeSpec.witness6 (enc := enc) (C := Try.checked) false ⟨#[], #[.int .i64 0, .string ⟨#[]⟩], []⟩ 8 (by kernel_rfl) (by kernel_rfl) (by kernel_rfl) (by kernel_rfl))
    laid (by kernel_rfl) (by kernel_rfl) (by kernel_rfl) Try.underlying4 rfl (fun ds hd => ?_) fun W M vs cs _ hA hR => ?_
  · match ds, hd with
    | [d1, d2], _ => rfl
  · obtain ⟨c1, r1, rfl, h1, c3, r3, rfl, h3, rfl⟩ := hA
    obtain ⟨a, h1, _⟩ := h1
    obtain ⟨s, h3, _⟩ := h3
    simp only [List.cons.injEq, and_true] at h1 h3
    subst h1; subst h3
    obtain ⟨n, hn⟩ := (statusBack_ok false a s).one
    exact Try.walk hn W M vs hR
theorem ints_pack : ∀ {xs : List (List CV)}, (∀ x ∈ xs, Ty Try.prog 7 3 x) → ∃ l, xs = pack l
  | [], _ => ⟨[], rfl⟩
  | x :: xs, h => by
    obtain ⟨l, rfl⟩ := ints_pack (xs := xs) fun y hy => h y (List.mem_cons_of_mem _ hy)
    obtain ⟨z, rfl, _⟩ : ∃ z, x = [.int .i64 z] ∧ _ := h x (List.mem_cons_self ..)
    exact ⟨z :: l, rfl⟩
theorem Try.bytes3 : Try.prog.bytesOf 3 = 8 := by kernel_rfl
set_option maxRecDepth 100000 in
theorem ends_lifted (os : Os) (started : os.Started) (H : Type) (enc : TypeId × Value → H) :
    ReturnsInHanded {} Try.checked os 5 .any (Rows.statusEndsSpec.pre6 enc Try.prog Try.f5 Rows.statusEndsRow.domain false) (Rows.statusEndsSpec.post enc Try.prog Try.f5 false true false false) := by
  refine lift_true (C := Try.checked) (tb := 4) Try.own started (by kernel_rfl) Try.func5 (ChangeSpec.witness6 (enc := enc) (C := Try.checked) false ⟨#[], #[.slice none 0 0], []⟩ 8 (by kernel_rfl) (by kernel_rfl) (by kernel_rfl) (by kernel_rfl))
    laid (by kernel_rfl) (by kernel_rfl) (by kernel_rfl) Try.underlying4 rfl (fun ds hd => ?_) fun W M vs cs _ hA hR => ?_
  · match ds, hd with
    | [d1], _ => rfl
  · obtain ⟨c1, r1, rfl, h1, rfl⟩ := hA
    obtain ⟨b, xs, h1, _, h2, h3⟩ : ∃ nl xs, [c1] = [.list nl xs] ∧ (nl = true → xs = []) ∧ xs.length * Try.prog.bytesOf 3 ≤ reachBytes ∧ ∀ x ∈ xs, Ty Try.prog 7 3 x := h1
    simp only [List.cons.injEq, and_true] at h1
    subst h1
    obtain ⟨l, rfl⟩ := ints_pack h3
    rw [Try.bytes3, pack_len] at h2
    obtain ⟨n, hn⟩ := (statusEnds_ok false b l (by unfold reachBytes at h2; omega)).one
    exact Try.walk hn W M vs hR

theorem StatusTellsHolds : Rows.StatusTellsSaid :=
  OpenClaim.holds_of_wide 3 Try.f3 rfl rfl rfl rfl rfl rfl rfl ⟨rfl, rfl, rfl, rfl, rfl⟩ rfl rfl rfl rfl rfl (by kernel_rfl) Try.func3 (by kernel_rfl)
    (of_decide_eq_true (by kernel_rfl)) (by unfold Func.isWrapper; first | (rw [if_pos (by decide +kernel)]; kernel_rfl) | (rw [if_neg (by decide +kernel)]; exact ⟨rfl, rfl⟩))
    (fun os started H enc _ => tells_lifted os started H enc)
theorem StatusBackHolds : Rows.StatusBackSaid :=
  OpenClaim.holds_of_wide 4 Try.f4 rfl rfl rfl rfl rfl rfl rfl ⟨rfl, rfl, rfl, rfl, rfl⟩ rfl rfl rfl rfl rfl (by kernel_rfl) Try.func4 (by kernel_rfl)
    (of_decide_eq_true (by kernel_rfl)) (by unfold Func.isWrapper; first | (rw [if_pos (by decide +kernel)]; kernel_rfl) | (rw [if_neg (by decide +kernel)]; exact ⟨rfl, rfl⟩))
    (fun os started H enc _ => back_lifted os started H enc)
theorem StatusEndsHolds : Rows.StatusEndsSaid :=
  OpenClaim.holds_of_wide 5 Try.f5 rfl rfl rfl rfl rfl rfl rfl ⟨rfl, rfl, rfl, rfl, rfl⟩ rfl rfl rfl rfl rfl (by kernel_rfl) Try.func5 (by kernel_rfl)
    (of_decide_eq_true (by kernel_rfl)) (by unfold Func.isWrapper; first | (rw [if_pos (by decide +kernel)]; kernel_rfl) | (rw [if_neg (by decide +kernel)]; exact ⟨rfl, rfl⟩))
    (fun os started H enc _ => ends_lifted os started H enc)
end Go.Proofs.Ytlfopiicpgggfaa
