/- All ways between two cities: the search in depth and the one in breadth give the same. Conditions: none; plain lists. -/
import Derived.Test.YtgkcpfhahphaiaaDoorRa
set_option linter.unusedSimpArgs false
namespace Go.Proofs
open Go.Am
abbrev Ws := List (List Bs)
def lastB (w : List Bs) : Bs := w.getLast?.getD []
/-- the ways that are one step longer -/
def kidsB (w : List Bs) : List Lk → Ws
  | [] => []
  | x :: t => if x.1 ≠ lastB w ∨ x.2 ∈ w then kidsB w t else (w ++ [x.2]) :: kidsB w t
def goB (f : List Bs → Ws → Bool × Ws) (w : List Bs) : List Lk → Ws → Bool × Ws
  | [], W => (true, W)
  | x :: t, W => if x.1 ≠ lastB w ∨ x.2 ∈ w then goB f w t W else if (f (w ++ [x.2]) W).1 = true then goB f w t (f (w ++ [x.2]) W).2 else (false, (f (w ++ [x.2]) W).2)
/-- the program's walk -/
def walkB (L : List Lk) (to : Bs) : Nat → List Bs → Ws → Bool × Ws
  | 0, w, W => (decide ((if lastB w = to then W ++ [w] else W).length ≤ 1024), if lastB w = to then W ++ [w] else W)
  | s + 1, w, W => if lastB w = to then (true, W) else goB (walkB L to s) w L W
/-- the ways of so many further steps that end at a city, and are not there before -/
def extB (L : List Lk) (to : Bs) : Nat → List Bs → Ws
  | 0, w => if lastB w = to then [w] else []
  | s + 1, w => if lastB w = to then [] else (kidsB w L).flatMap (extB L to s)
theorem go_ext {L : List Lk} {to : Bs} {s : Nat} {w : List Bs} (ih : ∀ w W, W.length ≤ 1024 → if (W ++ extB L to s w).length ≤ 1024 then walkB L to s w W = (true, W ++ extB L to s w) else (walkB L to s w W).1 = false) :
    ∀ (t : List Lk) (W : Ws), W.length ≤ 1024 → if (W ++ (kidsB w t).flatMap (extB L to s)).length ≤ 1024 then goB (walkB L to s) w t W = (true, W ++ (kidsB w t).flatMap (extB L to s)) else (goB (walkB L to s) w t W).1 = false := by
  intro t
  induction t with
  | nil =>
    intro W hW
    simp only [kidsB, List.flatMap_nil, List.append_nil, goB]
    rw [if_pos hW]
    trivial
  | cons x t iht =>
    intro W hW
    unfold kidsB goB
    by_cases hx : x.1 ≠ lastB w ∨ x.2 ∈ w
    · rw [if_pos hx, if_pos hx]
      exact iht W hW
    · rw [if_neg hx, if_neg hx]
      have h1 := ih (w ++ [x.2]) W hW
      rw [List.flatMap_cons]
      by_cases hl : (W ++ extB L to s (w ++ [x.2])).length ≤ 1024
      · rw [if_pos hl] at h1
        rw [h1]
        simp only [if_true]
        have h2 := iht (W ++ extB L to s (w ++ [x.2])) hl
        rw [List.append_assoc] at h2
        exact h2
      · rw [if_neg hl] at h1
        rw [if_neg (by simp only [List.length_append] at hl ⊢; omega), h1]
        simp
theorem walk_ext (L : List Lk) (to : Bs) : ∀ (s : Nat) (w : List Bs) (W : Ws), W.length ≤ 1024 → if (W ++ extB L to s w).length ≤ 1024 then walkB L to s w W = (true, W ++ extB L to s w) else (walkB L to s w W).1 = false
  | 0, w, W, hW => by
    unfold walkB extB
    by_cases h : lastB w = to
    · simp only [if_pos h]
      split
      · rename_i q; rw [decide_eq_true q]
      · rename_i q; exact decide_eq_false q
    · simp only [if_neg h, List.append_nil]
      rw [if_pos hW, decide_eq_true hW]
  | s + 1, w, W, hW => by
    unfold walkB extB
    by_cases h : lastB w = to
    · simp only [if_pos h, List.append_nil]
      rw [if_pos hW]
      trivial
    · simp only [if_neg h]
      exact go_ext (walk_ext L to s) L W hW
/-- a walk that goes on has not too many ways -/
theorem walk_small {L : List Lk} {to : Bs} {s : Nat} {w : List Bs} {W : Ws} (hW : W.length ≤ 1024) (h : (walkB L to s w W).1 = true) : (walkB L to s w W).2.length ≤ 1024 := by
  have := walk_ext L to s w W hW
  split at this
  · rename_i q; rw [this]; exact q
  · rw [this] at h; cases h
/-! in breadth -/
def longerB (L : List Lk) (P : Ws) : Ws := P.flatMap fun w => kidsB w L
def refB (L : List Lk) (to : Bs) : Nat → Ws → Ws → Ws
  | 0, out, _ => out
  | m + 1, out, P => refB L to m (out ++ (longerB L P).filter fun w => decide (lastB w = to)) ((longerB L P).filter fun w => decide (lastB w ≠ to))
/-- all ways of 1 to m steps from given ones -/
def upTo (L : List Lk) (to : Bs) (m : Nat) (P : Ws) : Ws := (List.range m).flatMap fun k => P.flatMap (extB L to (k + 1))
theorem ext0_filter (L : List Lk) (to : Bs) (Q : Ws) : Q.flatMap (extB L to 0) = Q.filter fun w => decide (lastB w = to) := by
  induction Q with
  | nil => rfl
  | cons w Q ih =>
    rw [List.flatMap_cons, ih, List.filter_cons]
    unfold extB
    by_cases h : lastB w = to
    · rw [if_pos h, if_pos (by simpa using h)]; rfl
    · rw [if_neg h, if_neg (by simpa using h)]; rfl
theorem extS_filter (L : List Lk) (to : Bs) (s : Nat) (Q : Ws) : Q.flatMap (extB L to (s + 1)) = (Q.filter fun w => decide (lastB w ≠ to)).flatMap (extB L to (s + 1)) := by
  induction Q with
  | nil => rfl
  | cons w Q ih =>
    rw [List.flatMap_cons, ih, List.filter_cons]
    by_cases h : lastB w = to
    · rw [if_neg (by simpa using h)]
      unfold extB
      rw [if_pos h]
      rfl
    · rw [if_pos (by simpa using h), List.flatMap_cons]
theorem ext_longer (L : List Lk) (to : Bs) (s : Nat) : ∀ {P : Ws}, (∀ w ∈ P, lastB w ≠ to) → P.flatMap (extB L to (s + 1)) = (longerB L P).flatMap (extB L to s)
  | [], _ => rfl
  | w :: P, h => by
    have hw := h w (List.mem_cons_self ..)
    have ih := ext_longer L to s (P := P) fun x hx => h x (List.mem_cons_of_mem _ hx)
    rw [List.flatMap_cons, ih]
    unfold longerB
    rw [List.flatMap_cons, List.flatMap_append]
    congr 1
    show (if lastB w = to then [] else (kidsB w L).flatMap (extB L to s)) = _
    rw [if_neg hw]
theorem ref_upTo (L : List Lk) (to : Bs) : ∀ (m : Nat) (out P : Ws), (∀ w ∈ P, lastB w ≠ to) → refB L to m out P = out ++ upTo L to m P
  | 0, out, P, _ => by simp [refB, upTo]
  | m + 1, out, P, h => by
    have hr : ∀ w ∈ (longerB L P).filter (fun w => decide (lastB w ≠ to)), lastB w ≠ to := fun w hw => by simpa using (List.mem_filter.1 hw).2
    show refB L to m _ _ = _
    rw [ref_upTo L to m _ _ hr, List.append_assoc]
    congr 1
    unfold upTo
    rw [List.range_succ_eq_map, List.flatMap_cons, ext_longer L to 0 h, ext0_filter]
    congr 1
    rw [List.flatMap_map]
    congr 1
    funext k
    rw [ext_longer L to (k + 1) h]
    exact (extS_filter L to k _).symm
end Go.Proofs
