/- Arguments of chapter 22, opened: routings and lists of cities. Conditions: none. -/
import Derived.Test.YtgkcpfhahphaiaaDoorJc
import Derived.Test.YtgkcpfhahphaiaaDoorQf
namespace Go.Proofs.YtgkcpfhahphaiaaDoor
open Go.ChangeShapes Go.WideShapes Go.ChangeAt Go.RowKit Go.Am
theorem list_gen {α : Type} {P : Program} {n : Nat} {e : TypeId} {enc : α → List CV} {good : α → Prop} (h : ∀ x, Ty P n e x → ∃ a, x = enc a ∧ good a) {xs : List (List CV)} (hx : ∀ x ∈ xs, Ty P n e x) : ∃ l : List α, xs = l.map enc ∧ ∀ a ∈ l, good a := by
  induction xs with
  | nil => exact ⟨[], rfl, fun _ h => by cases h⟩
  | cons x xs ih =>
    obtain ⟨l, rfl, hl⟩ := ih fun y hy => hx y (List.mem_cons_of_mem _ hy)
    obtain ⟨a, rfl, ha⟩ := h x (hx x (List.mem_cons_self ..))
    refine ⟨a :: l, rfl, fun w hw => ?_⟩
    rcases List.mem_cons.1 hw with rfl | hw
    · exact ha
    · exact hl w hw
set_option maxRecDepth 100000 in
theorem link_ty {n : Nat} (x : List CV) (h : Ty Tryd.prog (n + 2) 40 x) : ∃ s : Lk, x = lenc s ∧ (s.1.length ≤ 281474976710656 ∧ s.2.length ≤ 281474976710656) := by
  obtain ⟨p1, r1, rfl, h1, hr⟩ := tyF_cons (Ty.struct (ts := [9, 9]) Tryd.underlying40 rfl h)
  obtain ⟨p2, r2, rfl, h2, hr⟩ := tyF_cons hr
  obtain rfl := tyF_nil hr
  obtain ⟨a, rfl, ha⟩ := Ty.str Tryd.underlying9 h1
  obtain ⟨b, rfl, hb⟩ := Ty.str Tryd.underlying9 h2
  exact ⟨(a, b), rfl, Nat.le_trans ha reach_le, Nat.le_trans hb reach_le⟩
set_option maxRecDepth 100000 in
theorem routing_arg {c : CV} (h : ArgTy Tryd.prog 24 c) : ∃ (num : Int) (an : Bool) (l : List Lk) (miles : Int), c = rcv num an l miles ∧ ∀ x ∈ l, x.1.length ≤ 281474976710656 ∧ x.2.length ≤ 281474976710656 := by
  obtain ⟨l, rfl, k⟩ := ArgTy.struct (ts := [3, 22, 3]) Tryd.underlying24 rfl h
  obtain ⟨p1, r1, rfl, h1, hr⟩ := tyF_cons k
  obtain ⟨p2, r2, rfl, h2, hr⟩ := tyF_cons hr
  obtain ⟨p3, r3, rfl, h3, hr⟩ := tyF_cons hr
  obtain rfl := tyF_nil hr
  obtain ⟨num, rfl, _⟩ := Ty.int Tryd.underlying3 h1
  obtain ⟨miles, rfl, _⟩ := Ty.int Tryd.underlying3 h3
  obtain ⟨an, xs, rfl, _, _, hx⟩ := Ty.slice Tryd.underlying22 h2
  obtain ⟨l, rfl, hl⟩ := list_gen (enc := lenc) (fun x hx => link_ty x hx) hx
  exact ⟨num, an, l, miles, rfl, hl⟩
set_option maxRecDepth 100000 in
theorem cities_arg {c : CV} (h : ArgTy Tryd.prog 34 c) : ∃ (bn : Bool) (l : List Bs), c = .list bn (scv l) ∧ ∀ w ∈ l, w.length ≤ 281474976710656 := by
  obtain ⟨bn, xs, rfl, _, _, hx⟩ := ArgTy.slice Tryd.underlying34 h
  obtain ⟨l, rfl, hl⟩ := list_gen (enc := fun s => [CV.str s]) (good := fun w : Bs => w.length ≤ 281474976710656) (fun x hx => by
    obtain ⟨s, rfl, hs⟩ := Ty.str Tryd.underlying9 hx
    exact ⟨s, rfl, Nat.le_trans hs reach_le⟩) hx
  exact ⟨bn, l, rfl, hl⟩
end Go.Proofs.YtgkcpfhahphaiaaDoor
