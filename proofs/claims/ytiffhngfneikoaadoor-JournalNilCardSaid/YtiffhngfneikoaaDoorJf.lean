/- Arguments of chapter 36, opened: records. Conditions: none. -/
import Derived.Test.YtiffhngfneikoaaDoorJd
import Derived.Test.YtiffhngfneikoaaDoorSa
namespace Go.Proofs.YtiffhngfneikoaaDoor
open Go.ChangeShapes Go.WideShapes Go.ChangeAt Go.RowKit Go.Am
theorem tyF_cons {ty : TypeId → List CV → Prop} {t : TypeId} {ts : List TypeId} {l : List CV} (h : TyF ty (t :: ts) l) : ∃ p r, l = p ++ r ∧ ty t p ∧ TyF ty ts r := h
theorem tyF_nil {ty : TypeId → List CV → Prop} {l : List CV} (h : TyF ty [] l) : l = [] := h
theorem rec_ty {P : Program} {n : Nat} {t t1 t2 : TypeId} {fs : Array Field} (hu : P.underlying t = some (.struct fs)) (hts : fs.toList.map (·.type) = [t1, t2, t1]) (h1 : P.underlying t1 = some (.int .i64)) (h2 : P.underlying t2 = some .string) {x : List CV}
    (h : Ty P (n + 2) t x) : ∃ r : Rc, x = renc r ∧ r.2.1.length ≤ 281474976710656 ∧ (-9223372036854775808 ≤ r.1 ∧ r.1 ≤ 9223372036854775807) ∧ (-9223372036854775808 ≤ r.2.2 ∧ r.2.2 ≤ 9223372036854775807) := by
  obtain ⟨p, r, rfl, hp, hr⟩ := tyF_cons (Ty.struct hu hts h)
  obtain ⟨p2, r2, rfl, hp2, hr2⟩ := tyF_cons hr
  obtain ⟨p3, r3, rfl, hp3, hr3⟩ := tyF_cons hr2
  obtain rfl := tyF_nil hr3
  obtain ⟨a, rfl, ha⟩ := Ty.int h1 hp
  obtain ⟨b, rfl, hb⟩ := Ty.str h2 hp2
  obtain ⟨c, rfl, hc⟩ := Ty.int h1 hp3
  exact ⟨(a, b, c), rfl, Nat.le_trans hb reach_le, ha, hc⟩
theorem recs_gen {P : Program} {n : Nat} {t t1 t2 : TypeId} {fs : Array Field} (hu : P.underlying t = some (.struct fs)) (hts : fs.toList.map (·.type) = [t1, t2, t1]) (h1 : P.underlying t1 = some (.int .i64)) (h2 : P.underlying t2 = some .string) {xs : List (List CV)}
    (h : ∀ x ∈ xs, Ty P (n + 2) t x) : ∃ l, xs = recv l ∧ ∀ x ∈ l, x.2.1.length ≤ 281474976710656 ∧ (-9223372036854775808 ≤ x.1 ∧ x.1 ≤ 9223372036854775807) ∧ (-9223372036854775808 ≤ x.2.2 ∧ x.2.2 ≤ 9223372036854775807) := by
  induction xs with
  | nil => exact ⟨[], rfl, fun _ h => by cases h⟩
  | cons x xs ih =>
    obtain ⟨l, rfl, hl⟩ := ih fun y hy => h y (List.mem_cons_of_mem _ hy)
    obtain ⟨r, rfl, hr⟩ := rec_ty hu hts h1 h2 (h x (List.mem_cons_self ..))
    refine ⟨r :: l, rfl, fun w hw => ?_⟩
    rcases List.mem_cons.1 hw with rfl | hw
    · exact hr
    · exact hl w hw
set_option maxRecDepth 100000 in
theorem recs_arg {c : CV} (h : ArgTy Tryd.prog 25 c) : ∃ (an : Bool) (l : List Rc), c = .list an (recv l) ∧ (∀ x ∈ l, x.2.1.length ≤ 281474976710656) := by
  obtain ⟨an, xs, rfl, _, _, hx⟩ := ArgTy.slice Tryd.underlying25 h
  obtain ⟨l, rfl, hl⟩ := recs_gen Tryd.underlying37 rfl Tryd.underlying3 Tryd.underlying9 hx
  exact ⟨an, l, rfl, fun x hx => (hl x hx).1⟩
set_option maxRecDepth 100000 in
theorem recs_argI {c : CV} (h : ArgTy Tryd.prog 25 c) : ∃ (an : Bool) (l : List Rc), c = .list an (recv l) ∧ (∀ x ∈ l, x.2.1.length ≤ 281474976710656) ∧ ∀ x ∈ l, (-9223372036854775808 ≤ x.1 ∧ x.1 ≤ 9223372036854775807) ∧ (-9223372036854775808 ≤ x.2.2 ∧ x.2.2 ≤ 9223372036854775807) := by
  obtain ⟨an, xs, rfl, _, _, hx⟩ := ArgTy.slice Tryd.underlying25 h
  obtain ⟨l, rfl, hl⟩ := recs_gen Tryd.underlying37 rfl Tryd.underlying3 Tryd.underlying9 hx
  exact ⟨an, l, rfl, fun x hx => (hl x hx).1, fun x hx => (hl x hx).2⟩
end Go.Proofs.YtiffhngfneikoaaDoor
