/- Arguments of chapter 22, opened: routings. Conditions: none. -/
import Derived.Test.YtiffhngfneikoaaDoorJd
import Derived.Test.YtiffhngfneikoaaDoorRf
namespace Go.Proofs.YtiffhngfneikoaaDoor
open Go.ChangeShapes Go.WideShapes Go.ChangeAt Go.RowKit Go.Am
theorem TyF.cons {ty : TypeId → List CV → Prop} {t : TypeId} {ts : List TypeId} {l : List CV} (h : TyF ty (t :: ts) l) : ∃ p r, l = p ++ r ∧ ty t p ∧ TyF ty ts r := h
theorem TyF.nil {ty : TypeId → List CV → Prop} {l : List CV} (h : TyF ty [] l) : l = [] := h
/-- two texts in a struct -/
theorem pair_ty {P : Program} {n : Nat} {t t1 t2 : TypeId} {fs : Array Field} (hu : P.underlying t = some (.struct fs)) (hts : fs.toList.map (·.type) = [t1, t2]) (h1 : P.underlying t1 = some .string) (h2 : P.underlying t2 = some .string) {x : List CV}
    (h : Ty P (n + 2) t x) : ∃ a b : Bs, x = [.str a, .str b] ∧ a.length ≤ 281474976710656 ∧ b.length ≤ 281474976710656 := by
  obtain ⟨p, r, rfl, hp, hr⟩ := TyF.cons (Ty.struct hu hts h)
  obtain ⟨p2, r2, rfl, hp2, hr2⟩ := TyF.cons hr
  obtain rfl := TyF.nil hr2
  obtain ⟨a, rfl, ha⟩ := Ty.str h1 hp
  obtain ⟨b, rfl, hb⟩ := Ty.str h2 hp2
  exact ⟨a, b, rfl, Nat.le_trans ha reach_le, Nat.le_trans hb reach_le⟩
theorem links_gen {P : Program} {n : Nat} {t t1 t2 : TypeId} {fs : Array Field} (hu : P.underlying t = some (.struct fs)) (hts : fs.toList.map (·.type) = [t1, t2]) (h1 : P.underlying t1 = some .string) (h2 : P.underlying t2 = some .string) {xs : List (List CV)}
    (h : ∀ x ∈ xs, Ty P (n + 2) t x) : ∃ l, xs = lcv l ∧ ∀ x ∈ l, x.1.length ≤ 281474976710656 ∧ x.2.length ≤ 281474976710656 := by
  induction xs with
  | nil => exact ⟨[], rfl, fun _ h => by cases h⟩
  | cons x xs ih =>
    obtain ⟨l, rfl, hl⟩ := ih fun y hy => h y (List.mem_cons_of_mem _ hy)
    obtain ⟨a, b, rfl, ha, hb⟩ := pair_ty hu hts h1 h2 (h x (List.mem_cons_self ..))
    refine ⟨(a, b) :: l, rfl, fun w hw => ?_⟩
    rcases List.mem_cons.1 hw with rfl | hw
    · exact ⟨ha, hb⟩
    · exact hl w hw
set_option maxRecDepth 100000 in
theorem routing_arg {c : CV} (h : ArgTy Tryd.prog 57 c) : ∃ (num : Int) (an : Bool) (l : List Lk) (miles : Int), c = rcv num an l miles ∧ (-9223372036854775808 ≤ num ∧ num ≤ 9223372036854775807 ∧ -9223372036854775808 ≤ miles ∧ miles ≤ 9223372036854775807 ∧ (an = true → l = [])) ∧ ∀ x ∈ l, x.1.length ≤ 281474976710656 ∧ x.2.length ≤ 281474976710656 := by
  obtain ⟨l, rfl, k⟩ := ArgTy.struct (ts := [3, 55, 3]) Tryd.underlying57 rfl h
  obtain ⟨p, r, rfl, hp, hr⟩ := TyF.cons k
  obtain ⟨p2, r2, rfl, hp2, hr2⟩ := TyF.cons hr
  obtain ⟨p3, r3, rfl, hp3, hr3⟩ := TyF.cons hr2
  obtain rfl := TyF.nil hr3
  obtain ⟨num, rfl, n1, n2⟩ := Ty.int Tryd.underlying3 hp
  obtain ⟨miles, rfl, m1, m2⟩ := Ty.int Tryd.underlying3 hp3
  obtain ⟨an, xs, rfl, hn, _, hx⟩ := Ty.slice Tryd.underlying55 hp2
  obtain ⟨l, rfl, hl⟩ := links_gen Tryd.underlying100 rfl Tryd.underlying9 Tryd.underlying9 hx
  refine ⟨num, an, l, miles, rfl, ⟨n1, n2, m1, m2, fun e => ?_⟩, hl⟩
  have := hn e
  cases l with
  | nil => rfl
  | cons _ _ => simp [lcv] at this
end Go.Proofs.YtiffhngfneikoaaDoor
