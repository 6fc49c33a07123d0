/- Chapter 20 on plain data: Holds, by the program and by its reference. Conditions: as each says. -/
import Derived.Test.YtmandbflbfkagaaGreatDoorCf
import Derived.Test.YtmandbflbfkagaaGreatDoorHe
set_option linter.unusedVariables false
set_option linter.unusedSimpArgs false
namespace Go.Proofs
open Go.Am
variable (lb : Nat)
abbrev ints (l : List Int) : List (List CV) := l.map fun z => [CV.int .i64 z]
theorem ints_at {l : List Int} {i : Nat} {z : Int} (h : l[i]? = some z) : atL (ints l) (i : Int) = some [.int .i64 z] := atL_ok (by simp [h])
def withinB (l all : List Bs) : Bool := l.all fun s => decide (s ∈ all)
def hourB (a b m : Int) : Bool := bif decide (a ≤ b) then (bif decide (m ≥ a) then decide (m ≤ b) else false) else (bif decide (m ≥ a) then true else decide (m ≤ b))
def betw (l : List Int) (a b : Int) : Bool := l.all fun z => (!decide (z < a)) && !decide (z > b)
/-- what a part without conditions says of a trip -/
def leafH (t : Tp) (c : Cd) : Bool :=
  if c.k = 5 then hasF c.fr c.to c.days t.day else if c.k = 6 then hasF c.fr c.to c.days t.sale else if c.k = 7 then decide (IntKind.wrap .i64 (t.day - t.sale) ≥ c.a) else
  if c.k = 8 then hourB c.a c.b t.min else if c.k = 9 then decide (t.stops ≤ c.a) else if c.k = 10 then decide (t.tr ≤ c.a) else if c.k = 11 then withinB t.car c.t else
  if c.k = 12 then betw t.nums c.a c.b else if c.k = 13 then withinB t.vias c.t else if c.k = 14 then decide (t.ty ∈ c.t) else false
mutual
def holC (t : Tp) : Cd → Bool
  | .mk k ln l a b fr to days tn tx => if k = 1 then true else if k = 2 then allH t l else if k = 3 then anyH t l else if k = 4 then !allH t l else leafH t (.mk k ln l a b fr to days tn tx)
def allH (t : Tp) : List Cd → Bool
  | [] => true
  | c :: r => holC t c && allH t r
def anyH (t : Tp) : List Cd → Bool
  | [] => false
  | c :: r => holC t c || anyH t r
end
theorem holC_eq (t : Tp) (c : Cd) : holC t c = if c.k = 1 then true else if c.k = 2 then allH t c.l else if c.k = 3 then anyH t c.l else if c.k = 4 then !allH t c.l else leafH t c := by cases c; rw [holC]; rfl
/-- lists are as long as memory allows -/
def TFits (t : Tp) : Prop := t.car.length ≤ 281474976710656 ∧ t.nums.length ≤ 281474976710656 ∧ t.vias.length ≤ 281474976710656
theorem among_ret (an bn : Bool) (l all : List Bs) (hl : l.length ≤ 281474976710656) (ha : all.length ≤ 281474976710656) : Ret lb F_cond_among [.list an (scv l), .list bn (scv all)] (.bool (withinB l all)) := by
  refine .top rfl (.eq (fun n => by rw [cond_among_eq]) ?_)
  have e1 : Evt fun n => ∀ s ∈ l, C lb n F_slices_Contains_string [.list bn (scv all), .str s] = some (.bool (decide (s ∈ all))) := Evt.fin _ fun s _ => contains_str_ret lb bn all s ha
  have hh : ∀ n, (∀ s ∈ l, C lb n F_slices_Contains_string [.list bn (scv all), .str s] = some (.bool (decide (s ∈ all)))) → ∀ t p, p ++ t = l → ∀ k, t.length < k → cond_among_L1 lb n k an (scv l) bn (scv all) (p.length : Int) = some (.bool (withinB t all)) := by
    intro n a1 t
    induction t with
    | nil =>
      intro p hp k hk
      obtain ⟨k, rfl⟩ : ∃ j, k = j + 1 := ⟨k - 1, by simp at hk; omega⟩
      have hpl : p = l := by simpa using hp
      rw [cond_among_L1_succ]
      refine stF (decF (by rw [hpl, scv_len]; omega)) ?_
      rw [cond_among_J2_eq]
      rfl
    | cons x t ih =>
      intro p hp k hk
      obtain ⟨k, rfl⟩ : ∃ j, k = j + 1 := ⟨k - 1, by simp at hk; omega⟩
      have hpl : l.length = p.length + (t.length + 1) := by rw [← hp]; simp
      rw [cond_among_L1_succ]
      refine stT (decT (by rw [scv_len]; omega)) (stO _ (txt_at (s := x) (by rw [← hp]; simp)) (stC rfl (stO _ rfl (stO _ (a1 x (by rw [← hp]; simp)) (stO _ rfl ?_)))))
      show _ = some (CV.bool (decide (x ∈ all) && withinB t all))
      by_cases hx : x ∈ all
      · rw [decT hx]
        refine stF rfl ?_
        rw [wrap64 (by omega) (by omega), show (p.length : Int) + 1 = ((p ++ [x]).length : Int) by simp]
        exact ih (p ++ [x]) (by rw [← hp]; simp) k (by simp at hk; omega)
      · rw [decF hx]
        exact stT rfl (by rw [decT (show (p.length : Int) ≥ 0 by omega)]; rfl)
  exact Evt.imp2 e1 (Evt.ge (l.length + 1)) fun n a hn => hh n a l [] rfl n (by omega)
theorem r20_within_ret (an bn : Bool) (l all : List Bs) (hl : l.length ≤ 281474976710656) (ha : all.length ≤ 281474976710656) : Ret lb F_r20_within [.list an (scv l), .list bn (scv all)] (.bool (withinB l all)) := by
  refine .top rfl (.eq (fun n => by rw [r20_within_eq]) ?_)
  have e1 : Evt fun n => ∀ s ∈ l, C lb n F_r20_has [.list bn (scv all), .str s] = some (.bool (decide (s ∈ all))) := Evt.fin _ fun s _ => r20_has_ret lb bn all s ha
  have hh : ∀ n, (∀ s ∈ l, C lb n F_r20_has [.list bn (scv all), .str s] = some (.bool (decide (s ∈ all)))) → ∀ t p, p ++ t = l → ∀ k, t.length < k → r20_within_L1 lb n k an (scv l) bn (scv all) (p.length : Int) = some (.bool (withinB t all)) := by
    intro n a1 t
    induction t with
    | nil =>
      intro p hp k hk
      obtain ⟨k, rfl⟩ : ∃ j, k = j + 1 := ⟨k - 1, by simp at hk; omega⟩
      have hpl : p = l := by simpa using hp
      rw [r20_within_L1_succ]
      refine stF (decF (by rw [hpl, scv_len]; omega)) ?_
      rw [r20_within_J2_eq]
      rfl
    | cons x t ih =>
      intro p hp k hk
      obtain ⟨k, rfl⟩ : ∃ j, k = j + 1 := ⟨k - 1, by simp at hk; omega⟩
      have hpl : l.length = p.length + (t.length + 1) := by rw [← hp]; simp
      rw [r20_within_L1_succ]
      refine stT (decT (by rw [scv_len]; omega)) (stO _ (txt_at (s := x) (by rw [← hp]; simp)) (stC rfl (stO _ rfl (stO _ (a1 x (by rw [← hp]; simp)) (stO _ rfl ?_)))))
      show _ = some (CV.bool (decide (x ∈ all) && withinB t all))
      by_cases hx : x ∈ all
      · rw [decT hx]
        refine stF rfl ?_
        rw [wrap64 (by omega) (by omega), show (p.length : Int) + 1 = ((p ++ [x]).length : Int) by simp]
        exact ih (p ++ [x]) (by rw [← hp]; simp) k (by simp at hk; omega)
      · rw [decF hx]
        exact stT rfl rfl
  exact Evt.imp2 e1 (Evt.ge (l.length + 1)) fun n a hn => hh n a l [] rfl n (by omega)
theorem r20_between_ret (an : Bool) (l : List Int) (a b : Int) (hl : l.length ≤ 281474976710656) : Ret lb F_r20_between [.list an (ints l), .int .i64 a, .int .i64 b] (.bool (betw l a b)) := by
  refine .top rfl (.eq (fun n => by rw [r20_between_eq]) ?_)
  have hh : ∀ n t p, p ++ t = l → ∀ k, t.length < k → r20_between_L1 lb n k an (ints l) a b (p.length : Int) = some (.bool (betw t a b)) := by
    intro n t
    induction t with
    | nil =>
      intro p hp k hk
      obtain ⟨k, rfl⟩ : ∃ j, k = j + 1 := ⟨k - 1, by simp at hk; omega⟩
      have hpl : p = l := by simpa using hp
      rw [r20_between_L1_succ]
      refine stF (decF (by rw [hpl, List.length_map]; omega)) ?_
      rw [r20_between_J2_eq]
      rfl
    | cons x t ih =>
      intro p hp k hk
      obtain ⟨k, rfl⟩ : ∃ j, k = j + 1 := ⟨k - 1, by simp at hk; omega⟩
      have hpl : l.length = p.length + (t.length + 1) := by rw [← hp]; simp
      have hat := ints_at (l := l) (i := p.length) (z := x) (by rw [← hp]; simp)
      rw [r20_between_L1_succ]
      refine stT (decT (by rw [List.length_map]; omega)) (stO _ hat (stC rfl (stO _ rfl (stO _ (asI_i ..) ?_))))
      show _ = some (CV.bool (((!decide (x < a)) && !decide (x > b)) && betw t a b))
      by_cases h1 : x < a
      · exact stT (decT h1) (by rw [decT h1]; rfl)
      refine stF (decF h1) (stO _ hat (stC rfl (stO _ rfl (stO _ (asI_i ..) ?_))))
      rw [decF h1]
      by_cases h2 : x > b
      · exact stT (decT h2) (by rw [decT h2]; rfl)
      refine stF (decF h2) ?_
      rw [decF h2, wrap64 (by omega) (by omega), show (p.length : Int) + 1 = ((p ++ [x]).length : Int) by simp]
      exact ih (p ++ [x]) (by rw [← hp]; simp) k (by simp at hk; omega)
  exact (Evt.ge (l.length + 1)).mono fun n hn => hh n l [] rfl n (by omega)
/-! the loops of the program's Holds -/
theorem hol_all (c : Cd) (t : Tp) (hl : c.l.length ≤ 281474976710656) (n : Nat) (hs : ∀ x ∈ c.l, C lb n F_cond_Holds [cdv x, tpv t] = some (.bool (holC t x))) : ∀ u p, p ++ u = c.l → ∀ k, u.length < k →
    cond_Holds_L1 lb n k c.ln (c.l.map ccv) c.k c.a c.b c.fr c.to c.days c.tn (scv c.t) t.ty t.sale t.day t.min t.stops t.tr t.cn (scv t.car) t.nn (ints t.nums) t.vn (scv t.vias) (p.length : Int) = some (.bool (allH t u)) := by
  intro u
  induction u with
  | nil =>
    intro p hp k hk
    obtain ⟨k, rfl⟩ : ∃ j, k = j + 1 := ⟨k - 1, by simp at hk; omega⟩
    have hpl : p = c.l := by simpa using hp
    rw [cond_Holds_L1_succ]
    refine stF (decF (by rw [hpl, List.length_map]; omega)) ?_
    rw [cond_Holds_J2_eq, allH]
  | cons x u ih =>
    intro p hp k hk
    obtain ⟨k, rfl⟩ : ∃ j, k = j + 1 := ⟨k - 1, by simp at hk; omega⟩
    have hpl : c.l.length = p.length + (u.length + 1) := by rw [← hp]; simp
    have hat := cd_at (l := c.l) (i := p.length) (x := x) (by rw [← hp]; simp)
    rw [cond_Holds_L1_succ]
    refine stT (decT (by rw [List.length_map]; omega)) (stO _ hat (stC rfl (stO _ rfl (stO _ rfl (stO _ rfl (stO _ rfl (stO _ rfl (stO _ rfl (stO _ rfl (stO _ rfl (stO _ (hs x (by rw [← hp]; simp)) (stO _ rfl ?_))))))))))))
    rw [allH]
    cases hx : holC t x with
    | false => exact stT rfl (by rw [decT (show (p.length : Int) ≥ 0 by omega)]; rfl)
    | true =>
      refine stF rfl ?_
      rw [wrap64 (by omega) (by omega), show (p.length : Int) + 1 = ((p ++ [x]).length : Int) by simp]
      exact ih (p ++ [x]) (by rw [← hp]; simp) k (by simp at hk; omega)
theorem hol_any (c : Cd) (t : Tp) (hl : c.l.length ≤ 281474976710656) (n : Nat) (hs : ∀ x ∈ c.l, C lb n F_cond_Holds [cdv x, tpv t] = some (.bool (holC t x))) : ∀ u p, p ++ u = c.l → ∀ k, u.length < k →
    cond_Holds_L3 lb n k c.ln (c.l.map ccv) c.k c.a c.b c.fr c.to c.days c.tn (scv c.t) t.ty t.sale t.day t.min t.stops t.tr t.cn (scv t.car) t.nn (ints t.nums) t.vn (scv t.vias) (p.length : Int) = some (.bool (anyH t u)) := by
  intro u
  induction u with
  | nil =>
    intro p hp k hk
    obtain ⟨k, rfl⟩ : ∃ j, k = j + 1 := ⟨k - 1, by simp at hk; omega⟩
    have hpl : p = c.l := by simpa using hp
    rw [cond_Holds_L3_succ]
    refine stF (decF (by rw [hpl, List.length_map]; omega)) ?_
    rw [cond_Holds_J4_eq, anyH]
  | cons x u ih =>
    intro p hp k hk
    obtain ⟨k, rfl⟩ : ∃ j, k = j + 1 := ⟨k - 1, by simp at hk; omega⟩
    have hpl : c.l.length = p.length + (u.length + 1) := by rw [← hp]; simp
    have hat := cd_at (l := c.l) (i := p.length) (x := x) (by rw [← hp]; simp)
    rw [cond_Holds_L3_succ]
    refine stT (decT (by rw [List.length_map]; omega)) (stO _ hat (stC rfl (stO _ rfl (stO _ rfl (stO _ rfl (stO _ rfl (stO _ rfl (stO _ rfl (stO _ rfl (stO _ rfl (stO _ (hs x (by rw [← hp]; simp)) (stO _ rfl ?_))))))))))))
    rw [anyH]
    cases hx : holC t x with
    | true => exact stT rfl (by rw [decT (show (p.length : Int) ≥ 0 by omega)]; rfl)
    | false =>
      refine stF rfl ?_
      rw [wrap64 (by omega) (by omega), show (p.length : Int) + 1 = ((p ++ [x]).length : Int) by simp]
      exact ih (p ++ [x]) (by rw [← hp]; simp) k (by simp at hk; omega)
theorem hol_not (c : Cd) (t : Tp) (hl : c.l.length ≤ 281474976710656) (n : Nat) (hs : ∀ x ∈ c.l, C lb n F_cond_Holds [cdv x, tpv t] = some (.bool (holC t x))) : ∀ u p, p ++ u = c.l → ∀ k, u.length < k →
    cond_Holds_L5 lb n k c.ln (c.l.map ccv) c.k c.a c.b c.fr c.to c.days c.tn (scv c.t) t.ty t.sale t.day t.min t.stops t.tr t.cn (scv t.car) t.nn (ints t.nums) t.vn (scv t.vias) (p.length : Int) = some (.bool (!allH t u)) := by
  intro u
  induction u with
  | nil =>
    intro p hp k hk
    obtain ⟨k, rfl⟩ : ∃ j, k = j + 1 := ⟨k - 1, by simp at hk; omega⟩
    have hpl : p = c.l := by simpa using hp
    rw [cond_Holds_L5_succ]
    refine stF (decF (by rw [hpl, List.length_map]; omega)) ?_
    rw [cond_Holds_J6_eq, allH]
    rfl
  | cons x u ih =>
    intro p hp k hk
    obtain ⟨k, rfl⟩ : ∃ j, k = j + 1 := ⟨k - 1, by simp at hk; omega⟩
    have hpl : c.l.length = p.length + (u.length + 1) := by rw [← hp]; simp
    have hat := cd_at (l := c.l) (i := p.length) (x := x) (by rw [← hp]; simp)
    rw [cond_Holds_L5_succ]
    refine stT (decT (by rw [List.length_map]; omega)) (stO _ hat (stC rfl (stO _ rfl (stO _ rfl (stO _ rfl (stO _ rfl (stO _ rfl (stO _ rfl (stO _ rfl (stO _ rfl (stO _ (hs x (by rw [← hp]; simp)) (stO _ rfl ?_))))))))))))
    rw [allH]
    cases hx : holC t x with
    | false => exact stT rfl (by rw [decT (show (p.length : Int) ≥ 0 by omega)]; rfl)
    | true =>
      refine stF rfl ?_
      rw [wrap64 (by omega) (by omega), show (p.length : Int) + 1 = ((p ++ [x]).length : Int) by simp]
      exact ih (p ++ [x]) (by rw [← hp]; simp) k (by simp at hk; omega)
theorem hol_num (c : Cd) (t : Tp) (hl : t.nums.length ≤ 281474976710656) (n : Nat) : ∀ u p, p ++ u = t.nums → ∀ k, u.length < k →
    cond_Holds_L7 lb n k t.nn (ints t.nums) c.k c.ln (c.l.map ccv) c.a c.b c.fr c.to c.days c.tn (scv c.t) t.ty t.sale t.day t.min t.stops t.tr t.cn (scv t.car) t.vn (scv t.vias) (p.length : Int) = some (.bool (betw u c.a c.b)) := by
  intro u
  induction u with
  | nil =>
    intro p hp k hk
    obtain ⟨k, rfl⟩ : ∃ j, k = j + 1 := ⟨k - 1, by simp at hk; omega⟩
    have hpl : p = t.nums := by simpa using hp
    rw [cond_Holds_L7_succ]
    refine stF (decF (by rw [hpl, List.length_map]; omega)) ?_
    rw [cond_Holds_J8_eq]
    rfl
  | cons x u ih =>
    intro p hp k hk
    obtain ⟨k, rfl⟩ : ∃ j, k = j + 1 := ⟨k - 1, by simp at hk; omega⟩
    have hpl : t.nums.length = p.length + (u.length + 1) := by rw [← hp]; simp
    have hat := ints_at (l := t.nums) (i := p.length) (z := x) (by rw [← hp]; simp)
    rw [cond_Holds_L7_succ]
    refine stT (decT (by rw [List.length_map]; omega)) (stO _ hat (stC rfl (stO _ rfl (stO _ (asI_i ..) ?_))))
    show _ = some (CV.bool (((!decide (x < c.a)) && !decide (x > c.b)) && betw u c.a c.b))
    by_cases h1 : x < c.a
    · exact stT (decT h1) (by rw [decT h1, decT (show (p.length : Int) ≥ 0 by omega)]; rfl)
    refine stF (decF h1) (stO _ (asI_i ..) ?_)
    rw [decF h1]
    by_cases h2 : x > c.b
    · exact stT (decT h2) (by rw [decT h2, decT (show (p.length : Int) ≥ 0 by omega)]; rfl)
    refine stF (decF h2) ?_
    rw [decF h2, wrap64 (by omega) (by omega), show (p.length : Int) + 1 = ((p ++ [x]).length : Int) by simp]
    exact ih (p ++ [x]) (by rw [← hp]; simp) k (by simp at hk; omega)
/-- a function of conditions and a trip, by induction -/
theorem cd_rett {f : FuncId} {t : Tp} {v : Cd → CV} {G : Cd → Prop} (hG : ∀ c, G c → ∀ x ∈ c.l, G x) (h : ∀ c, G c → (Evt fun n => ∀ x ∈ c.l, C lb n f [cdv x, tpv t] = some (v x)) → Ret lb f [cdv c, tpv t] (v c)) : ∀ c, G c → Ret lb f [cdv c, tpv t] (v c) :=
  Cd.ind fun c ih hg => h c hg (Evt.fin _ fun x hx => ih x hx (hG c hg x hx))
theorem hour_eq (a b m : Int) : (bif decide (a ≤ b) then (bif decide (m ≥ a) then some (CV.bool (decide (m ≤ b))) else some (.bool false)) else (bif decide (m ≥ a) then some (.bool true) else some (.bool (decide (m ≤ b))))) = some (.bool (hourB a b m)) := by
  unfold hourB
  cases decide (a ≤ b) <;> cases decide (m ≥ a) <;> rfl
theorem cond_Holds_ret (t : Tp) (ht : TFits t) : ∀ c : Cd, Fits c → Ret lb F_cond_Holds [cdv c, tpv t] (.bool (holC t c)) := by
  refine cd_rett lb fits_sub fun c hf hs => .top rfl (.eq (fun n => by rw [cond_Holds_eq]) ?_)
  have hl := fits_len hf
  obtain ⟨f1, f2⟩ := fits_tlen hf
  obtain ⟨t1, t2, t3⟩ := ht
  rw [holC_eq]
  by_cases k1 : c.k = 1
  · rw [if_pos k1]
    exact .all fun n => stT (beqT k1) rfl
  rw [if_neg k1]
  by_cases k2 : c.k = 2
  · rw [if_pos k2]
    exact Evt.imp2 hs (Evt.ge (c.l.length + 1)) fun n a hn => stF (beqF k1) (stT (beqT k2) (hol_all lb c t hl n a c.l [] rfl n (by omega)))
  rw [if_neg k2]
  by_cases k3 : c.k = 3
  · rw [if_pos k3]
    exact Evt.imp2 hs (Evt.ge (c.l.length + 1)) fun n a hn => stF (beqF k1) (stF (beqF k2) (stT (beqT k3) (hol_any lb c t hl n a c.l [] rfl n (by omega))))
  rw [if_neg k3]
  by_cases k4 : c.k = 4
  · rw [if_pos k4]
    exact Evt.imp2 hs (Evt.ge (c.l.length + 1)) fun n a hn => stF (beqF k1) (stF (beqF k2) (stF (beqF k3) (stT (beqT k4) (hol_not lb c t hl n a c.l [] rfl n (by omega)))))
  rw [if_neg k4]
  unfold leafH

  by_cases k5 : c.k = 5
  · rw [if_pos k5]
    exact (period_Has_ret lb c.fr c.to c.days t.day).mono fun n a => stF (beqF k1) (stF (beqF k2) (stF (beqF k3) (stF (beqF k4) (stT (beqT k5) (stO _ a rfl)))))
  rw [if_neg k5]
  by_cases k6 : c.k = 6
  · rw [if_pos k6]
    exact (period_Has_ret lb c.fr c.to c.days t.sale).mono fun n a => stF (beqF k1) (stF (beqF k2) (stF (beqF k3) (stF (beqF k4) (stF (beqF k5) (stT (beqT k6) (stO _ a rfl))))))
  rw [if_neg k6]
  by_cases k7 : c.k = 7
  · rw [if_pos k7]
    exact .all fun n => stF (beqF k1) (stF (beqF k2) (stF (beqF k3) (stF (beqF k4) (stF (beqF k5) (stF (beqF k6) (stT (beqT k7) rfl))))))
  rw [if_neg k7]
  by_cases k8 : c.k = 8
  · rw [if_pos k8]
    exact .all fun n => stF (beqF k1) (stF (beqF k2) (stF (beqF k3) (stF (beqF k4) (stF (beqF k5) (stF (beqF k6) (stF (beqF k7) (stT (beqT k8) (hour_eq _ _ _))))))))
  rw [if_neg k8]
  by_cases k9 : c.k = 9
  · rw [if_pos k9]
    exact .all fun n => stF (beqF k1) (stF (beqF k2) (stF (beqF k3) (stF (beqF k4) (stF (beqF k5) (stF (beqF k6) (stF (beqF k7) (stF (beqF k8) (stT (beqT k9) rfl))))))))
  rw [if_neg k9]
  by_cases k10 : c.k = 10
  · rw [if_pos k10]
    exact .all fun n => stF (beqF k1) (stF (beqF k2) (stF (beqF k3) (stF (beqF k4) (stF (beqF k5) (stF (beqF k6) (stF (beqF k7) (stF (beqF k8) (stF (beqF k9) (stT (beqT k10) rfl)))))))))
  rw [if_neg k10]
  by_cases k11 : c.k = 11
  · rw [if_pos k11]
    exact (among_ret lb t.cn c.tn t.car c.t t1 f1).mono fun n a => stF (beqF k1) (stF (beqF k2) (stF (beqF k3) (stF (beqF k4) (stF (beqF k5) (stF (beqF k6) (stF (beqF k7) (stF (beqF k8) (stF (beqF k9) (stF (beqF k10) (stT (beqT k11) (stO _ a rfl)))))))))))
  rw [if_neg k11]
  by_cases k12 : c.k = 12
  · rw [if_pos k12]
    exact (Evt.ge (t.nums.length + 1)).mono fun n hn => stF (beqF k1) (stF (beqF k2) (stF (beqF k3) (stF (beqF k4) (stF (beqF k5) (stF (beqF k6) (stF (beqF k7) (stF (beqF k8) (stF (beqF k9) (stF (beqF k10) (stF (beqF k11) (stT (beqT k12) (hol_num lb c t t2 n t.nums [] rfl n (by omega)))))))))))))
  rw [if_neg k12]
  by_cases k13 : c.k = 13
  · rw [if_pos k13]
    exact (among_ret lb t.vn c.tn t.vias c.t t3 f1).mono fun n a => stF (beqF k1) (stF (beqF k2) (stF (beqF k3) (stF (beqF k4) (stF (beqF k5) (stF (beqF k6) (stF (beqF k7) (stF (beqF k8) (stF (beqF k9) (stF (beqF k10) (stF (beqF k11) (stF (beqF k12) (stT (beqT k13) (stO _ a rfl)))))))))))))
  rw [if_neg k13]
  by_cases k14 : c.k = 14
  · rw [if_pos k14]
    exact (contains_str_ret lb c.tn c.t t.ty f1).mono fun n a => stF (beqF k1) (stF (beqF k2) (stF (beqF k3) (stF (beqF k4) (stF (beqF k5) (stF (beqF k6) (stF (beqF k7) (stF (beqF k8) (stF (beqF k9) (stF (beqF k10) (stF (beqF k11) (stF (beqF k12) (stF (beqF k13) (stT (beqT k14) (stO _ a rfl))))))))))))))
  rw [if_neg k14]
  exact .all fun n => stF (beqF k1) (stF (beqF k2) (stF (beqF k3) (stF (beqF k4) (stF (beqF k5) (stF (beqF k6) (stF (beqF k7) (stF (beqF k8) (stF (beqF k9) (stF (beqF k10) (stF (beqF k11) (stF (beqF k12) (stF (beqF k13) (stF (beqF k14) rfl)))))))))))))
end Go.Proofs
