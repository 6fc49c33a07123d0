/- Chapter 20 on plain data: levels and sizes, by the program and by its reference; what is too large. Conditions: as each says. -/
import Derived.Test.YtmandbflbfkagaaGreatDoorCa
import Derived.Test.YtmandbflbfkagaaGreatDoorHa
set_option linter.unusedVariables false
set_option linter.unusedSimpArgs false
namespace Go.Proofs
open Go.Am
variable (lb : Nat)
/-- a condition as a value -/
abbrev cdv (c : Cd) : CV := .agg [.int .i64 c.k, .list c.ln (c.l.map ccv), .int .i64 c.a, .int .i64 c.b, .int .i64 c.fr, .int .i64 c.to, .int .i64 c.days, .list c.tn (scv c.t)]
theorem cd_at {l : List Cd} {i : Nat} {x : Cd} (h : l[i]? = some x) : atL (l.map ccv) (i : Int) = some [.int .i64 x.k, .list x.ln (x.l.map ccv), .int .i64 x.a, .int .i64 x.b, .int .i64 x.fr, .int .i64 x.to, .int .i64 x.days, .list x.tn (scv x.t)] := by
  rw [← ccv_eq]
  exact atL_ok (by simp [h])
/-- a function of conditions, by induction -/
theorem cd_ret {f : FuncId} {v : Cd → CV} {G : Cd → Prop} (hG : ∀ c, G c → ∀ x ∈ c.l, G x) (h : ∀ c, G c → (Evt fun n => ∀ x ∈ c.l, C lb n f [cdv x] = some (v x)) → Ret lb f [cdv c] (v c)) : ∀ c, G c → Ret lb f [cdv c] (v c) :=
  Cd.ind fun c ih hg => h c hg (Evt.fin _ fun x hx => ih x hx (hG c hg x hx))
theorem fits_sub : ∀ c : Cd, Fits c → ∀ x ∈ c.l, Fits x := fun c h => ((fits_eq c).1 h).2.1
theorem fits_len {c : Cd} (h : Fits c) : c.l.length ≤ 281474976710656 := ((fits_eq c).1 h).1
theorem fits_tlen {c : Cd} (h : Fits c) : c.t.length ≤ 281474976710656 ∧ ∀ s ∈ c.t, s.length ≤ 281474976710656 := ((fits_eq c).1 h).2.2
theorem cond_levels_ret : ∀ c : Cd, Fits c → Ret lb F_cond_levels [cdv c] (.int .i64 (levC c)) := by
  refine cd_ret lb fits_sub fun c hf hs => .top rfl (.eq (fun n => by rw [cond_levels_eq]) ?_)
  have hl := fits_len hf
  have hh : ∀ n, (∀ x ∈ c.l, C lb n F_cond_levels [cdv x] = some (.int .i64 (levC x))) → ∀ t p, p ++ t = c.l → ∀ k, t.length < k → ∀ m, cond_levels_L1 lb n k c.k c.ln (c.l.map ccv) c.a c.b c.fr c.to c.days c.tn (scv c.t) m (p.length : Int) = some (.int .i64 (w64 (levs m t + 1))) := by
    intro n hs t
    induction t with
    | nil =>
      intro p hp k hk m
      obtain ⟨k, rfl⟩ : ∃ j, k = j + 1 := ⟨k - 1, by simp at hk; omega⟩
      have hpl : p = c.l := by simpa using hp
      rw [cond_levels_L1_succ]
      refine stF (decF (by rw [hpl, List.length_map]; omega)) ?_
      rw [cond_levels_J2_eq, levs]
    | cons x t ih =>
      intro p hp k hk m
      obtain ⟨k, rfl⟩ : ∃ j, k = j + 1 := ⟨k - 1, by simp at hk; omega⟩
      have hpl : c.l.length = p.length + (t.length + 1) := by rw [← hp]; simp
      have hat := cd_at (l := c.l) (i := p.length) (x := x) (by rw [← hp]; simp)
      rw [cond_levels_L1_succ]
      refine stT (decT (by rw [List.length_map]; omega)) (stO _ hat (stC rfl (stO _ rfl (stO _ rfl (stO _ rfl (stO _ rfl (stO _ rfl (stO _ rfl (stO _ rfl (stO _ rfl (stO _ (hs x (by rw [← hp]; simp)) (stO _ (asI_i ..) ?_))))))))))))
      rw [wrap64 (by omega) (by omega), show (p.length : Int) + 1 = ((p ++ [x]).length : Int) by simp, levs]
      exact ih (p ++ [x]) (by rw [← hp]; simp) k (by simp at hk; omega) _
  rw [levC_eq]
  exact Evt.imp2 hs (Evt.ge (c.l.length + 1)) fun n a hn => hh n a c.l [] rfl n (by omega) 0
theorem r20_levels_ret : ∀ c : Cd, Fits c → Ret lb F_r20_levels [cdv c] (.int .i64 (levC c)) := by
  refine cd_ret lb fits_sub fun c hf hs => .top rfl (.eq (fun n => by rw [r20_levels_eq]) ?_)
  have hl := fits_len hf
  have hh : ∀ n, (∀ x ∈ c.l, C lb n F_r20_levels [cdv x] = some (.int .i64 (levC x))) → ∀ t p, p ++ t = c.l → ∀ k, t.length < k → ∀ m, r20_levels_L1 lb n k c.k c.ln (c.l.map ccv) c.a c.b c.fr c.to c.days c.tn (scv c.t) m (p.length : Int) = some (.int .i64 (w64 (levs m t + 1))) := by
    intro n hs t
    induction t with
    | nil =>
      intro p hp k hk m
      obtain ⟨k, rfl⟩ : ∃ j, k = j + 1 := ⟨k - 1, by simp at hk; omega⟩
      have hpl : p = c.l := by simpa using hp
      rw [r20_levels_L1_succ]
      refine stF (decF (by rw [hpl, List.length_map]; omega)) ?_
      rw [r20_levels_J2_eq, levs]
    | cons x t ih =>
      intro p hp k hk m
      obtain ⟨k, rfl⟩ : ∃ j, k = j + 1 := ⟨k - 1, by simp at hk; omega⟩
      have hpl : c.l.length = p.length + (t.length + 1) := by rw [← hp]; simp
      have hat := cd_at (l := c.l) (i := p.length) (x := x) (by rw [← hp]; simp)
      rw [r20_levels_L1_succ]
      refine stT (decT (by rw [List.length_map]; omega)) (stO _ hat (stC rfl (stO _ rfl (stO _ rfl (stO _ rfl (stO _ rfl (stO _ rfl (stO _ rfl (stO _ rfl (stO _ rfl (stO _ (hs x (by rw [← hp]; simp)) (stO _ (asI_i ..) ?_))))))))))))
      rw [wrap64 (by omega) (by omega), show (p.length : Int) + 1 = ((p ++ [x]).length : Int) by simp, levs]
      exact ih (p ++ [x]) (by rw [← hp]; simp) k (by simp at hk; omega) _
  rw [levC_eq]
  exact Evt.imp2 hs (Evt.ge (c.l.length + 1)) fun n a hn => hh n a c.l [] rfl n (by omega) 0
theorem cond_Size_ret : ∀ c : Cd, Fits c → Ret lb F_cond_Size [cdv c] (.int .i64 (sizC c)) := by
  refine cd_ret lb fits_sub fun c hf hs => .top rfl (.eq (fun n => by rw [cond_Size_eq]) ?_)
  have hl := fits_len hf
  have hh : ∀ n, (∀ x ∈ c.l, C lb n F_cond_Size [cdv x] = some (.int .i64 (sizC x))) → ∀ t p, p ++ t = c.l → ∀ k, t.length < k → ∀ m, cond_Size_L1 lb n k c.k c.ln (c.l.map ccv) c.a c.b c.fr c.to c.days c.tn (scv c.t) m (p.length : Int) = some (.int .i64 (sizs m t)) := by
    intro n hs t
    induction t with
    | nil =>
      intro p hp k hk m
      obtain ⟨k, rfl⟩ : ∃ j, k = j + 1 := ⟨k - 1, by simp at hk; omega⟩
      have hpl : p = c.l := by simpa using hp
      rw [cond_Size_L1_succ]
      refine stF (decF (by rw [hpl, List.length_map]; omega)) ?_
      rw [cond_Size_J2_eq, sizs]
    | cons x t ih =>
      intro p hp k hk m
      obtain ⟨k, rfl⟩ : ∃ j, k = j + 1 := ⟨k - 1, by simp at hk; omega⟩
      have hpl : c.l.length = p.length + (t.length + 1) := by rw [← hp]; simp
      have hat := cd_at (l := c.l) (i := p.length) (x := x) (by rw [← hp]; simp)
      rw [cond_Size_L1_succ]
      refine stT (decT (by rw [List.length_map]; omega)) (stO _ hat (stC rfl (stO _ rfl (stO _ rfl (stO _ rfl (stO _ rfl (stO _ rfl (stO _ rfl (stO _ rfl (stO _ rfl (stO _ (hs x (by rw [← hp]; simp)) (stO _ (asI_i ..) ?_))))))))))))
      rw [wrap64 (x := (p.length : Int) + 1) (by omega) (by omega), show (p.length : Int) + 1 = ((p ++ [x]).length : Int) by simp, sizs]
      exact ih (p ++ [x]) (by rw [← hp]; simp) k (by simp at hk; omega) _
  rw [sizC_eq]
  exact Evt.imp2 hs (Evt.ge (c.l.length + 1)) fun n a hn => hh n a c.l [] rfl n (by omega) 1
theorem r20_Size_ret : ∀ c : Cd, Fits c → Ret lb F_r20_Size [cdv c] (.int .i64 (sizC c)) := by
  refine cd_ret lb fits_sub fun c hf hs => .top rfl (.eq (fun n => by rw [r20_Size_eq]) ?_)
  have hl := fits_len hf
  have hh : ∀ n, (∀ x ∈ c.l, C lb n F_r20_Size [cdv x] = some (.int .i64 (sizC x))) → ∀ t p, p ++ t = c.l → ∀ k, t.length < k → ∀ m, r20_Size_L1 lb n k c.k c.ln (c.l.map ccv) c.a c.b c.fr c.to c.days c.tn (scv c.t) m (p.length : Int) = some (.int .i64 (sizs m t)) := by
    intro n hs t
    induction t with
    | nil =>
      intro p hp k hk m
      obtain ⟨k, rfl⟩ : ∃ j, k = j + 1 := ⟨k - 1, by simp at hk; omega⟩
      have hpl : p = c.l := by simpa using hp
      rw [r20_Size_L1_succ]
      refine stF (decF (by rw [hpl, List.length_map]; omega)) ?_
      rw [r20_Size_J2_eq, sizs]
    | cons x t ih =>
      intro p hp k hk m
      obtain ⟨k, rfl⟩ : ∃ j, k = j + 1 := ⟨k - 1, by simp at hk; omega⟩
      have hpl : c.l.length = p.length + (t.length + 1) := by rw [← hp]; simp
      have hat := cd_at (l := c.l) (i := p.length) (x := x) (by rw [← hp]; simp)
      rw [r20_Size_L1_succ]
      refine stT (decT (by rw [List.length_map]; omega)) (stO _ hat (stC rfl (stO _ rfl (stO _ rfl (stO _ rfl (stO _ rfl (stO _ rfl (stO _ rfl (stO _ rfl (stO _ rfl (stO _ (hs x (by rw [← hp]; simp)) (stO _ (asI_i ..) ?_))))))))))))
      rw [wrap64 (x := (p.length : Int) + 1) (by omega) (by omega), show (p.length : Int) + 1 = ((p ++ [x]).length : Int) by simp, sizs]
      exact ih (p ++ [x]) (by rw [← hp]; simp) k (by simp at hk; omega) _
  rw [sizC_eq]
  exact Evt.imp2 hs (Evt.ge (c.l.length + 1)) fun n a hn => hh n a c.l [] rfl n (by omega) 1
/-! what is too large -/
theorem txt_at {t : List Bs} {i : Nat} {s : Bs} (h : t[i]? = some s) : atL (scv t) (i : Int) = some [.str s] := atL_ok (scv_get h)
def txtSum (t : List Bs) : Int := (t.map fun s => (s.length : Int)).sum
theorem txtSum_nn (t : List Bs) : 0 ≤ txtSum t := by
  induction t with
  | nil => simp [txtSum]
  | cons x t ih => simp only [txtSum, List.map_cons, List.sum_cons] at ih ⊢; omega
theorem large_texts (c : Cd) (hf : Fits c) (i51 : Int) (n : Nat) : ∀ (r : Nat) (t p : List Bs), p ++ t = c.t → p.length + r = 200 → ∀ k, r < k → ∀ m : Int, 0 ≤ m → m ≤ 281474976710656 * (p.length + 2) →
    l20_large_L3 lb n k c.k c.ln (c.l.map ccv) c.a c.b c.fr c.to c.days c.tn (scv c.t) i51 m (p.length : Int) = some (.bool (decide (m + txtSum (t.take r) > 400))) := by
  obtain ⟨f1, f2⟩ := fits_tlen hf
  intro r
  induction r with
  | zero =>
    intro t p hp hr k hk m h0 h1
    obtain ⟨k, rfl⟩ : ∃ j, k = j + 1 := ⟨k - 1, by omega⟩
    rw [l20_large_L3_succ]
    have e : txtSum (t.take 0) = 0 := rfl
    rw [e, Int.add_zero]
    by_cases hlt : (p.length : Int) < ((scv c.t).length : Int)
    · refine stT (decT hlt) (stF (decF (by omega)) ?_)
      rw [l20_large_J4_eq]
    · refine stF (decF hlt) ?_
      rw [l20_large_J4_eq]
  | succ r ih =>
    intro t p hp hr k hk m h0 h1
    obtain ⟨k, rfl⟩ : ∃ j, k = j + 1 := ⟨k - 1, by omega⟩
    rw [l20_large_L3_succ]
    cases t with
    | nil =>
      have hpl : p = c.t := by simpa using hp
      refine stF (decF (by rw [hpl, scv_len]; omega)) ?_
      rw [l20_large_J4_eq]
      simp [txtSum]
    | cons s t =>
      have hpl : c.t.length = p.length + (t.length + 1) := by rw [← hp]; simp
      have hs := f2 s (by rw [← hp]; simp)
      refine stT (decT (by rw [scv_len]; omega)) (stT (decT (by omega)) (stO _ (txt_at (s := s) (by rw [← hp]; simp)) (stC rfl (stO _ rfl (stO _ rfl ?_)))))
      rw [wrap64 (x := m + (s.length : Int)) (by omega) (by omega), wrap64 (by omega) (by omega), show (p.length : Int) + 1 = ((p ++ [s]).length : Int) by simp]
      rw [ih t (p ++ [s]) (by rw [← hp]; simp) (by simp; omega) k (by omega) (m + (s.length : Int)) (by omega) (by simp only [List.length_append, List.length_cons, List.length_nil]; omega)]
      have e : txtSum ((s :: t).take (r + 1)) = (s.length : Int) + txtSum (t.take r) := by simp [txtSum]
      rw [e]
      refine congrArg (fun b => some (CV.bool b)) (decide_eq_decide.2 ?_)
      omega
theorem l20_large_ret : ∀ c : Cd, Fits c → Ret lb F_l20_large [cdv c] (.bool (lgC c)) := by
  refine cd_ret lb fits_sub fun c hf hs => .top rfl (.eq (fun n => by rw [l20_large_eq]) ?_)
  have hl := fits_len hf
  obtain ⟨f1, f2⟩ := fits_tlen hf
  have e0 := r20_Size_ret lb c hf
  rw [lgC_eq]
  by_cases q : sizC c > 300
  · rw [if_pos q]
    exact e0.mono fun n a => stO _ a (stO _ (asI_i ..) (stT (decT q) rfl))
  rw [if_neg q]
  have hh : ∀ n, 300 ≤ n → (∀ x ∈ c.l, C lb n F_l20_large [cdv x] = some (.bool (lgC x))) → ∀ t p, p ++ t = c.l → ∀ k, t.length < k →
      l20_large_L1 lb n k c.k c.ln (c.l.map ccv) c.a c.b c.fr c.to c.days c.tn (scv c.t) (p.length : Int) = some (.bool (if lgs t = true then true else decide ((c.t.length : Int) + txtLen c.t > 400))) := by
    intro n hn hs t
    induction t with
    | nil =>
      intro p hp k hk
      obtain ⟨k, rfl⟩ : ∃ j, k = j + 1 := ⟨k - 1, by simp at hk; omega⟩
      have hpl : p = c.l := by simpa using hp
      rw [l20_large_L1_succ]
      refine stF (decF (by rw [hpl, List.length_map]; omega)) ?_
      rw [l20_large_J2_eq, scv_len, if_neg (by simp [lgs])]
      exact large_texts lb c hf _ n 200 c.t [] rfl rfl n (by omega) _ (by omega) (by simp; omega)
    | cons x t ih =>
      intro p hp k hk
      obtain ⟨k, rfl⟩ : ∃ j, k = j + 1 := ⟨k - 1, by simp at hk; omega⟩
      have hpl : c.l.length = p.length + (t.length + 1) := by rw [← hp]; simp
      have hat := cd_at (l := c.l) (i := p.length) (x := x) (by rw [← hp]; simp)
      rw [l20_large_L1_succ]
      refine stT (decT (by rw [List.length_map]; omega)) (stO _ hat (stC rfl (stO _ rfl (stO _ rfl (stO _ rfl (stO _ rfl (stO _ rfl (stO _ rfl (stO _ rfl (stO _ rfl (stO _ (hs x (by rw [← hp]; simp)) (stO _ rfl ?_))))))))))))
      rw [lgs]
      cases hx : lgC x with
      | true => exact stT rfl rfl
      | false =>
        refine stF rfl ?_
        rw [wrap64 (by omega) (by omega), show (p.length : Int) + 1 = ((p ++ [x]).length : Int) by simp]
        exact ih (p ++ [x]) (by rw [← hp]; simp) k (by simp at hk; omega)
  exact Evt.imp2 e0 (Evt.and hs (Evt.ge (c.l.length + 301))) fun n a ⟨b, hn⟩ => stO _ a (stO _ (asI_i ..) (stF (decF q) (hh n (by omega) b c.l [] rfl n (by omega))))
/-- a trip -/
structure Tp where
  ty : Bs
  sale : Int
  day : Int
  min : Int
  stops : Int
  tr : Int
  cn : Bool
  car : List Bs
  nn : Bool
  nums : List Int
  vn : Bool
  vias : List Bs
abbrev tpv (t : Tp) : CV := .agg [.str t.ty, .int .i64 t.sale, .int .i64 t.day, .int .i64 t.min, .int .i64 t.stops, .int .i64 t.tr, .list t.cn (scv t.car), .list t.nn (t.nums.map fun z => [CV.int .i64 z]), .list t.vn (scv t.vias)]
def farT (t : Tp) : Bool :=
  if (if t.sale < t.day then t.sale else t.day) < -1099511627776 then true else if (if t.sale > t.day then t.sale else t.day) > 1099511627776 then true else
  if (t.car.length : Int) > 100 then true else if (t.nums.length : Int) > 100 then true else decide ((t.vias.length : Int) > 100)
theorem l20_far_ret (t : Tp) : Ret lb F_l20_far [tpv t] (.bool (farT t)) := by
  refine .top rfl (.eq (fun n => by rw [l20_far_eq]) (.all fun n => ?_))
  unfold farT
  simp only [scv_len, List.length_map]
  by_cases h1 : (if t.sale < t.day then t.sale else t.day) < -1099511627776
  · rw [if_pos h1]; exact stT (decT h1) rfl
  rw [if_neg h1]
  refine stF (decF h1) ?_
  by_cases h2 : (if t.sale > t.day then t.sale else t.day) > 1099511627776
  · rw [if_pos h2]; exact stT (decT h2) rfl
  rw [if_neg h2]
  refine stF (decF h2) ?_
  by_cases h3 : (t.car.length : Int) > 100
  · rw [if_pos h3]; exact stT (decT h3) rfl
  rw [if_neg h3]
  refine stF (decF h3) ?_
  by_cases h4 : (t.nums.length : Int) > 100
  · rw [if_pos h4]; exact stT (decT h4) rfl
  rw [if_neg h4]
  exact stF (decF h4) rfl
theorem farT_false {t : Tp} (h : farT t = false) : -1099511627776 ≤ t.sale ∧ t.sale ≤ 1099511627776 ∧ -1099511627776 ≤ t.day ∧ t.day ≤ 1099511627776 ∧ t.car.length ≤ 100 ∧ t.nums.length ≤ 100 ∧ t.vias.length ≤ 100 := by
  unfold farT at h
  by_cases h1 : (if t.sale < t.day then t.sale else t.day) < -1099511627776
  · rw [if_pos h1] at h; cases h
  rw [if_neg h1] at h
  by_cases h2 : (if t.sale > t.day then t.sale else t.day) > 1099511627776
  · rw [if_pos h2] at h; cases h
  rw [if_neg h2] at h
  by_cases h3 : (t.car.length : Int) > 100
  · rw [if_pos h3] at h; cases h
  rw [if_neg h3] at h
  by_cases h4 : (t.nums.length : Int) > 100
  · rw [if_pos h4] at h; cases h
  rw [if_neg h4] at h
  have h5 := of_decide_eq_false h
  split at h1 <;> split at h2 <;> omega
end Go.Proofs
