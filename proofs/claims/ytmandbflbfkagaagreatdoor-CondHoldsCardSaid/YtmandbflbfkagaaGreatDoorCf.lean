/- Chapter 20 on plain data: Check and Same, by the program and by its reference. Conditions: as each says. -/
import Derived.Test.YtmandbflbfkagaaGreatDoorCe
import Derived.Test.YtmandbflbfkagaaGreatDoorHd
import Derived.Test.YtmandbflbfkagaaGreatDoorRy
set_option linter.unusedVariables false
set_option linter.unusedSimpArgs false
namespace Go.Proofs
open Go.Am
variable (lb : Nat)
mutual
def parE : Cd → Int
  | .mk k ln l a b fr to days tn t => if partE (.mk k ln l a b fr to days tn t) ≠ 0 then partE (.mk k ln l a b fr to days tn t) else parsE l
def parsE : List Cd → Int
  | [] => 0
  | c :: r => if parE c ≠ 0 then parE c else parsE r
end
theorem parE_eq (c : Cd) : parE c = if partE c ≠ 0 then partE c else parsE c.l := by cases c; rw [parE]; rfl
/-- few parts -/
def Few (c : Cd) : Prop := Fits c ∧ tsz c ≤ 128
theorem few_sub : ∀ c : Cd, Few c → ∀ x ∈ c.l, Few x := fun c h x hx => by
  have h1 := tszs_mem hx
  have h2 := h.2
  rw [tsz_eq] at h2
  exact ⟨fits_sub c h.1 x hx, by omega⟩
theorem few_len {c : Cd} (h : Few c) : c.l.length ≤ 127 := by
  have h1 := tszs_len c.l
  have h2 := h.2
  rw [tsz_eq] at h2
  omega
theorem cond_parts_ret : ∀ c : Cd, Few c → Ret lb F_cond_parts [cdv c] (.int .i64 (parE c)) := by
  refine cd_ret lb few_sub fun c hf hs => .top rfl (.eq (fun n => by rw [cond_parts_eq]) ?_)
  have hl := few_len hf
  have e0 := part_ret lb c hf.1 hl
  rw [parE_eq]
  by_cases h0 : partE c ≠ 0
  · rw [if_pos h0]
    exact e0.mono fun n a => stO _ a (stO _ (asI_i ..) (stT (bneT h0) rfl))
  rw [if_neg h0]
  have hh : ∀ n, (∀ x ∈ c.l, C lb n F_cond_parts [cdv x] = some (.int .i64 (parE x))) → ∀ t p, p ++ t = c.l → ∀ k, t.length < k → ∀ r, cond_parts_L1 lb n k c.k c.ln (c.l.map ccv) c.a c.b c.fr c.to c.days c.tn (scv c.t) r (p.length : Int) = some (.int .i64 (parsE t)) := by
    intro n hs t
    induction t with
    | nil =>
      intro p hp k hk r
      obtain ⟨k, rfl⟩ : ∃ j, k = j + 1 := ⟨k - 1, by simp at hk; omega⟩
      have hpl : p = c.l := by simpa using hp
      rw [cond_parts_L1_succ]
      refine stF (decF (by rw [hpl, List.length_map]; omega)) ?_
      rw [cond_parts_J2_eq, parsE]
    | cons x t ih =>
      intro p hp k hk r
      obtain ⟨k, rfl⟩ : ∃ j, k = j + 1 := ⟨k - 1, by simp at hk; omega⟩
      have hpl : c.l.length = p.length + (t.length + 1) := by rw [← hp]; simp
      have hat := cd_at (l := c.l) (i := p.length) (x := x) (by rw [← hp]; simp)
      rw [cond_parts_L1_succ]
      refine stT (decT (by rw [List.length_map]; omega)) (stO _ hat (stC rfl (stO _ rfl (stO _ rfl (stO _ rfl (stO _ rfl (stO _ rfl (stO _ rfl (stO _ rfl (stO _ rfl (stO _ (hs x (by rw [← hp]; simp)) (stO _ (asI_i ..) ?_))))))))))))
      rw [parsE]
      by_cases hx : parE x ≠ 0
      · rw [if_pos hx]
        exact stT (bneT hx) rfl
      · rw [if_neg hx]
        refine stF (bneF (Classical.byContradiction hx)) ?_
        rw [wrap64 (by omega) (by omega), show (p.length : Int) + 1 = ((p ++ [x]).length : Int) by simp]
        exact ih (p ++ [x]) (by rw [← hp]; simp) k (by simp at hk; omega) _
  exact Evt.imp2 e0 (Evt.and hs (Evt.ge (c.l.length + 1))) fun n a ⟨b, hn⟩ => stO _ a (stO _ (asI_i ..) (stF (bneF (Classical.byContradiction h0)) (hh n b c.l [] rfl n (by omega) _)))
theorem r20_parts_ret : ∀ c : Cd, Few c → Ret lb F_r20_parts [cdv c] (.int .i64 (parE c)) := by
  refine cd_ret lb few_sub fun c hf hs => .top rfl (.eq (fun n => by rw [r20_parts_eq]) ?_)
  have hl := few_len hf
  have e0 := r20_part_ret lb c hf.1
  rw [parE_eq]
  by_cases h0 : partE c ≠ 0
  · rw [if_pos h0]
    exact e0.mono fun n a => stO _ a (stO _ (asI_i ..) (stT (bneT h0) rfl))
  rw [if_neg h0]
  have hh : ∀ n, (∀ x ∈ c.l, C lb n F_r20_parts [cdv x] = some (.int .i64 (parE x))) → ∀ t p, p ++ t = c.l → ∀ k, t.length < k → ∀ r, r20_parts_L1 lb n k c.k c.ln (c.l.map ccv) c.a c.b c.fr c.to c.days c.tn (scv c.t) r (p.length : Int) = some (.int .i64 (parsE t)) := by
    intro n hs t
    induction t with
    | nil =>
      intro p hp k hk r
      obtain ⟨k, rfl⟩ : ∃ j, k = j + 1 := ⟨k - 1, by simp at hk; omega⟩
      have hpl : p = c.l := by simpa using hp
      rw [r20_parts_L1_succ]
      refine stF (decF (by rw [hpl, List.length_map]; omega)) ?_
      rw [r20_parts_J2_eq, parsE]
    | cons x t ih =>
      intro p hp k hk r
      obtain ⟨k, rfl⟩ : ∃ j, k = j + 1 := ⟨k - 1, by simp at hk; omega⟩
      have hpl : c.l.length = p.length + (t.length + 1) := by rw [← hp]; simp
      have hat := cd_at (l := c.l) (i := p.length) (x := x) (by rw [← hp]; simp)
      rw [r20_parts_L1_succ]
      refine stT (decT (by rw [List.length_map]; omega)) (stO _ hat (stC rfl (stO _ rfl (stO _ rfl (stO _ rfl (stO _ rfl (stO _ rfl (stO _ rfl (stO _ rfl (stO _ rfl (stO _ (hs x (by rw [← hp]; simp)) (stO _ (asI_i ..) ?_))))))))))))
      rw [parsE]
      by_cases hx : parE x ≠ 0
      · rw [if_pos hx]
        exact stT (bneT hx) rfl
      · rw [if_neg hx]
        refine stF (bneF (Classical.byContradiction hx)) ?_
        rw [wrap64 (by omega) (by omega), show (p.length : Int) + 1 = ((p ++ [x]).length : Int) by simp]
        exact ih (p ++ [x]) (by rw [← hp]; simp) k (by simp at hk; omega) _
  exact Evt.imp2 e0 (Evt.and hs (Evt.ge (c.l.length + 1))) fun n a ⟨b, hn⟩ => stO _ a (stO _ (asI_i ..) (stF (bneF (Classical.byContradiction h0)) (hh n b c.l [] rfl n (by omega) _)))
/-- the error of a condition -/
def checkE (c : Cd) : Int := if levC c > 8 then 4 else if sizC c > 128 then 4 else parE c
theorem cond_Check_ret (c : Cd) (hf : Fits c) (hs : lgC c = false) : Ret lb F_cond_Check [cdv c] (.int .i64 (checkE c)) := by
  refine .top rfl (.eq (fun n => by rw [cond_Check_eq]) ?_)
  obtain ⟨s1, s2⟩ := small_size c hf hs
  have e0 := cond_levels_ret lb c hf
  have e1 := cond_Size_ret lb c hf
  unfold checkE
  by_cases h1 : levC c > 8
  · rw [if_pos h1]
    exact e0.mono fun n a => stO _ a (stO _ (asI_i ..) (stT (decT h1) rfl))
  rw [if_neg h1]
  by_cases h2 : sizC c > 128
  · rw [if_pos h2]
    exact Evt.imp2 e0 e1 fun n a b => stO _ a (stO _ (asI_i ..) (stF (decF h1) (stO _ b (stO _ (asI_i ..) (stT (decT h2) rfl)))))
  rw [if_neg h2]
  exact Evt.imp2 e0 (Evt.and e1 (cond_parts_ret lb c ⟨hf, by omega⟩)) fun n a ⟨b, d⟩ => stO _ a (stO _ (asI_i ..) (stF (decF h1) (stO _ b (stO _ (asI_i ..) (stF (decF h2) (stO _ d rfl))))))
theorem r20_Check_ret (c : Cd) (hf : Fits c) (hs : lgC c = false) : Ret lb F_r20_Check [cdv c] (.int .i64 (checkE c)) := by
  refine .top rfl (.eq (fun n => by rw [r20_Check_eq]) ?_)
  obtain ⟨s1, s2⟩ := small_size c hf hs
  have e0 := r20_levels_ret lb c hf
  have e1 := r20_Size_ret lb c hf
  unfold checkE
  by_cases h1 : levC c > 8
  · rw [if_pos h1]
    exact e0.mono fun n a => stO _ a (stO _ (asI_i ..) (stT (decT h1) rfl))
  rw [if_neg h1]
  by_cases h2 : sizC c > 128
  · rw [if_pos h2]
    exact Evt.imp2 e0 e1 fun n a b => stO _ a (stO _ (asI_i ..) (stF (decF h1) (stO _ b (stO _ (asI_i ..) (stT (decT h2) rfl)))))
  rw [if_neg h2]
  exact Evt.imp2 e0 (Evt.and e1 (r20_parts_ret lb c ⟨hf, by omega⟩)) fun n a ⟨b, d⟩ => stO _ a (stO _ (asI_i ..) (stF (decF h1) (stO _ b (stO _ (asI_i ..) (stF (decF h2) (stO _ d rfl))))))
/-! Same -/
mutual
def sameC : Cd → Cd → Bool
  | .mk k ln l a b fr to days tn t, d => (k == d.k) && ((a == d.a) && ((b == d.b) && (((fr == d.fr) && ((to == d.to) && ((days == d.days) && true))) && (decide (t = d.t) && samesC l d.l))))
def samesC : List Cd → List Cd → Bool
  | [], r => r.isEmpty
  | x :: l, r => match r with
    | [] => false
    | y :: r => sameC x y && samesC l r
end
theorem sameC_eq (c d : Cd) : sameC c d = ((c.k == d.k) && ((c.a == d.a) && ((c.b == d.b) && (((c.fr == d.fr) && ((c.to == d.to) && ((c.days == d.days) && true))) && (decide (c.t = d.t) && samesC c.l d.l))))) := by cases c; rw [sameC]; rfl
theorem samesC_len : ∀ {l r : List Cd}, samesC l r = true → l.length = r.length
  | [], r, h => by
    rw [samesC] at h
    cases r with
    | nil => rfl
    | cons y r => cases h
  | x :: l, [], h => by rw [samesC] at h; cases h
  | x :: l, y :: r, h => by
    rw [samesC, Bool.and_eq_true] at h
    simp [samesC_len h.2]
theorem sameC_refl : ∀ c : Cd, sameC c c = true := by
  refine Cd.ind fun c ih => ?_
  rw [sameC_eq]
  have : ∀ l : List Cd, (∀ x ∈ l, sameC x x = true) → samesC l l = true := by
    intro l
    induction l with
    | nil => intro _; rw [samesC]; rfl
    | cons x l ih => intro h; rw [samesC, h x (by simp), ih fun y hy => h y (by simp [hy])]; rfl
  rw [this c.l ih]
  simp
/-- lists of texts are short -/
def Mod (c : Cd) : Prop := Fits c ∧ lgC c = false
theorem mod_sub : ∀ c : Cd, Mod c → ∀ x ∈ c.l, Mod x := fun c h x hx => ⟨fits_sub c h.1 x hx, small_sub h.2 x hx⟩
theorem mod_t {c : Cd} (h : Mod c) : c.t.length ≤ 400 := by
  have h1 := small_txt h.2
  have h2 := txtSum_nn (c.t.take 200)
  unfold txtSum at h2
  unfold txtLen at h1
  omega
theorem mod_l {c : Cd} (h : Mod c) : c.l.length ≤ 300 := by
  have h1 := (small_size c h.1 h.2).2
  have h2 := tszs_len c.l
  rw [tsz_eq] at h1
  omega
theorem cd_ret2 {f : FuncId} {v : Cd → Cd → CV} (h : ∀ a b, Mod a → Mod b → (Evt fun n => ∀ x ∈ a.l, ∀ y ∈ b.l, C lb n f [cdv x, cdv y] = some (v x y)) → Ret lb f [cdv a, cdv b] (v a b)) : ∀ a b, Mod a → Mod b → Ret lb f [cdv a, cdv b] (v a b) :=
  Cd.ind fun a ih b ha hb => h a b ha hb (Evt.fin _ fun x hx => Evt.fin _ fun y hy => ih x hx y (mod_sub a ha x hx) (mod_sub b hb y hy))
theorem r20_Same_ret : ∀ a b : Cd, Mod a → Mod b → Ret lb F_r20_Same [cdv a, cdv b] (.bool (sameC a b)) := by
  refine cd_ret2 lb fun a b ha hb hs => .top rfl (.eq (fun n => by rw [r20_Same_eq]) ?_)
  have la := mod_l ha
  have ta := mod_t ha
  have e1 := r01_Same_ret lb a.tn b.tn a.t b.t (by omega)
  rw [sameC_eq]
  by_cases h1' : a.k ≠ b.k
  · exact .all fun n => stT (bneT h1') (by rw [beqF h1']; rfl)
  have h1 := Classical.byContradiction h1'
  rw [beqT h1]
  by_cases h2' : a.a ≠ b.a
  · exact .all fun n => stF (bneF h1) (stT (bneT h2') (by rw [beqF h2']; rfl))
  have h2 := Classical.byContradiction h2'
  rw [beqT h2]
  by_cases h3' : a.b ≠ b.b
  · exact .all fun n => stF (bneF h1) (stF (bneF h2) (stT (bneT h3') (by rw [beqF h3']; rfl)))
  have h3 := Classical.byContradiction h3'
  rw [beqT h3]
  cases h4 : ((a.fr == b.fr) && ((a.to == b.to) && ((a.days == b.days) && true))) with
  | false => exact .all fun n => stF (bneF h1) (stF (bneF h2) (stF (bneF h3) (stT rfl rfl)))
  | true =>
    by_cases h5' : a.l.length ≠ b.l.length
    · have : samesC a.l b.l = false := eq_false_of_ne_true fun e => h5' (samesC_len e)
      rw [this, Bool.and_false]
      exact .all fun n => stF (bneF h1) (stF (bneF h2) (stF (bneF h3) (stF rfl (stT (bneT (by rw [List.length_map, List.length_map]; omega)) rfl))))
    have h5 := Classical.byContradiction h5'
    by_cases h6 : a.t = b.t
    · rw [decT h6] at e1 ⊢
      have hh : ∀ n, (∀ x ∈ a.l, ∀ y ∈ b.l, C lb n F_r20_Same [cdv x, cdv y] = some (.bool (sameC x y))) → ∀ t u p q, p ++ t = a.l → q ++ u = b.l → p.length = q.length → ∀ k, t.length < k → r20_Same_L1 lb n k a.k a.ln (a.l.map ccv) a.a a.b a.fr a.to a.days a.tn (scv a.t) b.k b.ln (b.l.map ccv) b.a b.b b.fr b.to b.days b.tn (scv b.t) (p.length : Int) = some (.bool (samesC t u)) := by
        intro n hs t
        induction t with
        | nil =>
          intro u p q hp hq hpq k hk
          obtain ⟨k, rfl⟩ : ∃ j, k = j + 1 := ⟨k - 1, by simp at hk; omega⟩
          have hpl : p = a.l := by simpa using hp
          have hu : u = [] := by
            have : b.l.length = q.length + u.length := by rw [← hq]; simp
            rw [hpl] at hpq
            exact List.length_eq_zero_iff.1 (by omega)
          subst hu
          rw [r20_Same_L1_succ]
          refine stF (decF (by rw [hpl, List.length_map]; omega)) ?_
          rw [r20_Same_J2_eq, samesC]
          rfl
        | cons x t ih =>
          intro u p q hp hq hpq k hk
          obtain ⟨k, rfl⟩ : ∃ j, k = j + 1 := ⟨k - 1, by simp at hk; omega⟩
          have hpl : a.l.length = p.length + (t.length + 1) := by rw [← hp]; simp
          have hql : b.l.length = q.length + u.length := by rw [← hq]; simp
          cases u with
          | nil => simp at hql; omega
          | cons y u =>
            have hat := cd_at (l := a.l) (i := p.length) (x := x) (by rw [← hp]; simp)
            have hbt := cd_at (l := b.l) (i := p.length) (x := y) (by rw [← hq, hpq]; simp)
            rw [r20_Same_L1_succ]
            refine stT (decT (by rw [List.length_map]; omega)) (stO _ hat (stC rfl (stO _ rfl (stO _ rfl (stO _ rfl (stO _ rfl (stO _ rfl (stO _ rfl (stO _ rfl (stO _ rfl (stO _ hbt (stC rfl (stO _ rfl (stO _ rfl (stO _ rfl (stO _ rfl (stO _ rfl (stO _ rfl (stO _ rfl (stO _ rfl (stO _ (hs x (by rw [← hp]; simp) y (by rw [← hq]; simp)) (stO _ rfl ?_))))))))))))))))))))))
            rw [samesC]
            cases hxy : sameC x y with
            | false => exact stT rfl rfl
            | true =>
              refine stF rfl ?_
              rw [wrap64 (by omega) (by omega), show (p.length : Int) + 1 = ((p ++ [x]).length : Int) by simp]
              exact ih u (p ++ [x]) (q ++ [y]) (by rw [← hp]; simp) (by rw [← hq]; simp) (by simp [hpq]) k (by simp at hk; omega)
      exact Evt.imp2 e1 (Evt.and hs (Evt.ge (a.l.length + 1))) fun n x ⟨y, hn⟩ => stF (bneF h1) (stF (bneF h2) (stF (bneF h3) (stF rfl (stF (bneF (by rw [List.length_map, List.length_map]; omega)) (stO _ x (stO _ rfl (stF rfl (hh n y a.l b.l [] [] rfl rfl rfl n (by omega)))))))))
    · rw [decF h6] at e1 ⊢
      exact e1.mono fun n x => stF (bneF h1) (stF (bneF h2) (stF (bneF h3) (stF rfl (stF (bneF (by rw [List.length_map, List.length_map]; omega)) (stO _ x (stO _ rfl (stT rfl rfl)))))))
theorem equal_str_ret (an bn : Bool) (a b : List Bs) (ha : a.length ≤ 1000000000) : Ret lb F_slices_Equal_string [.list an (scv a), .list bn (scv b)] (.bool (decide (a = b))) := by
  refine .top rfl (.eq (fun n => by rw [slices_Equal_string_eq]) ?_)
  by_cases h' : a.length ≠ b.length
  · have hne : ¬ a = b := fun e => h' (by rw [e])
    rw [decF hne]
    exact .all fun n => stT (bneT (by rw [scv_len, scv_len]; omega)) rfl
  have h := Classical.byContradiction h'
  have hh : ∀ n t u p q, p ++ t = a → q ++ u = b → p.length = q.length → ∀ k, t.length < k → slices_Equal_string_L1 lb n k an (scv a) bn (scv b) (p.length : Int) = some (.bool (decide (t = u))) := by
    intro n t
    induction t with
    | nil =>
      intro u p q hp hq hpq k hk
      obtain ⟨k, rfl⟩ : ∃ j, k = j + 1 := ⟨k - 1, by simp at hk; omega⟩
      have hpl : p = a := by simpa using hp
      have hu : u = [] := by
        have : b.length = q.length + u.length := by rw [← hq]; simp
        rw [hpl] at hpq
        exact List.length_eq_zero_iff.1 (by omega)
      subst hu
      rw [slices_Equal_string_L1_succ]
      refine stF (decF (by rw [hpl, scv_len]; omega)) ?_
      rw [slices_Equal_string_J2_eq]
      rfl
    | cons x t ih =>
      intro u p q hp hq hpq k hk
      obtain ⟨k, rfl⟩ : ∃ j, k = j + 1 := ⟨k - 1, by simp at hk; omega⟩
      have hpl : a.length = p.length + (t.length + 1) := by rw [← hp]; simp
      have hql : b.length = q.length + u.length := by rw [← hq]; simp
      cases u with
      | nil => simp at hql; omega
      | cons y u =>
        have hat := txt_at (t := a) (i := p.length) (s := x) (by rw [← hp]; simp)
        have hbt := txt_at (t := b) (i := p.length) (s := y) (by rw [← hq, hpq]; simp)
        rw [slices_Equal_string_L1_succ]
        refine stT (decT (by rw [scv_len]; omega)) (stO _ hat (stC rfl (stO _ rfl (stO _ hbt (stC rfl (stO _ rfl (stO _ rfl (stO _ rfl ?_))))))))
        by_cases hxy : x = y
        · refine stF (by simp [hxy]) ?_
          rw [wrap64 (by omega) (by omega), show (p.length : Int) + 1 = ((p ++ [x]).length : Int) by simp]
          rw [ih u (p ++ [x]) (q ++ [y]) (by rw [← hp]; simp) (by rw [← hq]; simp) (by simp [hpq]) k (by simp at hk; omega)]
          rw [show decide (x :: t = y :: u) = decide (t = u) from decide_eq_decide.2 (by simp [hxy])]
        · exact stT (by simp [hxy]) (by rw [decF (by simp [hxy])])
  exact (Evt.ge (a.length + 1)).mono fun n hn => stF (bneF (by rw [scv_len, scv_len]; omega)) (hh n a b [] [] rfl rfl rfl n (by omega))
theorem equal_cond_ret (an bn : Bool) (a b : List Cd) (ha : a.length ≤ 1000000000) (hs : Evt fun n => ∀ x ∈ a, ∀ y ∈ b, C lb n F_cond_Same [cdv x, cdv y] = some (.bool (sameC x y))) :
    Ret lb F_slices_EqualFunc_api_Cond_api_Cond_api_Cond [.list an (a.map ccv), .list bn (b.map ccv), .fn F_cond_Same] (.bool (samesC a b)) := by
  refine .top rfl (.eq (fun n => by rw [slices_EqualFunc_api_Cond_api_Cond_api_Cond_cond_Same_eq]) ?_)
  by_cases h' : a.length ≠ b.length
  · have : samesC a b = false := eq_false_of_ne_true fun e => h' (samesC_len e)
    rw [this]
    exact .all fun n => stT (bneT (by rw [List.length_map, List.length_map]; omega)) rfl
  have h := Classical.byContradiction h'
  have hh : ∀ n, (∀ x ∈ a, ∀ y ∈ b, C lb n F_cond_Same [cdv x, cdv y] = some (.bool (sameC x y))) → ∀ t u p q, p ++ t = a → q ++ u = b → p.length = q.length → ∀ k, t.length < k → slices_EqualFunc_api_Cond_api_Cond_api_Cond_cond_Same_L1 lb n k an (a.map ccv) bn (b.map ccv) (p.length : Int) = some (.bool (samesC t u)) := by
    intro n hs t
    induction t with
    | nil =>
      intro u p q hp hq hpq k hk
      obtain ⟨k, rfl⟩ : ∃ j, k = j + 1 := ⟨k - 1, by simp at hk; omega⟩
      have hpl : p = a := by simpa using hp
      have hu : u = [] := by
        have : b.length = q.length + u.length := by rw [← hq]; simp
        rw [hpl] at hpq
        exact List.length_eq_zero_iff.1 (by omega)
      subst hu
      rw [slices_EqualFunc_api_Cond_api_Cond_api_Cond_cond_Same_L1_succ]
      refine stF (decF (by rw [hpl, List.length_map]; omega)) ?_
      rw [slices_EqualFunc_api_Cond_api_Cond_api_Cond_cond_Same_J2_eq, samesC]
      rfl
    | cons x t ih =>
      intro u p q hp hq hpq k hk
      obtain ⟨k, rfl⟩ : ∃ j, k = j + 1 := ⟨k - 1, by simp at hk; omega⟩
      have hpl : a.length = p.length + (t.length + 1) := by rw [← hp]; simp
      have hql : b.length = q.length + u.length := by rw [← hq]; simp
      cases u with
      | nil => simp at hql; omega
      | cons y u =>
        have hat := cd_at (l := a) (i := p.length) (x := x) (by rw [← hp]; simp)
        have hbt := cd_at (l := b) (i := p.length) (x := y) (by rw [← hq, hpq]; simp)
        rw [slices_EqualFunc_api_Cond_api_Cond_api_Cond_cond_Same_L1_succ]
        refine stT (decT (by rw [List.length_map]; omega)) (stO _ hat (stC rfl (stO _ rfl (stO _ rfl (stO _ rfl (stO _ rfl (stO _ rfl (stO _ rfl (stO _ rfl (stO _ rfl (stO _ hbt (stC rfl (stO _ rfl (stO _ rfl (stO _ rfl (stO _ rfl (stO _ rfl (stO _ rfl (stO _ rfl (stO _ rfl (stO _ (hs x (by rw [← hp]; simp) y (by rw [← hq]; simp)) (stO _ rfl ?_))))))))))))))))))))))
        rw [samesC]
        cases hxy : sameC x y with
        | false => exact stT rfl rfl
        | true =>
          refine stF rfl ?_
          rw [wrap64 (by omega) (by omega), show (p.length : Int) + 1 = ((p ++ [x]).length : Int) by simp]
          exact ih u (p ++ [x]) (q ++ [y]) (by rw [← hp]; simp) (by rw [← hq]; simp) (by simp [hpq]) k (by simp at hk; omega)
  exact Evt.imp2 hs (Evt.ge (a.length + 1)) fun n y hn => stF (bneF (by rw [List.length_map, List.length_map]; omega)) (hh n y a b [] [] rfl rfl rfl n (by omega))
theorem cond_Same_ret : ∀ a b : Cd, Mod a → Mod b → Ret lb F_cond_Same [cdv a, cdv b] (.bool (sameC a b)) := by
  refine cd_ret2 lb fun a b ha hb hs => .top rfl (.eq (fun n => by rw [cond_Same_eq]) ?_)
  have la := mod_l ha
  have ta := mod_t ha
  have e1 := equal_str_ret lb a.tn b.tn a.t b.t (by omega)
  have e2 := equal_cond_ret lb a.ln b.ln a.l b.l (by omega) hs
  rw [sameC_eq]
  by_cases h1 : a.k = b.k
  · rw [beqT h1]
    by_cases h2 : a.a = b.a
    · rw [beqT h2]
      by_cases h3 : a.b = b.b
      · rw [beqT h3]
        cases h4 : ((a.fr == b.fr) && ((a.to == b.to) && ((a.days == b.days) && true))) with
        | false => exact .all fun n => stT rfl (stT rfl (stT rfl (stF rfl rfl)))
        | true =>
          by_cases h6 : a.t = b.t
          · rw [decT h6] at e1 ⊢
            exact Evt.imp2 e1 e2 fun n x y => stT rfl (stT rfl (stT rfl (stT rfl (stO _ x (stO _ rfl (stT rfl (stO _ y rfl)))))))
          · rw [decF h6] at e1 ⊢
            exact e1.mono fun n x => stT rfl (stT rfl (stT rfl (stT rfl (stO _ x (stO _ rfl (stF rfl rfl))))))
      · rw [beqF h3]
        exact .all fun n => stT rfl (stT rfl (stF rfl rfl))
    · rw [beqF h2]
      exact .all fun n => stT rfl (stF rfl rfl)
  · rw [beqF h1]
    exact .all fun n => stF rfl rfl
end Go.Proofs
