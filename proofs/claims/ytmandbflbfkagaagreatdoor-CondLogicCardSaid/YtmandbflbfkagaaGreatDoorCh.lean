/- Chapter 20 on plain data: Holds by the reference, and Why by both. Conditions: as each says. -/
import Derived.Test.YtmandbflbfkagaaGreatDoorCg
set_option linter.unusedVariables false
set_option linter.unusedSimpArgs false
namespace Go.Proofs
open Go.Am
variable (lb : Nat)
/-- a right condition -/
def Good (c : Cd) : Prop := Mod c ∧ parE c = 0
theorem parsE_0 : ∀ {l : List Cd}, parsE l = 0 → ∀ x ∈ l, parE x = 0
  | [], _, x, hx => by cases hx
  | c :: r, h, x, hx => by
    rw [parsE] at h
    split at h
    · rename_i q; exact absurd h q
    · rename_i q
      rcases List.mem_cons.1 hx with rfl | hx
      · exact Classical.byContradiction q
      · exact parsE_0 h x hx
theorem parE_0 {c : Cd} (h : parE c = 0) : partE c = 0 ∧ ∀ x ∈ c.l, parE x = 0 := by
  rw [parE_eq] at h
  split at h
  · rename_i q; exact absurd h q
  · rename_i q
    exact ⟨Classical.byContradiction q, parsE_0 h⟩
theorem good_sub : ∀ c : Cd, Good c → ∀ x ∈ c.l, Good x := fun c h x hx => ⟨mod_sub c h.1 x hx, (parE_0 h.2).2 x hx⟩
theorem partE_0 {c : Cd} (h : partE c = 0) : 1 ≤ c.k ∧ c.k ≤ 14 ∧ extraB c = false ∧ wrongB c = false := by
  unfold partE at h
  split at h
  · cases h
  split at h
  · cases h
  split at h
  · cases h
  · rename_i h1 h2 h3
    exact ⟨by omega, by omega, by simpa using h2, by simpa using h3⟩
theorem good_not {c : Cd} (h : Good c) (hk : c.k = 4) : c.l.length = 1 := by
  have := (partE_0 (parE_0 h.2).1).2.2.2
  unfold wrongB at this
  rw [if_neg (by omega), if_pos hk] at this
  simpa using this
theorem good_and {c : Cd} (h : Good c) (hk : c.k = 2 ∨ c.k = 3) : c.l.length ≠ 0 := by
  have := (partE_0 (parE_0 h.2).1).2.2.2
  unfold wrongB at this
  rw [if_pos hk] at this
  simpa using this
/-- how many hold -/
def cntH (t : Tp) : List Cd → Nat
  | [] => 0
  | c :: r => (if holC t c = true then 1 else 0) + cntH t r
theorem cntH_le (t : Tp) : ∀ l : List Cd, cntH t l ≤ l.length
  | [] => by simp [cntH]
  | c :: r => by
    have := cntH_le t r
    rw [cntH, List.length_cons]
    split <;> omega
theorem cntH_all (t : Tp) : ∀ l : List Cd, (cntH t l = l.length) ↔ allH t l = true
  | [] => by simp [cntH, allH]
  | c :: r => by
    have h1 := cntH_le t r
    have h2 := cntH_all t r
    rw [cntH, allH, List.length_cons, Bool.and_eq_true, ← h2]
    split <;> rename_i h <;> simp [h] <;> omega
theorem cntH_any (t : Tp) : ∀ l : List Cd, (0 < cntH t l) ↔ anyH t l = true
  | [] => by simp [cntH, anyH]
  | c :: r => by
    have h2 := cntH_any t r
    rw [cntH, anyH, Bool.or_eq_true, ← h2]
    split <;> rename_i h <;> simp [h] <;> omega
theorem r20_count_ret (an : Bool) (l : List Cd) (t : Tp) (hl : l.length ≤ 281474976710656) (hs : Evt fun n => ∀ x ∈ l, C lb n F_r20_Holds [cdv x, tpv t] = some (.bool (holC t x))) :
    Ret lb F_r20_count [.list an (l.map ccv), tpv t] (.int .i64 (cntH t l)) := by
  refine .top rfl (.eq (fun n => by rw [r20_count_eq]) ?_)
  have hh : ∀ n, (∀ x ∈ l, C lb n F_r20_Holds [cdv x, tpv t] = some (.bool (holC t x))) → ∀ u p, p ++ u = l → ∀ k, u.length < k → ∀ m : Nat, m ≤ p.length →
      r20_count_L1 lb n k an (l.map ccv) t.ty t.sale t.day t.min t.stops t.tr t.cn (scv t.car) t.nn (ints t.nums) t.vn (scv t.vias) (m : Int) (p.length : Int) = some (.int .i64 ((m + cntH t u : Nat) : Int)) := by
    intro n hs u
    induction u with
    | nil =>
      intro p hp k hk m hm
      obtain ⟨k, rfl⟩ : ∃ j, k = j + 1 := ⟨k - 1, by simp at hk; omega⟩
      have hpl : p = l := by simpa using hp
      rw [r20_count_L1_succ]
      refine stF (decF (by rw [hpl, List.length_map]; omega)) ?_
      rw [r20_count_J2_eq, cntH]
      rfl
    | cons x u ih =>
      intro p hp k hk m hm
      obtain ⟨k, rfl⟩ : ∃ j, k = j + 1 := ⟨k - 1, by simp at hk; omega⟩
      have hpl : l.length = p.length + (u.length + 1) := by rw [← hp]; simp
      have hat := cd_at (l := l) (i := p.length) (x := x) (by rw [← hp]; simp)
      rw [r20_count_L1_succ]
      refine stT (decT (by rw [List.length_map]; omega)) (stO _ hat (stC rfl (stO _ rfl (stO _ rfl (stO _ rfl (stO _ rfl (stO _ rfl (stO _ rfl (stO _ rfl (stO _ rfl (stO _ (hs x (by rw [← hp]; simp)) (stO _ rfl ?_))))))))))))
      rw [cntH, wrap64 (x := (p.length : Int) + 1) (by omega) (by omega), show (p.length : Int) + 1 = ((p ++ [x]).length : Int) by simp]
      cases hx : holC t x with
      | true =>
        refine stT rfl ?_
        rw [if_pos rfl, wrap64 (by omega) (by omega), show (m : Int) + 1 = ((m + 1 : Nat) : Int) by omega, ih (p ++ [x]) (by rw [← hp]; simp) k (by simp at hk; omega) (m + 1) (by simp; omega)]
        rw [show m + 1 + cntH t u = m + (1 + cntH t u) by omega]
      | false =>
        refine stF rfl ?_
        rw [if_neg (by simp), ih (p ++ [x]) (by rw [← hp]; simp) k (by simp at hk; omega) m (by simp; omega)]
        rw [show m + cntH t u = m + (0 + cntH t u) by omega]
  refine Evt.imp2 hs (Evt.ge (l.length + 1)) fun n a hn => ?_
  have := hh n a l [] rfl n (by omega) 0 (by omega)
  rw [Nat.zero_add] at this
  exact this
theorem r20_Holds_ret (t : Tp) (ht : TFits t) : ∀ c : Cd, Good c → Ret lb F_r20_Holds [cdv c, tpv t] (.bool (holC t c)) := by
  refine cd_rett lb good_sub fun c hg hs => .top rfl (.eq (fun n => by rw [r20_Holds_eq]) ?_)
  have hf := hg.1.1
  have hl := fits_len hf
  obtain ⟨f1, f2⟩ := fits_tlen hf
  obtain ⟨t1, t2, t3⟩ := ht
  obtain ⟨g1, g2, _, _⟩ := partE_0 (parE_0 hg.2).1
  have ec := r20_count_ret lb c.ln c.l t hl hs
  have hle := cntH_le t c.l
  rw [holC_eq]
  by_cases k1 : c.k = 1
  · rw [if_pos k1]
    exact .all fun n => stT (beqT k1) rfl
  rw [if_neg k1]
  by_cases k2 : c.k = 2
  · rw [if_pos k2]
    have e : (((cntH t c.l : Nat) : Int) == ((c.l.map ccv).length : Int)) = allH t c.l := by
      refine Bool.eq_iff_iff.2 ?_
      rw [beq_iff_eq, ← cntH_all, List.length_map]
      omega
    exact ec.mono fun n a => stF (beqF k1) (stT (beqT k2) (stO _ a (stO _ (asI_i ..) (by rw [e]))))
  rw [if_neg k2]
  by_cases k3 : c.k = 3
  · rw [if_pos k3]
    have e : decide (((cntH t c.l : Nat) : Int) > 0) = anyH t c.l := by
      refine Bool.eq_iff_iff.2 ?_
      rw [decide_eq_true_iff, ← cntH_any]
      omega
    exact ec.mono fun n a => stF (beqF k1) (stF (beqF k2) (stT (beqT k3) (stO _ a (stO _ (asI_i ..) (by rw [e])))))
  rw [if_neg k3]
  by_cases k4 : c.k = 4
  · rw [if_pos k4]
    have h1 := good_not hg k4
    have e : (((cntH t c.l : Nat) : Int) == 0) = !allH t c.l := by
      cases ha : allH t c.l with
      | true =>
        have := (cntH_all t c.l).2 ha
        exact beqF (by omega)
      | false =>
        have : ¬ cntH t c.l = c.l.length := fun e => by rw [(cntH_all t c.l).1 e] at ha; cases ha
        exact beqT (by omega)
    exact ec.mono fun n a => stF (beqF k1) (stF (beqF k2) (stF (beqF k3) (stT (beqT k4) (stO _ a (stO _ (asI_i ..) (by rw [e]))))))
  rw [if_neg k4]
  unfold leafH
  by_cases k5 : c.k = 5
  · rw [if_pos k5]
    exact (r04_Has_ret lb c.fr c.to c.days t.day).mono fun n a => stF (beqF k1) (stF (beqF k2) (stF (beqF k3) (stF (beqF k4) (stT (beqT k5) (stO _ a rfl)))))
  rw [if_neg k5]
  by_cases k6 : c.k = 6
  · rw [if_pos k6]
    exact (r04_Has_ret lb c.fr c.to c.days t.sale).mono fun n a => stF (beqF k1) (stF (beqF k2) (stF (beqF k3) (stF (beqF k4) (stF (beqF k5) (stT (beqT k6) (stO _ a rfl))))))
  rw [if_neg k6]
  by_cases k7 : c.k = 7
  · rw [if_pos k7]
    exact .all fun n => stF (beqF k1) (stF (beqF k2) (stF (beqF k3) (stF (beqF k4) (stF (beqF k5) (stF (beqF k6) (stT (beqT k7) rfl))))))
  rw [if_neg k7]
  by_cases k8 : c.k = 8
  · rw [if_pos k8]
    exact .all fun n => stF (beqF k1) (stF (beqF k2) (stF (beqF k3) (stF (beqF k4) (stF (beqF k5) (stF (beqF k6) (stF (beqF k7) (stT (beqT k8) (hour_eq _ _ _))))))))
  rw [if_neg k8]
  by_cases k9 : c.k = 9
  · rw [if_pos k9]
    exact .all fun n => stF (beqF k1) (stF (beqF k2) (stF (beqF k3) (stF (beqF k4) (stF (beqF k5) (stF (beqF k6) (stF (beqF k7) (stF (beqF k8) (stT (beqT k9) rfl))))))))
  rw [if_neg k9]
  by_cases k10 : c.k = 10
  · rw [if_pos k10]
    exact .all fun n => stF (beqF k1) (stF (beqF k2) (stF (beqF k3) (stF (beqF k4) (stF (beqF k5) (stF (beqF k6) (stF (beqF k7) (stF (beqF k8) (stF (beqF k9) (stT (beqT k10) rfl)))))))))
  rw [if_neg k10]
  by_cases k11 : c.k = 11
  · rw [if_pos k11]
    exact (r20_within_ret lb t.cn c.tn t.car c.t t1 f1).mono fun n a => stF (beqF k1) (stF (beqF k2) (stF (beqF k3) (stF (beqF k4) (stF (beqF k5) (stF (beqF k6) (stF (beqF k7) (stF (beqF k8) (stF (beqF k9) (stF (beqF k10) (stT (beqT k11) (stO _ a rfl)))))))))))
  rw [if_neg k11]
  by_cases k12 : c.k = 12
  · rw [if_pos k12]
    exact (r20_between_ret lb t.nn t.nums c.a c.b t2).mono fun n a => stF (beqF k1) (stF (beqF k2) (stF (beqF k3) (stF (beqF k4) (stF (beqF k5) (stF (beqF k6) (stF (beqF k7) (stF (beqF k8) (stF (beqF k9) (stF (beqF k10) (stF (beqF k11) (stT (beqT k12) (stO _ a rfl))))))))))))
  rw [if_neg k12]
  by_cases k13 : c.k = 13
  · rw [if_pos k13]
    exact (r20_within_ret lb t.vn c.tn t.vias c.t t3 f1).mono fun n a => stF (beqF k1) (stF (beqF k2) (stF (beqF k3) (stF (beqF k4) (stF (beqF k5) (stF (beqF k6) (stF (beqF k7) (stF (beqF k8) (stF (beqF k9) (stF (beqF k10) (stF (beqF k11) (stF (beqF k12) (stT (beqT k13) (stO _ a rfl)))))))))))))
  rw [if_neg k13]
  by_cases k14 : c.k = 14
  · rw [if_pos k14]
    exact (r20_has_ret lb c.tn c.t t.ty f1).mono fun n a => stF (beqF k1) (stF (beqF k2) (stF (beqF k3) (stF (beqF k4) (stF (beqF k5) (stF (beqF k6) (stF (beqF k7) (stF (beqF k8) (stF (beqF k9) (stF (beqF k10) (stF (beqF k11) (stF (beqF k12) (stF (beqF k13) (stO _ a rfl)))))))))))))
  omega
/-! Why -/
mutual
def whyC (t : Tp) : Cd → List Int
  | .mk k ln l a b fr to days tn tx => if k = 2 then whysC t 0 l else []
def whysC (t : Tp) : Int → List Cd → List Int
  | _, [] => []
  | i, c :: r => if holC t c = true then whysC t (i + 1) r else i :: whyC t c
end
theorem whyC_eq (t : Tp) (c : Cd) : whyC t c = if c.k = 2 then whysC t 0 c.l else [] := by cases c; rw [whyC]; rfl
theorem whyC_len (t : Tp) : ∀ c : Cd, (whyC t c).length ≤ tsz c := by
  refine Cd.ind fun c ih => ?_
  have : ∀ (l : List Cd) (i : Int), (∀ x ∈ l, (whyC t x).length ≤ tsz x) → (whysC t i l).length ≤ 1 + tszs l := by
    intro l
    induction l with
    | nil => intro i _; rw [whysC]; simp
    | cons x l ihl =>
      intro i h
      rw [whysC, tszs]
      split
      · have := ihl (i + 1) fun y hy => h y (by simp [hy])
        omega
      · have := h x (by simp)
        rw [List.length_cons]
        omega
  rw [whyC_eq, tsz_eq]
  split
  · exact this c.l 0 ih
  · simp
def whyV (t : Tp) (c : Cd) : CV := if holC t c = true then .tup [.list true [], .bool false] else .tup [.list (whyC t c).isEmpty (ints (whyC t c)), .bool true]
theorem all_one_ints (l : List Int) : (ints l).all (·.length == 1) = true := by simp
theorem cond_Why_ret (t : Tp) (ht : TFits t) : ∀ c : Cd, Mod c → Ret lb F_cond_Why [cdv c, tpv t] (whyV t c) := by
  refine cd_rett lb mod_sub fun c hm hs => .top rfl (.eq (fun n => by rw [cond_Why_eq]) ?_)
  have hl := mod_l hm
  have e0 := cond_Holds_ret lb t ht c hm.1
  have e1 : Evt fun n => ∀ x ∈ c.l, C lb n F_cond_Holds [cdv x, tpv t] = some (.bool (holC t x)) := Evt.fin _ fun x hx => cond_Holds_ret lb t ht x (mod_sub c hm x hx).1
  unfold whyV
  cases hh : holC t c with
  | true =>
    rw [hh] at e0
    rw [if_pos rfl]
    exact e0.mono fun n a => stO _ a (stO _ rfl (stT rfl rfl))
  | false =>
    rw [hh] at e0
    rw [if_neg (by simp), whyC_eq]
    by_cases k2' : c.k ≠ 2
    · rw [if_neg k2']
      exact e0.mono fun n a => stO _ a (stO _ rfl (stF rfl (stT (bneT k2') rfl)))
    have k2 := Classical.byContradiction k2'
    rw [if_pos k2]
    have hh : ∀ n, (∀ x ∈ c.l, C lb n F_cond_Holds [cdv x, tpv t] = some (.bool (holC t x))) → (∀ x ∈ c.l, C lb n F_cond_Why [cdv x, tpv t] = some (whyV t x)) → ∀ u p, p ++ u = c.l → ∀ k, u.length < k →
        cond_Why_L1 lb n k c.k c.ln (c.l.map ccv) c.a c.b c.fr c.to c.days c.tn (scv c.t) t.ty t.sale t.day t.min t.stops t.tr t.cn (scv t.car) t.nn (ints t.nums) t.vn (scv t.vias) (p.length : Int) = some (.tup [.list (whysC t (p.length : Int) u).isEmpty (ints (whysC t (p.length : Int) u)), .bool true]) := by
      intro n a1 a2 u
      induction u with
      | nil =>
        intro p hp k hk
        obtain ⟨k, rfl⟩ : ∃ j, k = j + 1 := ⟨k - 1, by simp at hk; omega⟩
        have hpl : p = c.l := by simpa using hp
        rw [cond_Why_L1_succ]
        refine stF (decF (by rw [hpl, List.length_map]; omega)) ?_
        rw [cond_Why_J2_eq, whysC]
        rfl
      | cons x u ih =>
        intro p hp k hk
        obtain ⟨k, rfl⟩ : ∃ j, k = j + 1 := ⟨k - 1, by simp at hk; omega⟩
        have hpl : c.l.length = p.length + (u.length + 1) := by rw [← hp]; simp
        have hx : x ∈ c.l := by rw [← hp]; simp
        have hat := cd_at (l := c.l) (i := p.length) (x := x) (by rw [← hp]; simp)
        rw [cond_Why_L1_succ]
        refine stT (decT (by rw [List.length_map]; omega)) (stO _ hat (stC rfl (stO _ rfl (stO _ rfl (stO _ rfl (stO _ rfl (stO _ rfl (stO _ rfl (stO _ rfl (stO _ rfl (stO _ (a1 x hx) (stO _ rfl ?_))))))))))))
        rw [whysC]
        have a3 := a2 x hx
        unfold whyV at a3
        cases hxx : holC t x with
        | true =>
          refine stF rfl ?_
          rw [if_pos rfl, wrap64 (by omega) (by omega), show (p.length : Int) + 1 = ((p ++ [x]).length : Int) by simp]
          exact ih (p ++ [x]) (by rw [← hp]; simp) k (by simp at hk; omega)
        | false =>
          rw [hxx, if_neg (by simp)] at a3
          have hw := whyC_len t x
          have hts := (small_size x (mod_sub c hm x hx).1 (mod_sub c hm x hx).2).2
          rw [if_neg (by simp)]
          exact stT rfl (stF (decF (by omega)) (stO _ hat (stC rfl (stO _ rfl (stO _ rfl (stO _ rfl (stO _ rfl (stO _ rfl (stO _ rfl (stO _ rfl (stO _ rfl (stO _ a3 (stO _ rfl (stO _ rfl (stO _ rfl (stO _ rfl (stO _ rfl (stC (all_one_ints _) (stC (room_ok (by rw [List.length_map]; omega)) rfl)))))))))))))))))))
    exact Evt.imp2 (Evt.and e0 e1) (Evt.and hs (Evt.ge (c.l.length + 1))) fun n ⟨a, b⟩ ⟨d, hn⟩ => stO _ a (stO _ rfl (stF rfl (stF (bneF k2) (hh n b d c.l [] rfl n (by omega)))))
theorem r20_Why_ret (t : Tp) (ht : TFits t) : ∀ c : Cd, Good c → Ret lb F_r20_Why [cdv c, tpv t] (whyV t c) := by
  refine cd_rett lb good_sub fun c hg hs => .top rfl (.eq (fun n => by rw [r20_Why_eq]) ?_)
  have hm := hg.1
  have hl := mod_l hm
  have e0 := r20_Holds_ret lb t ht c hg
  unfold whyV
  cases hh : holC t c with
  | true =>
    rw [hh] at e0
    rw [if_pos rfl]
    exact e0.mono fun n a => stO _ a (stO _ rfl (stT rfl rfl))
  | false =>
    rw [hh] at e0
    rw [if_neg (by simp), whyC_eq]
    by_cases k2 : c.k = 2
    · rw [if_pos k2]
      have hh : ∀ n, (∀ x ∈ c.l, C lb n F_r20_Why [cdv x, tpv t] = some (whyV t x)) → ∀ u p, p ++ u = c.l → ∀ k, u.length < k →
          r20_Why_L1 lb n k c.k c.ln (c.l.map ccv) c.a c.b c.fr c.to c.days c.tn (scv c.t) t.ty t.sale t.day t.min t.stops t.tr t.cn (scv t.car) t.nn (ints t.nums) t.vn (scv t.vias) (p.length : Int) = some (.tup [.list (whysC t (p.length : Int) u).isEmpty (ints (whysC t (p.length : Int) u)), .bool true]) := by
        intro n a2 u
        induction u with
        | nil =>
          intro p hp k hk
          obtain ⟨k, rfl⟩ : ∃ j, k = j + 1 := ⟨k - 1, by simp at hk; omega⟩
          have hpl : p = c.l := by simpa using hp
          rw [r20_Why_L1_succ]
          refine stT (beqT k2) (stF (decF (by rw [hpl, List.length_map]; omega)) ?_)
          rw [r20_Why_J2_eq, whysC]
          rfl
        | cons x u ih =>
          intro p hp k hk
          obtain ⟨k, rfl⟩ : ∃ j, k = j + 1 := ⟨k - 1, by simp at hk; omega⟩
          have hpl : c.l.length = p.length + (u.length + 1) := by rw [← hp]; simp
          have hx : x ∈ c.l := by rw [← hp]; simp
          have hat := cd_at (l := c.l) (i := p.length) (x := x) (by rw [← hp]; simp)
          have a3 := a2 x hx
          unfold whyV at a3
          rw [r20_Why_L1_succ]
          rw [whysC]
          cases hxx : holC t x with
          | true =>
            rw [hxx, if_pos rfl] at a3
            refine stT (beqT k2) (stT (decT (by rw [List.length_map]; omega)) (stO _ hat (stC rfl (stO _ rfl (stO _ rfl (stO _ rfl (stO _ rfl (stO _ rfl (stO _ rfl (stO _ rfl (stO _ rfl (stO _ a3 (stO _ rfl (stO _ rfl (stO _ rfl (stO _ rfl (stO _ rfl (stF rfl ?_))))))))))))))))))
            rw [if_pos rfl, wrap64 (by omega) (by omega), show (p.length : Int) + 1 = ((p ++ [x]).length : Int) by simp]
            exact ih (p ++ [x]) (by rw [← hp]; simp) k (by simp at hk; omega)
          | false =>
            rw [hxx, if_neg (by simp)] at a3
            have hw := whyC_len t x
            have hts := (small_size x (mod_sub c hm x hx).1 (mod_sub c hm x hx).2).2
            rw [if_neg (by simp)]
            exact stT (beqT k2) (stT (decT (by rw [List.length_map]; omega)) (stO _ hat (stC rfl (stO _ rfl (stO _ rfl (stO _ rfl (stO _ rfl (stO _ rfl (stO _ rfl (stO _ rfl (stO _ rfl (stO _ a3 (stO _ rfl (stO _ rfl (stO _ rfl (stO _ rfl (stO _ rfl (stT rfl (stO _ rfl (stC (all_one_ints _) (stC (room_ok (by rw [List.length_map]; omega)) rfl)))))))))))))))))))))
      exact Evt.imp2 e0 (Evt.and hs (Evt.ge (c.l.length + 1))) fun n a ⟨d, hn⟩ => stO _ a (stO _ rfl (stF rfl (hh n d c.l [] rfl n (by omega))))
    · rw [if_neg k2]
      refine Evt.imp2 e0 (Evt.ge 1) fun n a hn => stO _ a (stO _ rfl (stF rfl ?_))
      obtain ⟨k, hk⟩ : ∃ j, n = j + 1 := ⟨n - 1, by omega⟩
      have : r20_Why_L1 lb n n c.k c.ln (c.l.map ccv) c.a c.b c.fr c.to c.days c.tn (scv c.t) t.ty t.sale t.day t.min t.stops t.tr t.cn (scv t.car) t.nn (ints t.nums) t.vn (scv t.vias) 0 = r20_Why_L1 lb n (k + 1) c.k c.ln (c.l.map ccv) c.a c.b c.fr c.to c.days c.tn (scv c.t) t.ty t.sale t.day t.min t.stops t.tr t.cn (scv t.car) t.nn (ints t.nums) t.vn (scv t.vias) 0 := by rw [← hk]
      rw [this, r20_Why_L1_succ]
      refine stF (beqF k2) ?_
      rw [r20_Why_J2_eq]
      rfl
/-! lists of numbers -/
theorem r17_Same_ret (an bn : Bool) (a b : List Int) (ha : a.length ≤ 1000000000) : Ret lb F_r17_Same [.list an (ints a), .list bn (ints b)] (.bool (decide (a = b))) := by
  refine .top rfl (.eq (fun n => by rw [r17_Same_eq]) ?_)
  by_cases h' : a.length ≠ b.length
  · have hne : ¬ a = b := fun e => h' (by rw [e])
    rw [decF hne]
    exact .all fun n => stT (bneT (by rw [List.length_map, List.length_map]; omega)) rfl
  have h := Classical.byContradiction h'
  have hh : ∀ n t u p q, p ++ t = a → q ++ u = b → p.length = q.length → ∀ k, t.length < k → r17_Same_L1 lb n k an (ints a) bn (ints b) (p.length : Int) = some (.bool (decide (t = u))) := by
    intro n t
    induction t with
    | nil =>
      intro u p q hp hq hpq k hk
      obtain ⟨k, rfl⟩ : ∃ j, k = j + 1 := ⟨k - 1, by simp at hk; omega⟩
      have hpl : p = a := by simpa using hp
      have hu : u = [] := by
        have : b.length = q.length + u.length := by rw [← hq]; simp
        rw [hpl] at hpq
        exact List.length_eq_zero_iff.1 (by omega)
      subst hu
      rw [r17_Same_L1_succ]
      refine stF (decF (by rw [hpl, List.length_map]; omega)) ?_
      rw [r17_Same_J2_eq]
      rfl
    | cons x t ih =>
      intro u p q hp hq hpq k hk
      obtain ⟨k, rfl⟩ : ∃ j, k = j + 1 := ⟨k - 1, by simp at hk; omega⟩
      have hpl : a.length = p.length + (t.length + 1) := by rw [← hp]; simp
      have hql : b.length = q.length + u.length := by rw [← hq]; simp
      cases u with
      | nil => simp at hql; omega
      | cons y u =>
        have hat := ints_at (l := a) (i := p.length) (z := x) (by rw [← hp]; simp)
        have hbt := ints_at (l := b) (i := p.length) (z := y) (by rw [← hq, hpq]; simp)
        rw [r17_Same_L1_succ]
        refine stT (decT (by rw [List.length_map]; omega)) (stO _ hat (stC rfl (stO _ rfl (stO _ hbt (stC rfl (stO _ rfl (stO _ (asI_i ..) (stO _ (asI_i ..) ?_))))))))
        by_cases hxy : x = y
        · refine stF (bneF hxy) ?_
          rw [wrap64 (by omega) (by omega), show (p.length : Int) + 1 = ((p ++ [x]).length : Int) by simp]
          rw [ih u (p ++ [x]) (q ++ [y]) (by rw [← hp]; simp) (by rw [← hq]; simp) (by simp [hpq]) k (by simp at hk; omega)]
          rw [show decide (x :: t = y :: u) = decide (t = u) from decide_eq_decide.2 (by simp [hxy])]
        · exact stT (bneT hxy) (by rw [decF (by simp [hxy])])
  exact (Evt.ge (a.length + 1)).mono fun n hn => stF (bneF (by rw [List.length_map, List.length_map]; omega)) (hh n a b [] [] rfl rfl rfl n (by omega))
end Go.Proofs
