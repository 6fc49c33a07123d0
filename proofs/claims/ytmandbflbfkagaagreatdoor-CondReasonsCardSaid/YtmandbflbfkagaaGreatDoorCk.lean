/- Chapter 20: CondReasons answers true on plain data. Conditions: as each says. -/
import Derived.Test.YtmandbflbfkagaaGreatDoorCj
import Derived.Test.YtmandbflbfkagaaGreatDoorHi
set_option linter.unusedVariables false
namespace Go.Proofs
open Go.Am
variable (lb : Nat)
theorem whys_cons {t : Tp} : ∀ {l : List Cd} {j i : Int} {r : List Int}, whysC t j l = i :: r → ∃ p y u, l = p ++ y :: u ∧ i = j + (p.length : Int) ∧ (∀ z ∈ p, holC t z = true) ∧ holC t y = false ∧ whyC t y = r
  | [], j, i, r, h => by rw [whysC] at h; cases h
  | c :: l, j, i, r, h => by
    rw [whysC] at h
    split at h
    · rename_i hc
      obtain ⟨p, y, u, rfl, h1, h2, h3, h4⟩ := whys_cons h
      refine ⟨c :: p, y, u, rfl, by rw [h1, List.length_cons]; omega, fun z hz => ?_, h3, h4⟩
      rcases List.mem_cons.1 hz with rfl | hz
      · exact hc
      · exact h2 z hz
    · rename_i hc
      injection h with h1 h2
      subst h1; subst h2
      exact ⟨[], c, l, rfl, by simp, by simp, by simpa using hc, rfl⟩
theorem whys_nil {t : Tp} : ∀ {l : List Cd} {j : Int}, whysC t j l = [] → allH t l = true
  | [], j, h => by rw [allH]
  | c :: l, j, h => by
    rw [whysC] at h
    split at h
    · rename_i hc
      rw [allH, hc]
      have := whys_nil h
      rw [this]
      rfl
    · cases h
theorem not_and {t : Tp} {x : Cd} (hx : holC t x = false) (hr : whyC t x = []) : x.k ≠ 2 := fun hk => by
  rw [whyC_eq, if_pos hk] at hr
  rw [holC_eq, if_neg (by omega), if_pos hk, whys_nil hr] at hx
  cases hx
theorem reasons_loop (c : Cd) (t : Tp) (ht : TFits t) (nl : Bool) (l0 : List Int) (hl0 : l0.length ≤ 1000000) (r35 : CV) : ∀ x : Cd, Mod x → Evt fun n => holC t x = false → ∀ q r, q ++ r = l0 → whyC t x = r → ∀ k, r.length < k →
    l20_CondReasons_L1 (lb + 2) n k c.k c.ln (c.l.map ccv) c.a c.b c.fr c.to c.days c.tn (scv c.t) t.ty t.sale t.day t.min t.stops t.tr t.cn (scv t.car) t.nn (ints t.nums) t.vn (scv t.vias) (.list nl (ints l0)) (.bool true) r35 (q.length : Int) (.int .i64 x.k) (.list x.ln (x.l.map ccv)) (.int .i64 x.a) (.int .i64 x.b) (.int .i64 x.fr) (.int .i64 x.to) (.int .i64 x.days) (.list x.tn (scv x.t)) = some (.bool true) := by
  refine Cd.ind fun x ih hm => ?_
  have e0 := cond_Holds_ret (lb + 2) t ht x hm.1
  have e1 : Evt fun n => ∀ y ∈ x.l, C (lb + 2) n F_cond_Holds [cdv y, tpv t] = some (.bool (holC t y)) := Evt.fin _ fun y hy => cond_Holds_ret (lb + 2) t ht y (mod_sub x hm y hy).1
  have e2 := Evt.fin x.l fun y hy => ih y hy (mod_sub x hm y hy)
  have hxl := mod_l hm
  refine Evt.imp2 (Evt.and e0 e1) (Evt.and e2 (Evt.and (knows20_ok lb) (Evt.ge 400))) fun n ⟨a0, a1⟩ ⟨a2, kn, hn⟩ hx q r hq hr k hk => ?_
  obtain ⟨k, rfl⟩ : ∃ j, k = j + 1 := ⟨k - 1, by omega⟩
  have hql : l0.length = q.length + r.length := by rw [← hq]; simp
  rw [l20_CondReasons_L1_succ]
  cases r with
  | nil =>
    refine stO _ rfl (stF (decF (by rw [List.length_map, hql]; simp)) ?_)
    rw [l20_CondReasons_J5_eq]
    rw [hx] at a0
    exact stO _ rfl (stF rfl (stO _ (asI_i ..) (stT (bneT (not_and hx hr)) (stO _ a0 (stO _ rfl (stT rfl (stO _ kn rfl)))))))
  | cons i r =>
    have hk2 : x.k = 2 := by
      rw [whyC_eq] at hr
      split at hr
      · assumption
      · cases hr
    rw [whyC_eq, if_pos hk2] at hr
    obtain ⟨p, y, u, hxp, hi, hp, hy, hr'⟩ := whys_cons hr
    obtain rfl : i = (p.length : Int) := by omega
    have hat : atL (ints l0) (q.length : Int) = some [.int .i64 (p.length : Int)] := ints_at (by rw [← hq]; simp)
    have hyl : y ∈ x.l := by rw [hxp]; simp
    have hpl : x.l.length = p.length + (u.length + 1) := by rw [hxp]; simp
    rw [List.length_cons] at hk hql
    refine stO _ rfl (stT (decT (by rw [List.length_map]; omega)) (stO _ (asI_i ..) (stF (bneF hk2) (stO _ rfl (stO _ hat (stC rfl (stO _ rfl (stO _ (asI_i ..) (stF (decF (by omega)) (stO _ rfl (stO _ hat (stC rfl (stO _ rfl (stO _ rfl (stO _ (asI_i ..) (stF (decF (by rw [List.length_map]; omega)) ?_))))))))))))))))
    have inner : ∀ v w, w ++ v = p → ∀ k', v.length < k' → l20_CondReasons_L2 (lb + 2) n k' k c.k c.ln (c.l.map ccv) c.a c.b c.fr c.to c.days c.tn (scv c.t) t.ty t.sale t.day t.min t.stops t.tr t.cn (scv t.car) t.nn (ints t.nums) t.vn (scv t.vias) (.list nl (ints l0)) (.bool true) (q.length : Int) r35 (.int .i64 x.k) (.list x.ln (x.l.map ccv)) (.int .i64 x.a) (.int .i64 x.b) (.int .i64 x.fr) (.int .i64 x.to) (.int .i64 x.days) (.list x.tn (scv x.t)) (w.length : Int) = some (.bool true) := by
      intro v
      induction v with
      | nil =>
        intro w hw k' hk'
        obtain ⟨k', rfl⟩ : ∃ j, k' = j + 1 := ⟨k' - 1, by omega⟩
        obtain rfl : w = p := by simpa using hw
        have hyt := cd_at (l := x.l) (i := w.length) (x := y) (by rw [hxp]; simp)
        rw [l20_CondReasons_L2_succ]
        refine stO _ rfl (stO _ hat (stC rfl (stO _ rfl (stO _ (asI_i ..) (stF (decF (by omega)) ?_)))))
        rw [l20_CondReasons_J3_eq]
        refine stO _ rfl (stO _ hat (stC rfl (stO _ rfl (stO _ rfl (stO _ rfl (stO _ hyt (stC rfl (stO _ rfl (stO _ rfl (stO _ rfl (stO _ rfl (stO _ rfl (stO _ rfl (stO _ rfl (stO _ rfl ?_)))))))))))))))
        rw [l20_CondReasons_J4_eq, wrap64 (by omega) (by omega), show (q.length : Int) + 1 = ((q ++ [(w.length : Int)]).length : Int) by simp]
        exact a2 y hyl hy (q ++ [(w.length : Int)]) r (by rw [← hq]; simp) hr' k (by omega)
      | cons z v ihv =>
        intro w hw k' hk'
        obtain ⟨k', rfl⟩ : ∃ j, k' = j + 1 := ⟨k' - 1, by omega⟩
        have hwl : p.length = w.length + (v.length + 1) := by rw [← hw]; simp
        have hz : z ∈ p := by rw [← hw]; simp
        have hzt := cd_at (l := x.l) (i := w.length) (x := z) (by rw [hxp, ← hw]; simp)
        have az := a1 z (by rw [hxp]; simp [hz])
        rw [hp z hz] at az
        rw [l20_CondReasons_L2_succ]
        refine stO _ rfl (stO _ hat (stC rfl (stO _ rfl (stO _ (asI_i ..) (stT (decT (by omega)) (stO _ rfl (stO _ hzt (stC rfl (stO _ rfl (stO _ rfl (stO _ rfl (stO _ rfl (stO _ rfl (stO _ rfl (stO _ rfl (stO _ rfl (stO _ az (stO _ rfl (stF rfl ?_)))))))))))))))))))
        rw [wrap64 (by omega) (by omega), show (w.length : Int) + 1 = ((w ++ [z]).length : Int) by simp]
        exact ihv (w ++ [z]) (by rw [← hw]; simp) k' (by rw [List.length_cons] at hk'; omega)
    exact inner p [] rfl n (by omega)
theorem condReasons_ret (c : Cd) (t : Tp) (hc : Fits c) : Ret (lb + 2) F_l20_CondReasons [cdv c, tpv t] (.bool true) := by
  refine .top rfl (.eq (fun n => by rw [l20_CondReasons_eq]) ?_)
  have k := knows20_ok lb
  have e1 := l20_large_ret (lb + 2) c hc
  have e2 := l20_far_ret (lb + 2) t
  cases hl : lgC c with
  | true =>
    rw [hl] at e1
    exact Evt.imp2 e1 k fun n x y => stO _ x (stO _ rfl (stT rfl (stO _ y rfl)))
  | false =>
    rw [hl] at e1
    cases hf : farT t with
    | true =>
      rw [hf] at e2
      exact Evt.imp2 e1 (Evt.and e2 k) fun n x ⟨y, z⟩ => stO _ x (stO _ rfl (stF rfl (stO _ y (stO _ rfl (stT rfl (stO _ z rfl))))))
    | false =>
      rw [hf] at e2
      have e3 := r20_Check_ret (lb + 2) c hc hl
      by_cases h0 : checkE c = 0
      · have ht := far_fits hf
        have w1 := cond_Why_ret (lb + 2) t ht c ⟨hc, hl⟩
        have h1 := cond_Holds_ret (lb + 2) t ht c hc
        unfold whyV at w1
        cases hh : holC t c with
        | true =>
          rw [hh] at h1
          rw [hh, if_pos rfl] at w1
          refine Evt.imp2 (Evt.and e1 (Evt.and e2 k)) (Evt.and (Evt.and e3 (Evt.ge 1)) (Evt.and w1 h1)) fun n ⟨x, y, z⟩ ⟨⟨p0, hn⟩, p1, p2⟩ =>
            stO _ x (stO _ rfl (stF rfl (stO _ y (stO _ rfl (stF rfl (stO _ p0 (stO _ (asI_i ..) (stF (bneF h0) (stO _ p1 (stO _ rfl (stO _ rfl (stO _ rfl (stO _ rfl (stO _ p2 (stO _ rfl (stO _ rfl (stF rfl (stO _ rfl (stT rfl (stO _ rfl (stF rfl ?_)))))))))))))))))))))
          obtain ⟨m, hm⟩ : ∃ m, n = m + 1 := ⟨n - 1, by omega⟩
          have : ∀ k, k = m + 1 → l20_CondReasons_L1 (lb + 2) n k c.k c.ln (c.l.map ccv) c.a c.b c.fr c.to c.days c.tn (scv c.t) t.ty t.sale t.day t.min t.stops t.tr t.cn (scv t.car) t.nn (ints t.nums) t.vn (scv t.vias) (.list true []) (.bool false) (.tup [.list true [], .bool false]) 0 (.int .i64 c.k) (.list c.ln (c.l.map ccv)) (.int .i64 c.a) (.int .i64 c.b) (.int .i64 c.fr) (.int .i64 c.to) (.int .i64 c.days) (.list c.tn (scv c.t)) = some (.bool true) := by
            rintro k rfl
            rw [l20_CondReasons_L1_succ]
            refine stO _ rfl (stF rfl ?_)
            rw [l20_CondReasons_J5_eq]
            exact stO _ rfl (stT rfl (stO _ z rfl))
          exact this n hm
        | false =>
          rw [hh] at h1
          rw [hh, if_neg (by simp)] at w1
          have hw := whyC_len t c
          have hts := (small_size c hc hl).2
          have lo := reasons_loop lb c t ht (whyC t c).isEmpty (whyC t c) (by omega) (.tup [.list (whyC t c).isEmpty (ints (whyC t c)), .bool true]) c ⟨hc, hl⟩
          exact Evt.imp2 (Evt.and e1 (Evt.and e2 k)) (Evt.and (Evt.and e3 (Evt.and lo (Evt.ge 400))) (Evt.and w1 h1)) fun n ⟨x, y, z⟩ ⟨⟨p0, lo, hn⟩, p1, p2⟩ =>
            stO _ x (stO _ rfl (stF rfl (stO _ y (stO _ rfl (stF rfl (stO _ p0 (stO _ (asI_i ..) (stF (bneF h0) (stO _ p1 (stO _ rfl (stO _ rfl (stO _ rfl (stO _ rfl (stO _ p2 (stO _ rfl (stO _ rfl (stF rfl (stO _ rfl (stF rfl
              (lo hh [] (whyC t c) rfl rfl n (by omega)))))))))))))))))))))
      · exact Evt.imp2 (Evt.and e1 (Evt.and e2 k)) e3 fun n ⟨x, y, z⟩ p0 => stO _ x (stO _ rfl (stF rfl (stO _ y (stO _ rfl (stF rfl (stO _ p0 (stO _ (asI_i ..) (stT (bneT h0) (stO _ z rfl)))))))))
end Go.Proofs
