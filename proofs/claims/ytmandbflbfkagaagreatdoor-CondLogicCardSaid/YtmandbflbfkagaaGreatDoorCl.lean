/- Chapter 20: CondLogic answers true on plain data; printed by mkcl.py. Conditions: as each says. -/
import Derived.Test.YtmandbflbfkagaaGreatDoorCj
import Derived.Test.YtmandbflbfkagaaGreatDoorHj
set_option linter.unusedVariables false
namespace Go.Proofs
open Go.Am
variable (lb : Nat)
/-- a condition of conditions -/
abbrev mkC (k : Int) (l : List Cd) : Cd := .mk k false l 0 0 0 0 0 true []
theorem fits_mk {k : Int} {l : List Cd} (hl : l.length ≤ 100) (h : ∀ x ∈ l, Fits x) : Fits (mkC k l) := (fits_eq _).2 ⟨by show l.length ≤ _; omega, h, by show (0 : Nat) ≤ _; omega, fun s hs => by cases hs⟩
theorem siz_one {k : Int} {x : Cd} (h0 : 0 ≤ sizC x) (h1 : sizC x ≤ 1000) : sizC (mkC k [x]) = 1 + sizC x := by
  rw [sizC_eq]
  show w64 (1 + sizC x) = _
  exact wrap64 (by omega) (by omega)
theorem lg_one {k : Int} {x : Cd} (hx : lgC x = false) (h0 : 0 ≤ sizC x) (h1 : sizC x ≤ 200) : lgC (mkC k [x]) = false := by
  rw [lgC_eq, siz_one h0 (by omega), if_neg (by omega)]
  show (if lgs [x] = true then true else decide (((0 : Nat) : Int) + txtLen [] > 400)) = false
  have : lgs [x] = false := by
    rw [lgs, hx]
    rfl
  rw [this]
  rfl
theorem hol_nt (t : Tp) (x : Cd) : holC t (mkC 4 [x]) = !holC t x := by
  rw [holC_eq]
  show (!(holC t x && true)) = _
  cases holC t x <;> rfl
theorem hol_and2 (t : Tp) (x y : Cd) : holC t (mkC 2 [x, y]) = (holC t x && holC t y) := by
  rw [holC_eq]
  show (holC t x && (holC t y && true)) = _
  cases holC t x <;> cases holC t y <;> rfl
theorem hol_or2 (t : Tp) (x y : Cd) : holC t (mkC 3 [x, y]) = (holC t x || holC t y) := by
  rw [holC_eq]
  show (holC t x || (holC t y || false)) = _
  cases holC t x <;> cases holC t y <;> rfl
theorem cdv_nt (x : Cd) : cdv (mkC 4 [x]) = .agg [CV.int .i64 4, CV.list false [[CV.int .i64 x.k, CV.list x.ln (x.l.map ccv), CV.int .i64 x.a, CV.int .i64 x.b, CV.int .i64 x.fr, CV.int .i64 x.to, CV.int .i64 x.days, CV.list x.tn (scv x.t)]], CV.int .i64 0, CV.int .i64 0, CV.int .i64 0, CV.int .i64 0, CV.int .i64 0, CV.list true []] := by
  show CV.agg [CV.int .i64 4, CV.list false [ccv x], CV.int .i64 0, CV.int .i64 0, CV.int .i64 0, CV.int .i64 0, CV.int .i64 0, CV.list true []] = _
  rw [ccv_eq]
theorem cdv_ntnt (x : Cd) : cdv (mkC 4 [mkC 4 [x]]) = .agg [CV.int .i64 4, CV.list false [[CV.int .i64 4, CV.list false [[CV.int .i64 x.k, CV.list x.ln (x.l.map ccv), CV.int .i64 x.a, CV.int .i64 x.b, CV.int .i64 x.fr, CV.int .i64 x.to, CV.int .i64 x.days, CV.list x.tn (scv x.t)]], CV.int .i64 0, CV.int .i64 0, CV.int .i64 0, CV.int .i64 0, CV.int .i64 0, CV.list true []]], CV.int .i64 0, CV.int .i64 0, CV.int .i64 0, CV.int .i64 0, CV.int .i64 0, CV.list true []] := by
  rw [cdv_nt]
  show CV.agg [CV.int .i64 4, CV.list false [[CV.int .i64 4, CV.list false [ccv x], CV.int .i64 0, CV.int .i64 0, CV.int .i64 0, CV.int .i64 0, CV.int .i64 0, CV.list true []]], CV.int .i64 0, CV.int .i64 0, CV.int .i64 0, CV.int .i64 0, CV.int .i64 0, CV.list true []] = _
  rw [ccv_eq]
theorem cdv_two (k : Int) (x y : Cd) : cdv (mkC k [x, y]) = .agg [CV.int .i64 k, CV.list false [[CV.int .i64 x.k, CV.list x.ln (x.l.map ccv), CV.int .i64 x.a, CV.int .i64 x.b, CV.int .i64 x.fr, CV.int .i64 x.to, CV.int .i64 x.days, CV.list x.tn (scv x.t)], [CV.int .i64 y.k, CV.list y.ln (y.l.map ccv), CV.int .i64 y.a, CV.int .i64 y.b, CV.int .i64 y.fr, CV.int .i64 y.to, CV.int .i64 y.days, CV.list y.tn (scv y.t)]], CV.int .i64 0, CV.int .i64 0, CV.int .i64 0, CV.int .i64 0, CV.int .i64 0, CV.list true []] := by
  show CV.agg [CV.int .i64 k, CV.list false [ccv x, ccv y], CV.int .i64 0, CV.int .i64 0, CV.int .i64 0, CV.int .i64 0, CV.int .i64 0, CV.list true []] = _
  rw [ccv_eq x, ccv_eq y]
theorem cdv_two_nt (k : Int) (x y : Cd) : cdv (mkC k [mkC 4 [x], mkC 4 [y]]) = .agg [CV.int .i64 k, CV.list false [[CV.int .i64 4, CV.list false [[CV.int .i64 x.k, CV.list x.ln (x.l.map ccv), CV.int .i64 x.a, CV.int .i64 x.b, CV.int .i64 x.fr, CV.int .i64 x.to, CV.int .i64 x.days, CV.list x.tn (scv x.t)]], CV.int .i64 0, CV.int .i64 0, CV.int .i64 0, CV.int .i64 0, CV.int .i64 0, CV.list true []], [CV.int .i64 4, CV.list false [[CV.int .i64 y.k, CV.list y.ln (y.l.map ccv), CV.int .i64 y.a, CV.int .i64 y.b, CV.int .i64 y.fr, CV.int .i64 y.to, CV.int .i64 y.days, CV.list y.tn (scv y.t)]], CV.int .i64 0, CV.int .i64 0, CV.int .i64 0, CV.int .i64 0, CV.int .i64 0, CV.list true []]], CV.int .i64 0, CV.int .i64 0, CV.int .i64 0, CV.int .i64 0, CV.int .i64 0, CV.list true []] := by
  show CV.agg [CV.int .i64 k, CV.list false [[CV.int .i64 4, CV.list false [ccv x], CV.int .i64 0, CV.int .i64 0, CV.int .i64 0, CV.int .i64 0, CV.int .i64 0, CV.list true []], [CV.int .i64 4, CV.list false [ccv y], CV.int .i64 0, CV.int .i64 0, CV.int .i64 0, CV.int .i64 0, CV.int .i64 0, CV.list true []]], CV.int .i64 0, CV.int .i64 0, CV.int .i64 0, CV.int .i64 0, CV.int .i64 0, CV.list true []] = _
  rw [ccv_eq x, ccv_eq y]
theorem logic_round (a b x : Cd) (t : Tp) (hx : Fits x) (i : Int) (hi : i < 2) (hat : atL [[CV.int .i64 a.k, CV.list a.ln (a.l.map ccv), CV.int .i64 a.a, CV.int .i64 a.b, CV.int .i64 a.fr, CV.int .i64 a.to, CV.int .i64 a.days, CV.list a.tn (scv a.t)], [CV.int .i64 b.k, CV.list b.ln (b.l.map ccv), CV.int .i64 b.a, CV.int .i64 b.b, CV.int .i64 b.fr, CV.int .i64 b.to, CV.int .i64 b.days, CV.list b.tn (scv b.t)]] i = some [CV.int .i64 x.k, CV.list x.ln (x.l.map ccv), CV.int .i64 x.a, CV.int .i64 x.b, CV.int .i64 x.fr, CV.int .i64 x.to, CV.int .i64 x.days, CV.list x.tn (scv x.t)]) :
    (Evt fun n => ∀ k b56 l57, l20_CondLogic_L1 (lb + 2) n (k + 1) a.k a.ln (a.l.map ccv) a.a a.b a.fr a.to a.days a.tn (scv a.t) b.k b.ln (b.l.map ccv) b.a b.b b.fr b.to b.days b.tn (scv b.t) t.ty t.sale t.day t.min t.stops t.tr t.cn (scv t.car) t.nn (ints t.nums) t.vn (scv t.vias) b56 l57 i = some (.bool true)) ∨
    (farT t = false ∧ Evt fun n => ∀ k b56 l57, l57.length ≤ 1 → l20_CondLogic_L1 (lb + 2) n (k + 1) a.k a.ln (a.l.map ccv) a.a a.b a.fr a.to a.days a.tn (scv a.t) b.k b.ln (b.l.map ccv) b.a b.b b.fr b.to b.days b.tn (scv b.t) t.ty t.sale t.day t.min t.stops t.tr t.cn (scv t.car) t.nn (ints t.nums) t.vn (scv t.vias) b56 l57 i = l20_CondLogic_L1 (lb + 2) n k a.k a.ln (a.l.map ccv) a.a a.b a.fr a.to a.days a.tn (scv a.t) b.k b.ln (b.l.map ccv) b.a b.b b.fr b.to b.days b.tn (scv b.t) t.ty t.sale t.day t.min t.stops t.tr t.cn (scv t.car) t.nn (ints t.nums) t.vn (scv t.vias) (b56 && false) (l57 ++ [[CV.int .i64 4, CV.list false [[CV.int .i64 x.k, CV.list x.ln (x.l.map ccv), CV.int .i64 x.a, CV.int .i64 x.b, CV.int .i64 x.fr, CV.int .i64 x.to, CV.int .i64 x.days, CV.list x.tn (scv x.t)]], CV.int .i64 0, CV.int .i64 0, CV.int .i64 0, CV.int .i64 0, CV.int .i64 0, CV.list true []]]) (IntKind.wrap .i64 (i + 1))) := by
  have k := knows20_ok lb
  have e1 := l20_large_ret (lb + 2) x hx
  have e2 := r20_Size_ret (lb + 2) x hx
  have e3 := l20_far_ret (lb + 2) t
  cases hl : lgC x with
  | true =>
    rw [hl] at e1
    exact .inl (Evt.imp2 e1 k fun n f1 kn k b56 l57 => (l20_CondLogic_L1_succ ..).trans (stT (decT hi) (stO _ hat (stC rfl (stO _ rfl (stO _ rfl (stO _ rfl (stO _ rfl (stO _ rfl (stO _ rfl (stO _ rfl (stO _ rfl (stO _ hat (stC rfl (stO _ rfl (stO _ rfl (stO _ rfl (stO _ rfl (stO _ rfl (stO _ rfl (stO _ rfl (stO _ rfl (stO _ f1 (stO _ rfl (stT rfl (stO _ kn rfl))))))))))))))))))))))))))
  | false =>
    rw [hl] at e1
    by_cases hs : sizC x > 50
    · exact .inl (Evt.imp2 (Evt.and e1 e2) k fun n ⟨f1, f2⟩ kn k b56 l57 => (l20_CondLogic_L1_succ ..).trans (stT (decT hi) (stO _ hat (stC rfl (stO _ rfl (stO _ rfl (stO _ rfl (stO _ rfl (stO _ rfl (stO _ rfl (stO _ rfl (stO _ rfl (stO _ hat (stC rfl (stO _ rfl (stO _ rfl (stO _ rfl (stO _ rfl (stO _ rfl (stO _ rfl (stO _ rfl (stO _ rfl (stO _ f1 (stO _ rfl (stF rfl (stO _ hat (stC rfl (stO _ rfl (stO _ rfl (stO _ rfl (stO _ rfl (stO _ rfl (stO _ rfl (stO _ rfl (stO _ rfl (stO _ f2 (stO _ (asI_i ..) (stT (decT hs) (stO _ kn rfl)))))))))))))))))))))))))))))))))))))))
    cases hf : farT t with
    | true =>
      rw [hf] at e3
      exact .inl (Evt.imp2 (Evt.and e1 e2) (Evt.and e3 k) fun n ⟨f1, f2⟩ ⟨f3, kn⟩ k b56 l57 => (l20_CondLogic_L1_succ ..).trans (stT (decT hi) (stO _ hat (stC rfl (stO _ rfl (stO _ rfl (stO _ rfl (stO _ rfl (stO _ rfl (stO _ rfl (stO _ rfl (stO _ rfl (stO _ hat (stC rfl (stO _ rfl (stO _ rfl (stO _ rfl (stO _ rfl (stO _ rfl (stO _ rfl (stO _ rfl (stO _ rfl (stO _ f1 (stO _ rfl (stF rfl (stO _ hat (stC rfl (stO _ rfl (stO _ rfl (stO _ rfl (stO _ rfl (stO _ rfl (stO _ rfl (stO _ rfl (stO _ rfl (stO _ f2 (stO _ (asI_i ..) (stF (decF hs) (stO _ f3 (stO _ rfl (stT rfl (stO _ kn rfl))))))))))))))))))))))))))))))))))))))))))
    | false =>
      rw [hf] at e3
      have hsz := small_size x hx hl
      have n0 : 0 ≤ sizC x := by omega
      have g1 : Fits (mkC 4 [x]) := fits_mk (by simp) (by simpa using hx)
      have g2 : Fits (mkC 4 [mkC 4 [x]]) := fits_mk (by simp) (by simpa using g1)
      have l1 : lgC (mkC 4 [x]) = false := lg_one hl n0 (by omega)
      have l2 : lgC (mkC 4 [mkC 4 [x]]) = false := lg_one l1 (by rw [siz_one n0 (by omega)]; omega) (by rw [siz_one n0 (by omega)]; omega)
      have e4 := r20_Check_ret (lb + 2) _ g2 l2
      rw [cdv_ntnt] at e4
      by_cases h0 : checkE (mkC 4 [mkC 4 [x]]) = 0
      · have ht := far_fits hf
        have e5 := cond_Holds_ret (lb + 2) t ht x hx
        have e6 := cond_Holds_ret (lb + 2) t ht _ g1
        have e7 := cond_Holds_ret (lb + 2) t ht _ g2
        rw [hol_nt, hol_nt] at e7
        rw [hol_nt] at e6
        rw [cdv_nt] at e6
        rw [cdv_ntnt] at e7
        exact .inr ⟨rfl, Evt.imp2 (Evt.and (Evt.and e1 e2) (Evt.and e3 e4)) (Evt.and e5 (Evt.and e6 e7)) fun n ⟨⟨f1, f2⟩, f3, f4⟩ ⟨f5, f6, f7⟩ k b56 l57 hlen => (l20_CondLogic_L1_succ ..).trans (stT (decT hi) (stO _ hat (stC rfl (stO _ rfl (stO _ rfl (stO _ rfl (stO _ rfl (stO _ rfl (stO _ rfl (stO _ rfl (stO _ rfl (stO _ hat (stC rfl (stO _ rfl (stO _ rfl (stO _ rfl (stO _ rfl (stO _ rfl (stO _ rfl (stO _ rfl (stO _ rfl (stO _ f1 (stO _ rfl (stF rfl (stO _ hat (stC rfl (stO _ rfl (stO _ rfl (stO _ rfl (stO _ rfl (stO _ rfl (stO _ rfl (stO _ rfl (stO _ rfl (stO _ f2 (stO _ (asI_i ..) (stF (decF hs) (stO _ f3 (stO _ rfl (stF rfl (stO _ f4 (stO _ (asI_i ..) (stF (bneF h0) (stC (room_ok (by omega)) (stO _ hat (stC rfl (stO _ rfl (stO _ rfl (stO _ rfl (stO _ rfl (stO _ rfl (stO _ rfl (stO _ rfl (stO _ rfl (stO _ f5 (stO _ f6 (stO _ rfl (stO _ rfl (stF (by simp) (stO _ hat (stC rfl (stO _ rfl (stO _ rfl (stO _ rfl (stO _ rfl (stO _ rfl (stO _ rfl (stO _ rfl (stO _ rfl (stO _ f5 (stO _ f7 (stO _ rfl (stO _ rfl (stF (by simp) rfl))))))))))))))))))))))))))))))))))))))))))))))))))))))))))))))))))))))))))⟩
      · exact .inl (Evt.imp2 (Evt.and e1 e2) (Evt.and (Evt.and e3 e4) k) fun n ⟨f1, f2⟩ ⟨⟨f3, f4⟩, kn⟩ k b56 l57 => (l20_CondLogic_L1_succ ..).trans (stT (decT hi) (stO _ hat (stC rfl (stO _ rfl (stO _ rfl (stO _ rfl (stO _ rfl (stO _ rfl (stO _ rfl (stO _ rfl (stO _ rfl (stO _ hat (stC rfl (stO _ rfl (stO _ rfl (stO _ rfl (stO _ rfl (stO _ rfl (stO _ rfl (stO _ rfl (stO _ rfl (stO _ f1 (stO _ rfl (stF rfl (stO _ hat (stC rfl (stO _ rfl (stO _ rfl (stO _ rfl (stO _ rfl (stO _ rfl (stO _ rfl (stO _ rfl (stO _ rfl (stO _ f2 (stO _ (asI_i ..) (stF (decF hs) (stO _ f3 (stO _ rfl (stF rfl (stO _ f4 (stO _ (asI_i ..) (stT (bneT h0) (stO _ kn rfl)))))))))))))))))))))))))))))))))))))))))))))
theorem condLogic_ret (a b : Cd) (t : Tp) (ha : Fits a) (hb : Fits b) : Ret (lb + 2) F_l20_CondLogic [cdv a, cdv b, tpv t] (.bool true) := by
  refine .top rfl (.eq (fun n => by rw [l20_CondLogic_eq]) ?_)
  have up : ∀ {P : Nat → Nat → Prop}, (Evt fun n => ∀ k, P n (k + 3)) → Evt fun n => P n n := fun {P} h => Evt.imp2 h (Evt.ge 3) fun n h hn => by
    have := h (n - 3)
    rwa [show n - 3 + 3 = n by omega] at this
  rcases logic_round lb a b a t ha 0 (by decide) rfl with h | ⟨hf, h⟩
  · exact up (P := fun n k => l20_CondLogic_L1 (lb + 2) n k a.k a.ln (a.l.map ccv) a.a a.b a.fr a.to a.days a.tn (scv a.t) b.k b.ln (b.l.map ccv) b.a b.b b.fr b.to b.days b.tn (scv b.t) t.ty t.sale t.day t.min t.stops t.tr t.cn (scv t.car) t.nn (ints t.nums) t.vn (scv t.vias) true [] 0 = some (.bool true)) (h.mono fun n h k => h (k + 2) _ _)
  have w1 : IntKind.wrap .i64 ((0 : Int) + 1) = 1 := wrap64 (by omega) (by omega)
  have w2 : IntKind.wrap .i64 ((1 : Int) + 1) = 2 := wrap64 (by omega) (by omega)
  rw [w1] at h
  rcases logic_round lb a b b t hb 1 (by decide) rfl with g | ⟨_, g⟩
  · exact up (P := fun n k => l20_CondLogic_L1 (lb + 2) n k a.k a.ln (a.l.map ccv) a.a a.b a.fr a.to a.days a.tn (scv a.t) b.k b.ln (b.l.map ccv) b.a b.b b.fr b.to b.days b.tn (scv b.t) t.ty t.sale t.day t.min t.stops t.tr t.cn (scv t.car) t.nn (ints t.nums) t.vn (scv t.vias) true [] 0 = some (.bool true)) (Evt.imp2 h g fun n h g k => (h (k + 2) _ _ (by simp)).trans (g (k + 1) _ _))
  rw [w2] at g
  have ht := far_fits hf
  have f2 : ∀ (k : Int) (x y : Cd), Fits x → Fits y → Fits (mkC k [x, y]) := fun k x y hx hy => fits_mk (by simp) (by intro z hz; rcases List.mem_cons.1 hz with rfl | hz; exact hx; obtain rfl := List.mem_singleton.1 hz; exact hy)
  have f4 : ∀ x : Cd, Fits x → Fits (mkC 4 [x]) := fun x hx => fits_mk (by simp) (by simpa using hx)
  have eA := cond_Holds_ret (lb + 2) t ht a ha
  have eB := cond_Holds_ret (lb + 2) t ht b hb
  have e1 := cond_Holds_ret (lb + 2) t ht _ (f2 2 a b ha hb)
  have e2 := cond_Holds_ret (lb + 2) t ht _ (f2 3 a b ha hb)
  have e3 := cond_Holds_ret (lb + 2) t ht _ (f2 2 _ _ (f4 a ha) (f4 b hb))
  have e4 := cond_Holds_ret (lb + 2) t ht _ (f2 3 _ _ (f4 a ha) (f4 b hb))
  rw [hol_and2, cdv_two] at e1
  rw [hol_or2, cdv_two] at e2
  rw [hol_and2, hol_nt, hol_nt, cdv_two_nt] at e3
  rw [hol_or2, hol_nt, hol_nt, cdv_two_nt] at e4
  refine up (P := fun n k => l20_CondLogic_L1 (lb + 2) n k a.k a.ln (a.l.map ccv) a.a a.b a.fr a.to a.days a.tn (scv a.t) b.k b.ln (b.l.map ccv) b.a b.b b.fr b.to b.days b.tn (scv b.t) t.ty t.sale t.day t.min t.stops t.tr t.cn (scv t.car) t.nn (ints t.nums) t.vn (scv t.vias) true [] 0 = some (.bool true)) (Evt.imp2 (Evt.and h g) (Evt.and (Evt.and eA eB) (Evt.and (Evt.and e1 e2) (Evt.and (Evt.and e3 e4) (knows20_ok lb)))) fun n ⟨h, g⟩ ⟨⟨pA, pB⟩, ⟨p1, p2⟩, ⟨p3, p4⟩, kn⟩ k => (h (k + 2) _ _ (by simp)).trans ((g (k + 1) _ _ (by simp)).trans ((l20_CondLogic_L1_succ ..).trans (stF rfl ((l20_CondLogic_J2_eq ..).trans ?_)))))
  refine stO _ p1 (stO _ pA (stO _ rfl ?_))
  cases hA : holC t a with
  | true =>
    rw [hA] at p1 p2 p3 p4
    refine stT rfl (stO _ pB (stO _ rfl (stO _ rfl (stT (by simp) (stO _ p1 (stO _ p4 (stO _ rfl (stO _ rfl (stT (by cases holC t b <;> rfl) (stO _ p2 (stO _ p3 (stO _ rfl (stO _ rfl (stT (by cases holC t b <;> rfl) (stO _ kn rfl)))))))))))))))
  | false =>
    rw [hA] at p1 p2 p3 p4
    refine stF rfl (stO _ rfl (stT rfl (stO _ p1 (stO _ p4 (stO _ rfl (stO _ rfl (stT (by cases holC t b <;> rfl) (stO _ p2 (stO _ p3 (stO _ rfl (stO _ rfl (stT (by cases holC t b <;> rfl) (stO _ kn rfl)))))))))))))
end Go.Proofs
