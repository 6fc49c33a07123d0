/- Chapter 7: the laws FlightOrder and FlightSames on plain data. Conditions: as each says. -/
import Derived.Test.YtifjdkimbamdkaaDoorKi
import Derived.Test.YtifjdkimbamdkaaDoorGd
import Derived.Test.YtifjdkimbamdkaaDoorW07
set_option linter.unusedSimpArgs false
set_option linter.unusedVariables false
namespace Go.Proofs
open Go.Am
variable (lb : Bool)
def ArgP (p : Pc) : Prop := p.aps.length ≤ 281474976710656 ∧ p.dis.length ≤ 281474976710656 ∧ ∀ a ∈ p.aps, a.code.length ≤ 281474976710656 ∧ a.city.length ≤ 281474976710656 ∧ a.ctry.length ≤ 281474976710656
def ArgF (f : Fl) : Prop := f.car.length ≤ 281474976710656 ∧ f.legs.length ≤ 281474976710656 ∧ ∀ x ∈ f.legs, lgLen x ≤ 1000000000000000
theorem big_ret (p : Pc) (f : Fl) (hp : ArgP p) (hf : ArgF f) : Ret lb F_r07_Big [pcv p, flcv f] (.bool (bigB p f)) := r07_Big_ret lb p f hf.1 hf.2.2 hf.2.1 hp.1 hp.2.1
theorem lst_pos (F : List Ft) : decide (((F.map ftenc).length : Int) > 0) = !F.isEmpty := by cases F with
  | nil => rfl
  | cons e F => exact decT (by simp)
theorem upto_has {fr days d : Int} (h : onF days d = true) : ∀ {k : Nat}, fr ≤ d → d < fr + k → d ∈ upto fr days k
  | 0, h1, h2 => by omega
  | k + 1, h1, h2 => by
    simp only [upto, List.mem_append]
    by_cases e : d = fr + k
    · subst e; rw [if_pos h]; exact .inr (by simp)
    · exact .inl (upto_has h h1 (by omega))
theorem daysF_has {fr to days d : Int} (h : hasF fr to days d = true) : d ∈ daysF fr to days := by
  unfold hasF at h
  simp only [Bool.and_eq_true, decide_eq_true_eq] at h
  obtain ⟨h0, h1, h2, h3⟩ := h
  unfold daysF
  rw [if_pos h0]
  exact upto_has h3 h1 (by omega)
theorem dayFt_nil {p : Pc} {l : List Lg} : ∀ {D : List Int}, dayFt p l D = [] → ∀ d ∈ D, ordF p l d = true
  | d :: D, h, e, he => by
    unfold dayFt at h
    split at h
    · rcases List.mem_cons.1 he with rfl | he
      · assumption
      · exact dayFt_nil h e he
    · cases h
theorem checkF_nil {p : Pc} {f : Fl} (h : checkF p f = []) : f.legs.length ≤ 6 ∧ 1 ≤ f.legs.length ∧ headG f = [] ∧ legsFt p [] f.legs = [] ∧ ∀ d, hasF f.fr f.to f.days d = true → ordF p f.legs d = true := by
  unfold checkF at h
  split at h
  · rename_i hl
    exfalso
    unfold headF at h
    rw [if_pos (by rw [Bool.or_eq_true, decide_eq_true_eq, decide_eq_true_eq]; omega)] at h
    simp at h
  · rename_i hl
    split at h
    · rename_i h2
      obtain ⟨a, b⟩ := List.append_eq_nil_iff.1 h2
      exact ⟨by omega, by omega, a, b, fun d hd => dayFt_nil h d (daysF_has hd)⟩
    · rename_i h2
      exact absurd h h2
theorem legsFt_nil {p : Pc} : ∀ {t r : List Lg}, legsFt p r t = [] → ∀ q x s, q ++ x :: s = t → legE p (r ++ q) x = []
  | y :: t, r, h, q, x, s, hq => by
    simp only [legsFt] at h
    obtain ⟨h1, h2⟩ := List.append_eq_nil_iff.1 h
    cases q with
    | nil =>
      simp only [List.nil_append, List.cons.injEq] at hq
      obtain ⟨rfl, rfl⟩ := hq
      simpa using h1
    | cons z q =>
      simp only [List.cons_append, List.cons.injEq] at hq
      obtain ⟨rfl, hq⟩ := hq
      have := legsFt_nil h2 q x s hq
      simpa using this
  | [], r, h, q, x, s, hq => by simp at hq
theorem legE_nil {p : Pc} {q : List Lg} {x : Lg} (h : legE p q x = []) : codeB x.eq 3 3 = true ∧ (knownB p x.fro = true ∧ knownB p x.to = true) ∧ brk q x = false ∧ okM x.dep = true ∧ okM x.arr = true := by
  unfold legE at h
  obtain ⟨h, h4⟩ := List.append_eq_nil_iff.1 h
  obtain ⟨h, h3⟩ := List.append_eq_nil_iff.1 h
  obtain ⟨h1, h2⟩ := List.append_eq_nil_iff.1 h
  refine ⟨?_, ?_, ?_, ?_⟩
  · cases e : codeB x.eq 3 3 with
    | true => rfl
    | false => rw [e] at h1; cases h1
  · cases e : knownB p x.fro <;> cases e2 : knownB p x.to <;> rw [e, e2] at h2 <;> first | exact ⟨rfl, rfl⟩ | cases h2
  · cases e : brk q x with
    | false => rfl
    | true => rw [e] at h3; cases h3
  · cases e : okM x.dep <;> cases e2 : okM x.arr <;> rw [e, e2] at h4 <;> first | exact ⟨rfl, rfl⟩ | cases h4

/-! FlightOrder -/
theorem fo_loop (p : Pc) (f : Fl) (day : Int) (l : List Dt) (hl : l.length ≤ 1000) (hc : ∀ q x t y, q ++ x :: t = l → q.getLast? = some y → x.fro = y.to) (x28 r24 : CV) (hJ : Evt fun n => l07_FlightOrder_J2 lb n p.an (p.aps.map apcv) p.dn (p.dis.map dicv) f.car f.num f.fr f.to f.days f.ln (f.legs.map lgcv) day (.list false (l.map dtcv)) x28 r24 (l.length : Int) = some (.bool true))
    (ho : ordG true 0 (l.map fun x => (x.dep, x.arr)) = true) : Evt fun n => l07_FlightOrder_L1 lb n n p.an (p.aps.map apcv) p.dn (p.dis.map dicv) f.car f.num f.fr f.to f.days f.ln (f.legs.map lgcv) day (.list false (l.map dtcv)) x28 r24 0 = some (.bool true) := by
  have key := loopL (enc := dtcv) (l := l) (by omega) (P := fun q t n k => ordG q.isEmpty ((q.getLast?.map (·.arr)).getD 0) (t.map fun x => (x.dep, x.arr)) = true → l07_FlightOrder_L1 lb n k p.an (p.aps.map apcv) p.dn (p.dis.map dicv) f.car f.num f.fr f.to f.days f.ln (f.legs.map lgcv) day (.list false (l.map dtcv)) x28 r24 (q.length : Int) = some (.bool true)) (by
    refine hJ.mono fun n hn k _ => ?_
    rw [l07_FlightOrder_L1_succ]
    exact stO _ rfl (stF (decF (by simp)) hn)) (by
    intro q x t hq hlt hat hw hev
    refine hev.mono fun n hn k hk hg => ?_
    have hn := hn k hk
    have hll : l.length = q.length + (t.length + 1) := by rw [← hq]; simp
    rw [List.getLast?_append, show (q ++ [x]).isEmpty = false by simp] at hn
    simp only [List.getLast?_singleton, Option.some_or, Option.map_some, Option.getD_some] at hn
    rw [l07_FlightOrder_L1_succ]
    refine stO _ rfl (stT (decT hlt) (stO _ rfl (stO _ hat (stC rfl (stO _ rfl (stO _ rfl (stO _ hat (stC rfl (stO _ rfl (stO _ rfl (stO _ rfl ?_)))))))))))
    obtain ⟨b0, hb0⟩ : ∃ b, ((q.getLast?.map (·.arr)).getD 0) = b := ⟨_, rfl⟩
    rw [hb0] at hg
    simp only [List.map_cons, ordG] at hg
    by_cases h : x.dep ≥ x.arr
    · rw [if_pos h] at hg; cases hg
    rw [if_neg h] at hg
    refine stF (decF h) ?_
    rcases snoc_cases q with rfl | ⟨q', y, rfl⟩
    · refine stF (decF (by simp)) ?_
      rw [hw]
      exact hn hg
    · have hwl : IntKind.wrap .i64 (((q' ++ [y]).length : Int) - 1) = (q'.length : Int) := by
        rw [List.length_append, List.length_singleton] at hll ⊢
        rw [wrap64 (by omega) (by omega)]
        omega
      have hpre : atL (l.map dtcv) (q'.length : Int) = some (dtcv y) := atL_ok (by rw [← hq]; simp)
      rw [List.getLast?_append] at hb0
      simp only [List.getLast?_singleton, Option.some_or, Option.map_some, Option.getD_some] at hb0
      subst hb0
      rw [show (q' ++ [y]).isEmpty = false by simp, cond_false] at hg
      by_cases h3 : x.dep < y.arr
      · rw [if_pos h3] at hg; cases hg
      rw [if_neg h3] at hg
      have hfr := hc (q' ++ [y]) x t y hq (by simp)
      rw [hwl]
      refine stT (decT (by rw [List.length_append, List.length_singleton]; omega)) (stO _ rfl (stO _ hat (stC rfl (stO _ rfl (stO _ rfl (stO _ hpre (stC rfl (stO _ rfl (stO _ rfl (stO _ rfl (stF (decF h3) (stO _ rfl (stO _ hat (stC rfl (stO _ rfl (stO _ rfl (stO _ hpre (stC rfl (stO _ rfl (stO _ rfl (stO _ rfl (stF (by simp [hfr]) ?_))))))))))))))))))))))
      rw [hw]
      exact hn hg) l [] rfl
  refine (Evt.diag key).mono fun n hn => ?_
  exact hn ho
theorem legsF_split {p : Pc} {f : Fl} {day : Int} {q t : List Dt} {x y : Dt} (h : q ++ x :: t = legsF p f day) (hy : q.getLast? = some y) : ∃ (q' t' : List Lg) (x' y' : Lg), q' ++ x' :: t' = f.legs ∧ q'.getLast? = some y' ∧ x = legF p f day x' ∧ y = legF p f day y' := by
  unfold legsF at h
  obtain ⟨q', r', e1, e2, e3⟩ := List.map_eq_append_iff.1 h.symm
  obtain ⟨x', t', e4, e5, e6⟩ := List.map_eq_cons_iff.1 e3
  subst e4
  rw [← e2, List.getLast?_map] at hy
  obtain ⟨y', e7, e8⟩ := Option.map_eq_some_iff.1 hy
  exact ⟨q', t', x', y', e1.symm, e7, e5.symm, e8.symm⟩
theorem flightOrder_ok (p : Pc) (f : Fl) (day : Int) (hp : ArgP p) (hf : ArgF f) : Ret lb F_l07_FlightOrder [pcv p, flcv f, .int .i64 day] (.bool true) := by
  cases hB : bigB p f with
  | true =>
    refine .top rfl (Evt.imp2 (big_ret lb p f hp hf) (awake07_ok lb) fun n h1 h2 => ?_)
    rw [l07_FlightOrder_eq]
    exact stO _ h1 (stO _ rfl (stT hB (stO _ h2 rfl)))
  | false =>
    obtain ⟨b1, b2, b3, b4, b5⟩ := bigB_false hB
    have hP := r06_Check_ret lb p (by omega) (by omega) hp.2.2
    cases hF : (placesF p).isEmpty with
    | false =>
      refine .top rfl (Evt.imp2 (Evt.imp2 (big_ret lb p f hp hf) hP fun n a b => And.intro a b) (awake07_ok lb) fun n h1 h2 => ?_)
      rw [l07_FlightOrder_eq]
      refine stO _ h1.1 (stO _ rfl (stF hB (stO _ h1.2 (stO _ rfl ?_))))
      exact stT (by rw [lst_pos, hF]; rfl) (stO _ h2 rfl)
    | true =>
      have hS := placesF_shifts (p := p) (by omega) (by simpa using hF)
      have c1 := flight_Check_ret lb p hS f (by omega) (fun x hx => by have := b2 x hx; omega)
      cases hC : (checkF p f).isEmpty with
      | false =>
        refine .top rfl (Evt.imp2 (Evt.imp2 (Evt.imp2 (big_ret lb p f hp hf) hP fun n a b => And.intro a b) c1 fun n a b => And.intro a b) (awake07_ok lb) fun n h1 h2 => ?_)
        obtain ⟨⟨a1, a2⟩, a3⟩ := h1
        rw [l07_FlightOrder_eq]
        refine stO _ a1 (stO _ rfl (stF hB (stO _ a2 (stO _ rfl (stF (by rw [lst_pos, hF]; rfl) (stO _ a3 (stO _ rfl ?_)))))))
        exact stT (by rw [lst_pos, hC]; rfl) (stO _ h2 rfl)
      | true =>
        have hN := checkF_nil (p := p) (f := f) (by simpa using hC)
        obtain ⟨n1, n2, n3, n4, n5⟩ := hN
        have c2 := flight_Legs_ret lb p hS f (by omega) day
        have main : ∀ (l : List Dt) (e : Int), l.length ≤ 1000 → (∀ q x t y, q ++ x :: t = l → q.getLast? = some y → x.fro = y.to) → ordG true 0 (l.map fun x => (x.dep, x.arr)) = true → (((l.length : Int) == (f.legs.length : Int)) == (e == 0)) = true →
            ∀ r24, Evt fun n => l07_FlightOrder_L1 lb n n p.an (p.aps.map apcv) p.dn (p.dis.map dicv) f.car f.num f.fr f.to f.days f.ln (f.legs.map lgcv) day (.list false (l.map dtcv)) (.int .i64 e) r24 0 = some (.bool true) := by
          intro l e hl hc ho he r24
          refine fo_loop lb p f day l hl hc _ _ ((awake07_ok lb).mono fun n hn => ?_) ho
          rw [l07_FlightOrder_J2_eq]
          exact stO _ rfl (stO _ rfl (stT (by simp only [List.length_map]; exact he) (stO _ hn rfl)))
        have fin : ∀ (R : CV) (l : List Dt) (b : Bool) (e : Int), R = .tup [.list b (l.map dtcv), .int .i64 e] → Ret lb F_flight_Legs [pcv p, flcv f, .int .i64 day] R → (Evt fun n => l07_FlightOrder_L1 lb n n p.an (p.aps.map apcv) p.dn (p.dis.map dicv) f.car f.num f.fr f.to f.days f.ln (f.legs.map lgcv) day (.list b (l.map dtcv)) (.int .i64 e) R 0 = some (.bool true)) →
            Ret lb F_l07_FlightOrder [pcv p, flcv f, .int .i64 day] (.bool true) := by
          intro R l b e hR hr hL
          refine .top rfl (Evt.imp2 (Evt.imp2 (Evt.imp2 (big_ret lb p f hp hf) hP fun n a b => And.intro a b) c1 fun n a b => And.intro a b) (Evt.imp2 hr hL fun n a b => And.intro a b) fun n h1 h2 => ?_)
          obtain ⟨⟨a1, a2⟩, a3⟩ := h1
          obtain ⟨a4, a5⟩ := h2
          rw [l07_FlightOrder_eq]
          refine stO _ a1 (stO _ rfl (stF hB (stO _ a2 (stO _ rfl (stF (by rw [lst_pos, hF]; rfl) (stO _ a3 (stO _ rfl (stF (by rw [lst_pos, hC]; rfl) (stO _ a4 ?_)))))))))
          subst hR
          exact stO _ rfl (stO _ rfl (stO _ rfl (stO _ rfl a5)))
        cases hh : hasF f.fr f.to f.days day with
        | false =>
          rw [hh] at c2
          refine fin _ [] true 12 rfl c2 ?_
          refine ((awake07_ok lb).and (Evt.ge 1)).mono fun n hn => ?_
          obtain ⟨hn, h1⟩ := hn
          obtain ⟨k, hk⟩ : ∃ m, n = m + 1 := ⟨n - 1, by omega⟩
          have : ∀ k', k' = n → l07_FlightOrder_L1 lb n k' p.an (p.aps.map apcv) p.dn (p.dis.map dicv) f.car f.num f.fr f.to f.days f.ln (f.legs.map lgcv) day (.list true (([] : List Dt).map dtcv)) (.int .i64 12) (.tup [.list true [], .int .i64 12]) 0 = some (.bool true) := by
            intro k' e
            rw [show k' = k + 1 by omega, l07_FlightOrder_L1_succ]
            refine stO _ rfl (stF rfl ?_)
            rw [l07_FlightOrder_J2_eq]
            refine stO _ rfl (stO _ rfl (stT ?_ (stO _ hn rfl)))
            have : (((([] : List Dt).map dtcv).length : Int) == ((f.legs.map lgcv).length : Int)) = false := beqF (by simp; omega)
            rw [this]
            rfl
          exact this n rfl
        | true =>
          rw [hh] at c2
          refine fin _ (legsF p f day) false 0 rfl c2 (main _ 0 (by simp [legsF]; omega) ?_ (by rw [ordF_legs]; exact n5 day hh) (by simp [legsF]) _)
          intro q x t y hq hy
          obtain ⟨q', t', x', y', e1, e2, rfl, rfl⟩ := legsF_split hq hy
          have := (legE_nil (legsFt_nil n4 q' x' t' e1)).2.2.1
          unfold brk at this
          rw [List.nil_append, e2] at this
          simp only [Bool.or_eq_false_iff] at this
          have h1 := this.1
          simp at h1
          exact h1

/-! FlightSames -/
instance : DecidableEq Lg := fun a b => by
  cases a; cases b
  simp only [Lg.mk.injEq]
  infer_instance
def lgB (x y : Lg) : Bool := (x.fro == y.fro) && ((x.to == y.to) && ((x.dep == y.dep) && ((x.arr == y.arr) && ((x.eq == y.eq) && true))))
def lgsB : List Lg → List Lg → Bool
  | [], [] => true
  | x :: a, y :: b => lgB x y && lgsB a b
  | _, _ => false
theorem lgsB_len : ∀ {a b : List Lg}, lgsB a b = true → a.length = b.length
  | [], [], _ => rfl
  | x :: a, y :: b, h => by
    simp only [lgsB, Bool.and_eq_true] at h
    simp [lgsB_len h.2]
  | [], y :: b, h => by cases h
  | x :: a, [], h => by cases h
theorem lgB_refl (x : Lg) : lgB x x = true := by simp [lgB]
theorem lgsB_refl : ∀ a : List Lg, lgsB a a = true
  | [] => rfl
  | x :: a => by simp [lgsB, lgB_refl, lgsB_refl a]
theorem sl_loop (f : Nat → Nat → Int → Option CV) (an bn : Bool) (a b : List Lg) (hl : a.length ≤ 1000) (he : a.length = b.length)
    (step : ∀ n k q x y, (q : Nat) < a.length → a[q]? = some x → b[q]? = some y → f n (k + 1) (q : Int) = (bif !lgB x y then some (.bool false) else f n k (IntKind.wrap .i64 ((q : Int) + 1)))) (stop : ∀ n k, f n (k + 1) (a.length : Int) = some (.bool true)) :
    Evt fun n => f n n 0 = some (.bool (lgsB a b)) := by
  have key : ∀ (t s q r : List Lg), q ++ t = a → r ++ s = b → q.length = r.length → t.length = s.length → ∀ n k, t.length < k → f n k (q.length : Int) = some (.bool (lgsB t s)) := by
    intro t
    induction t with
    | nil =>
      intro s q r hq hr h1 h2 n k hk
      obtain ⟨k, rfl⟩ : ∃ m, k = m + 1 := ⟨k - 1, by simp at hk; omega⟩
      have : q = a := by simpa using hq
      subst this
      have : s = [] := List.length_eq_zero_iff.1 (by simpa using h2.symm)
      subst this
      exact stop n k
    | cons x t ih =>
      intro s q r hq hr h1 h2 n k hk
      obtain ⟨k, rfl⟩ : ∃ m, k = m + 1 := ⟨k - 1, by simp at hk; omega⟩
      cases s with
      | nil => simp at h2
      | cons y s =>
        have hal : a.length = q.length + (t.length + 1) := by rw [← hq]; simp
        rw [step n k q.length x y (by omega) (by rw [← hq]; simp) (by rw [← hr, h1]; simp)]
        rw [wrap64 (by omega) (by omega), show (q.length : Int) + 1 = ((q ++ [x]).length : Int) by simp]
        rw [ih s (q ++ [x]) (r ++ [y]) (by rw [← hq]; simp) (by rw [← hr]; simp) (by simp [h1]) (by simpa using h2) n k (by simp at hk; omega)]
        rw [show lgsB (x :: t) (y :: s) = (lgB x y && lgsB t s) from rfl]
        cases lgB x y <;> rfl
  exact ⟨a.length + 1, fun n hn => key a b [] [] rfl rfl rfl he n n (by omega)⟩
theorem r07_SameLegs_ret (an bn : Bool) (a b : List Lg) (hl : a.length ≤ 1000) (hb : b.length ≤ 1000) : Ret lb F_r07_SameLegs [.list an (a.map lgcv), .list bn (b.map lgcv)] (.bool (lgsB a b)) := by
  by_cases he : a.length = b.length
  · refine .top rfl (.eq (fun n => by rw [r07_SameLegs_eq, bneF (by simp [he]), cond_false]) (sl_loop (fun n k i => r07_SameLegs_L1 lb n k an (a.map lgcv) bn (b.map lgcv) i) an bn a b hl he (fun n k q x y hq hx hy => ?_) fun n k => ?_))
    · have h1 : atL (a.map lgcv) (q : Int) = some (lgcv x) := atL_ok (by simp [hx])
      have h2 : atL (b.map lgcv) (q : Int) = some (lgcv y) := atL_ok (by simp [hy])
      show r07_SameLegs_L1 lb n (k + 1) an (a.map lgcv) bn (b.map lgcv) (q : Int) = _
      rw [r07_SameLegs_L1_succ, decT (by simp; omega), cond_true, h1, h2]
      rfl
    · show r07_SameLegs_L1 lb n (k + 1) an (a.map lgcv) bn (b.map lgcv) (a.length : Int) = _
      rw [r07_SameLegs_L1_succ, decF (by simp), cond_false, r07_SameLegs_J2_eq]
  · refine .top rfl (.all fun n => ?_)
    rw [r07_SameLegs_eq, bneT (by simp; omega), cond_true]
    cases hc : lgsB a b with
    | false => rfl
    | true => exact absurd (lgsB_len hc) he
theorem equal_legs_ret (an bn : Bool) (a b : List Lg) (hl : a.length ≤ 1000) (hb : b.length ≤ 1000) : Ret lb F_slices_Equal_api_Leg [.list an (a.map lgcv), .list bn (b.map lgcv)] (.bool (lgsB a b)) := by
  by_cases he : a.length = b.length
  · refine .top rfl (.eq (fun n => by rw [slices_Equal_api_Leg_eq, bneF (by simp [he]), cond_false]) (sl_loop (fun n k i => slices_Equal_api_Leg_L1 lb n k an (a.map lgcv) bn (b.map lgcv) i) an bn a b hl he (fun n k q x y hq hx hy => ?_) fun n k => ?_))
    · have h1 : atL (a.map lgcv) (q : Int) = some (lgcv x) := atL_ok (by simp [hx])
      have h2 : atL (b.map lgcv) (q : Int) = some (lgcv y) := atL_ok (by simp [hy])
      show slices_Equal_api_Leg_L1 lb n (k + 1) an (a.map lgcv) bn (b.map lgcv) (q : Int) = _
      rw [slices_Equal_api_Leg_L1_succ, decT (by simp; omega), cond_true, h1, h2]
      rfl
    · show slices_Equal_api_Leg_L1 lb n (k + 1) an (a.map lgcv) bn (b.map lgcv) (a.length : Int) = _
      rw [slices_Equal_api_Leg_L1_succ, decF (by simp), cond_false, slices_Equal_api_Leg_J2_eq]
  · refine .top rfl (.all fun n => ?_)
    rw [slices_Equal_api_Leg_eq, bneT (by simp; omega), cond_true]
    cases hc : lgsB a b with
    | false => rfl
    | true => exact absurd (lgsB_len hc) he
def sameF (f g : Fl) : Bool := (f.car == g.car) && ((f.num == g.num) && (((f.fr == g.fr) && ((f.to == g.to) && ((f.days == g.days) && true))) && lgsB f.legs g.legs))
theorem flight_Same_ret (f g : Fl) (hl : f.legs.length ≤ 1000) (hb : g.legs.length ≤ 1000) : Ret lb F_flight_Same [flcv f, flcv g] (.bool (sameF f g)) := by
  refine .top rfl ((equal_legs_ret lb f.ln g.ln f.legs g.legs hl hb).mono fun n hn => ?_)
  rw [flight_Same_eq, hn]
  unfold sameF
  cases (f.car == g.car) <;> cases (f.num == g.num) <;> cases ((f.fr == g.fr) && ((f.to == g.to) && ((f.days == g.days) && true))) <;> rfl
theorem r07_Same_ret (f g : Fl) (hl : f.legs.length ≤ 1000) (hb : g.legs.length ≤ 1000) : Ret lb F_r07_Same [flcv f, flcv g] (.bool (sameF f g)) := by
  refine .top rfl ((r07_SameLegs_ret lb f.ln g.ln f.legs g.legs hl hb).mono fun n hn => ?_)
  rw [r07_Same_eq, hn]
  unfold sameF
  cases (f.car == g.car) <;> cases (f.num == g.num) <;> cases ((f.fr == g.fr) && ((f.to == g.to) && ((f.days == g.days) && true))) <;> rfl
def pc0 : Pc := ⟨true, [], true, []⟩
theorem flightSames_ok (f g : Fl) (hf : ArgF f) (hg : ArgF g) : Ret lb F_l07_FlightSames [flcv f, flcv g] (.bool true) := by
  have hp : ArgP pc0 := ⟨by simp [pc0], by simp [pc0], fun a h => by simp [pc0] at h⟩
  have d1 := big_ret lb pc0 f hp hf
  have d2 := big_ret lb pc0 g hp hg
  cases hB : bigB pc0 f with
  | true =>
    refine .top rfl (Evt.imp2 d1 (awake07_ok lb) fun n h1 h2 => ?_)
    rw [l07_FlightSames_eq]
    exact stO _ h1 (stO _ rfl (stT hB (stO _ h2 rfl)))
  | false =>
    cases hG : bigB pc0 g with
    | true =>
      refine .top rfl (Evt.imp2 (Evt.imp2 d1 d2 fun n a b => And.intro a b) (awake07_ok lb) fun n h1 h2 => ?_)
      rw [l07_FlightSames_eq]
      exact stO _ h1.1 (stO _ rfl (stF hB (stO _ h1.2 (stO _ rfl (stT hG (stO _ h2 rfl))))))
    | false =>
      have b1 := (bigB_false hB).2.2.1
      have b2 := (bigB_false hG).2.2.1
      refine .top rfl (Evt.imp2 (Evt.imp2 (Evt.imp2 d1 d2 fun n a b => And.intro a b) (awake07_ok lb) fun n a b => And.intro a b) (Evt.imp2 (Evt.imp2 (flight_Same_ret lb f g (by omega) (by omega)) (r07_Same_ret lb f g (by omega) (by omega)) fun n a b => And.intro a b) (flight_Same_ret lb f f (by omega) (by omega)) fun n a b => And.intro a b) fun n h1 h2 => ?_)
      obtain ⟨⟨a1, a2⟩, a3⟩ := h1
      obtain ⟨⟨a4, a5⟩, a6⟩ := h2
      rw [l07_FlightSames_eq]
      refine stO _ a1 (stO _ rfl (stF hB (stO _ a2 (stO _ rfl (stF hG (stO _ a4 (stO _ a5 (stO _ rfl (stO _ rfl (stT (by simp) (stO _ a6 (stO _ rfl (stT ?_ (stO _ a3 rfl))))))))))))))
      simp [sameF, lgsB_refl]
end Go.Proofs
