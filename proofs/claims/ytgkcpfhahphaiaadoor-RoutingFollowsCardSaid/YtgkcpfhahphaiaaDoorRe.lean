/- The reference of chapter 22 on plain data; lists of faults compared. Conditions: as each says. -/
import Derived.Test.YtgkcpfhahphaiaaDoorRd
set_option linter.unusedSimpArgs false
namespace Go.Proofs
open Go.Am
variable (lb : Bool)
theorem rchk_J6 (n : Nat) (num miles : Int) (an : Bool) (l : List Lk) (F : List Ft) (hF : F.length ≤ 10000) (i : Int) : r22_Check_J6 lb n num an (lcv l) miles F.isEmpty (fcv F) i = some (lstF (F ++ milesF miles)) := by
  rw [r22_Check_J6_eq, room_small (by rw [fcv_len]; omega) (by omega)]
  unfold milesF
  simp only [chkO_t, fcv_snoc]
  by_cases h1 : miles < 0
  · rw [decT h1, cond_true, if_pos (.inl h1), nil_snoc F.isEmpty F]
    rfl
  · rw [decF h1, cond_false]
    by_cases h2 : miles > 99999
    · rw [decT h2, cond_true, if_pos (.inr h2), nil_snoc F.isEmpty F]
      rfl
    · rw [decF h2, cond_false, if_neg (by omega), List.append_nil]
      rfl
def midE (p : List Lk) (x : Lk) : List Int := (if x.1 = x.2 then [2] else []) ++ (if x ∈ p then [6] else [])
theorem linkE_mid (p : List Lk) (x : Lk) : linkE p x = (if airportB x.1 && airportB x.2 then [] else [5]) ++ midE p x := rfl
theorem linkWord_lit : ([108, 105, 110, 107, 32] : List UInt8) = linkWord := rfl
/-- the third question about a link -/
theorem rchk_J5 (num miles : Int) (an : Bool) (l p t : List Lk) (x : Lk) (h : p ++ x :: t = l) (hl : l.length ≤ 1000000) (c : List CV) (r : CV) (F : List Ft) (hF : F.length ≤ 10000) {R : CV}
    (hR : Evt fun n => ∀ k, t.length < k → r22_Check_L3 lb n k num an (lcv l) miles (F ++ if x ∈ p then [(6, linkWord ++ Lib.itoa (p.length : Int))] else []).isEmpty (fcv (F ++ if x ∈ p then [(6, linkWord ++ Lib.itoa (p.length : Int))] else [])) ((p ++ [x]).length : Int) = some R) :
    Evt fun n => ∀ k, t.length < k → r22_Check_J5 lb n k num an (lcv l) miles (p.length : Int) (Lib.itoa (p.length : Int)) c (.str x.1) (.str x.2) r F.isEmpty (fcv F) = some R := by
  have hpl : l.length = p.length + (t.length + 1) := by rw [← h]; simp
  have htk : ((lcv l).take ((p.length : Int)).toNat).drop 0 = lcv p := by
    rw [Int.toNat_natCast, ← h, List.drop_zero]
    simp [lcv]
  refine hR.imp2 (r22_Link_ret lb an p x.1 x.2 (by omega)) fun n h1 h2 k hk => ?_
  have h1 := h1 k hk
  rw [r22_Check_J5_eq, lcv_all, decT (by rw [lcv_len]; omega), htk, h2]
  simp only [chkO_t, optO_s, asI_i]
  rw [wrap64 (by omega) (by omega), show (p.length : Int) + 1 = ((p ++ [x]).length : Int) by simp]
  by_cases hx : x ∈ p
  · rw [decT ((linkAt_ge (x.1, x.2) p 0).2 hx), cond_true, room_small (by rw [fcv_len]; omega) (by omega), chkO_t, show ([108, 105, 110, 107, 32] : List UInt8) = linkWord from rfl, fcv_snoc, nil_snoc F.isEmpty F (6, linkWord ++ Lib.itoa (p.length : Int))]
    rw [if_pos hx] at h1
    exact h1
  · rw [decF (fun e => hx ((linkAt_ge (x.1, x.2) p 0).1 e)), cond_false]
    rw [if_neg hx, List.append_nil] at h1
    exact h1
theorem rchk_J4 (num miles : Int) (an : Bool) (l p t : List Lk) (x : Lk) (h : p ++ x :: t = l) (hl : l.length ≤ 1000000) (c : List CV) (r : CV) (F : List Ft) (hF : F.length ≤ 9000) {R : CV}
    (hR : Evt fun n => ∀ k, t.length < k → r22_Check_L3 lb n k num an (lcv l) miles (F ++ (midE p x).map fun e => ((e, linkWord ++ Lib.itoa (p.length : Int)) : Ft)).isEmpty (fcv (F ++ (midE p x).map fun e => (e, linkWord ++ Lib.itoa (p.length : Int)))) ((p ++ [x]).length : Int) = some R) :
    Evt fun n => ∀ k, t.length < k → r22_Check_J4 lb n k num an (lcv l) miles (p.length : Int) (Lib.itoa (p.length : Int)) c (.str x.1) (.str x.2) r F.isEmpty (fcv F) = some R := by
  have e6 : ((if x ∈ p then [6] else []) : List Int).map (fun e => ((e, linkWord ++ Lib.itoa (p.length : Int)) : Ft)) = if x ∈ p then [(6, linkWord ++ Lib.itoa (p.length : Int))] else [] := by split <;> rfl
  by_cases hx : x.1 = x.2
  · have hx2 : (x.1 == x.2) = true := by simpa using hx
    refine (rchk_J5 lb num miles an l p t x h hl c r (F ++ [(2, linkWord ++ Lib.itoa (p.length : Int))]) (by simp; omega) (R := R) ?_).mono fun n hn k hk => ?_
    · unfold midE at hR
      rw [if_pos hx] at hR
      simp only [List.map_append, e6] at hR
      simpa only [List.map_cons, List.map_nil, List.append_assoc] using hR
    · rw [r22_Check_J4_eq]
      simp only [asS_s, optO_s]
      rw [hx2, cond_true, room_small (by rw [fcv_len]; omega) (by omega), chkO_t, show ([108, 105, 110, 107, 32] : List UInt8) = linkWord from rfl, fcv_snoc, nil_snoc F.isEmpty F (2, linkWord ++ Lib.itoa (p.length : Int))]
      exact hn k hk
  · have hx2 : (x.1 == x.2) = false := by simpa using hx
    refine (rchk_J5 lb num miles an l p t x h hl c r F (by omega) (R := R) ?_).mono fun n hn k hk => ?_
    · unfold midE at hR
      rw [if_neg hx] at hR
      simp only [List.map_append, e6] at hR
      simpa only [List.map_nil, List.nil_append] using hR
    · rw [r22_Check_J4_eq]
      simp only [asS_s, optO_s]
      rw [hx2, cond_false]
      exact hn k hk
theorem rchk_step (n k : Nat) (num miles : Int) (an : Bool) (l : List Lk) (i : Nat) (x : Lk) (s : Bs) (a b : Bool) (F : List Ft) (R : CV) (hl : l.length ≤ 128) (hi : i < l.length) (hF : F.length ≤ 10000) (hs : s.length ≤ 21)
    (hat : atL (lcv l) (i : Int) = some [.str x.1, .str x.2]) (h1 : C lb n F_r01_Decimal [CV.int .i64 (i : Int)] = some (.str s)) (h2 : C lb n F_r01_Airport [.str x.1] = some (.bool a)) (h3 : C lb n F_r01_Airport [.str x.2] = some (.bool b))
    (h4 : r22_Check_J4 lb n k num an (lcv l) miles (i : Int) s [.str x.1, .str x.2] (.str x.1) (.str x.2) (.str s) (F ++ if a && b then [] else [(5, linkWord ++ s)]).isEmpty (fcv (F ++ if a && b then [] else [(5, linkWord ++ s)])) = some R) :
    r22_Check_L3 lb n (k + 1) num an (lcv l) miles F.isEmpty (fcv F) (i : Int) = some R := by
  have bad : (a && b) = false → r22_Check_J4 lb n k num an (lcv l) miles (i : Int) s [.str x.1, .str x.2] (.str x.1) (.str x.2) (.str s) (F.isEmpty && false) (fcv F ++ [[CV.int .i64 5, CV.str (([108, 105, 110, 107, 32] : List UInt8) ++ s)]]) = some R := by
    intro hab
    rw [hab, if_neg Bool.false_ne_true] at h4
    rw [linkWord_lit, fcv_snoc, nil_snoc F.isEmpty F (5, linkWord ++ s)]
    exact h4
  have room : room ((fcv F).length + 1) 24 = true := room_small (by rw [fcv_len]; omega) (by omega)
  refine (r22_Check_L3_succ lb n k num an (lcv l) miles F.isEmpty (fcv F) i).trans ?_
  refine stT (decT (by rw [lcv_len]; omega)) (stT (decT (by rw [lcv_len]; omega)) (stO _ hat (stC rfl (stO _ rfl (stO _ rfl (stO _ h1 (stO _ rfl (stC (decT (by simp only [List.length_cons, List.length_nil]; omega)) (stO _ h2 (stO _ rfl ?_))))))))))
  cases a with
  | false => exact stT rfl (stC room (bad rfl))
  | true =>
    refine stF rfl (stO _ h3 (stO _ rfl ?_))
    cases b with
    | false => exact stT rfl (stC room (bad rfl))
    | true =>
      refine stF rfl ?_
      rw [show (true && true) = true from rfl, if_pos rfl, List.append_nil] at h4
      exact h4
theorem rchk_loop (num miles : Int) (an : Bool) (l : List Lk) (hl : l.length ≤ 128) (hb : ∀ x ∈ l, x.1.length ≤ 1000000000 ∧ x.2.length ≤ 1000000000) : ∀ t p (F : List Ft), p ++ t = l → F.length ≤ 1 + 3 * p.length →
    Evt fun n => ∀ k, t.length < k → r22_Check_L3 lb n k num an (lcv l) miles F.isEmpty (fcv F) (p.length : Int) = some (lstF (F ++ (loopF p t ++ milesF miles))) := by
  intro t
  induction t with
  | nil =>
    intro p F h hF
    refine .all fun n k hk => ?_
    obtain ⟨k, rfl⟩ : ∃ m, k = m + 1 := ⟨k - 1, by simp at hk; omega⟩
    have h : p = l := by simpa using h
    subst h
    rw [r22_Check_L3_succ, decF (by rw [lcv_len]; omega), cond_false]
    exact rchk_J6 lb n num miles an p F (by omega) _
  | cons x t ih0 =>
    intro p F h hF
    have hpl : l.length = p.length + (t.length + 1) := by rw [← h]; simp
    have hx := hb x (by rw [← h]; simp)
    have hat : atL (lcv l) (p.length : Int) = some [.str x.1, .str x.2] := atL_ok (by rw [← h]; simp [lcv, lenc])
    have hln := linkF_len p x
    have hil := itoa_len (z := (p.length : Int)) (by omega) (by omega)
    have ih := ih0 (p ++ [x]) (F ++ linkF p x) (by rw [← h]; simp) (by simp; omega)
    have dec := r01_Decimal_ret lb (p.length : Int) (by omega) (by omega)
    have a1 := r01_Airport_ret lb x.1 (by omega)
    have a2 := r01_Airport_ret lb x.2 (by omega)
    have key : ∀ (ap : Bool), ap = (airportB x.1 && airportB x.2) → Evt fun n => ∀ k, t.length < k → r22_Check_J4 lb n k num an (lcv l) miles (p.length : Int) (Lib.itoa (p.length : Int)) [.str x.1, .str x.2] (.str x.1) (.str x.2) (.str (Lib.itoa (p.length : Int)))
        (F ++ if ap then [] else [(5, linkWord ++ Lib.itoa (p.length : Int))]).isEmpty (fcv (F ++ if ap then [] else [(5, linkWord ++ Lib.itoa (p.length : Int))])) = some (lstF (F ++ (loopF p (x :: t) ++ milesF miles))) := by
      intro ap hap
      refine rchk_J4 lb num miles an l p t x h (by omega) _ _ _ (by cases ap <;> simp <;> omega) (ih.mono fun n hn k hk => ?_)
      have e : (F ++ if ap then [] else [(5, linkWord ++ Lib.itoa (p.length : Int))]) ++ (midE p x).map (fun e => ((e, linkWord ++ Lib.itoa (p.length : Int)) : Ft)) = F ++ linkF p x := by
        unfold linkF
        rw [linkE_mid, ← hap]
        cases ap <;> simp
      rw [e]
      have := hn k hk
      rw [this]
      simp [loopF]
    refine Evt.imp2 (Evt.imp2 dec a1 fun n h1 h2 => And.intro h1 h2) (Evt.imp2 a2 ((key _ rfl).and (Evt.ge 1)) fun n h1 h2 => And.intro h1 h2) fun n h12 h34 k hk => ?_
    obtain ⟨h1, h2⟩ := h12
    obtain ⟨h3, h4, _⟩ := h34
    obtain ⟨k, rfl⟩ : ∃ m, k = m + 1 := ⟨k - 1, by simp at hk; omega⟩
    have h4 := h4 k (by simp at hk; omega)
    exact rchk_step lb n k num miles an l p.length x _ _ _ F _ (by omega) (by omega) (by omega) hil hat h1 h2 h3 h4
end Go.Proofs
