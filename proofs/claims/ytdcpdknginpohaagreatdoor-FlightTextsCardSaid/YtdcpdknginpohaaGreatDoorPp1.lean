/- Chapter 7 on plain data: the program reads a flight. Conditions: as each says. -/
import Derived.Test.YtdcpdknginpohaaGreatDoorPA
import Derived.Test.YtdcpdknginpohaaGreatDoorGs
import Derived.Test.YtdcpdknginpohaaGreatDoorIt
set_option linter.unusedVariables false
namespace Go.Proofs
open Go.Am
/-- the rows of five words -/
def fives (q : Nat) (r : List Bs) : List (List CV) := (chunksF q (scv r)).map fun c => [CV.list false c]
theorem it_words (b : Bool) (r : List Bs) (h : r.length ≤ 10000000) : itChunk [[.list b (scv r)], [.int .i64 5]] = some (fives (scv r).length r) := by
  show (bif decide ((5 : Int) = 5) && decide ((scv r).length ≤ 10000000) && (scv r).all (·.length == 1) then some (fives (scv r).length r) else none) = _
  have h1 : (scv r).all (fun x => x.length == 1) = true := by simp [scv]
  rw [h1, show decide ((scv r).length ≤ 10000000) = true from decT (by rw [scv_len]; exact h)]
  rfl
theorem fives_one (q : Nat) (r : List Bs) : (fives q r).all (fun x => x.length == 1) = true := by simp [fives]
theorem fives_nil (q : Nat) : fives q [] = [] := by cases q <;> rfl
theorem fives_cons (q : Nat) (a b c d e : Bs) (r : List Bs) : fives (q + 1) (a :: b :: c :: d :: e :: r) = [CV.list false (scv [a, b, c, d, e])] :: fives q r := rfl
variable (lb : Nat)
theorem fparse_loop (s : Bs) (I : List (List CV)) (x4 r2 x6 : CV) (c12 : List CV) (p38 : Bool × List (List CV)) (car : Bs) (num fr to days : Int) (n : Nat) : ∀ (m : Nat) (r : List Bs) (L : List (List CV)) (O : List Lg) (q : Nat), r.length = 5 * m → r.length ≤ q → I = L ++ fives q r →
    O.length + m ≤ 10000000 → (∀ x ∈ r, C lb n F_text_Number [.str x] = some (.tup [.int .i64 (numB x).1, .int .i64 (numB x).2])) →
    (∀ l, legsP r = .ok l → C lb n F_flight_written [flcv (mkF car num fr to days (O ++ l))] = some (.int .i64 (wrE (mkF car num fr to days (O ++ l))))) → ∀ (v : CV) k, m < k →
    flight_Parse_L1 lb n k s x4 r2 x6 c12 (.str car) p38 I (.int .i64 num) (.int .i64 fr) (.int .i64 to) (.int .i64 days) L.length v O.isEmpty (O.map lgcv) = some (legsR car num fr to days O r) := by
  intro m
  induction m with
  | zero =>
    intro r L O q hr hq hI hO h1 hP v k hk
    obtain ⟨k, rfl⟩ : ∃ m, k = m + 1 := ⟨k - 1, by omega⟩
    obtain rfl : r = [] := List.length_eq_zero_iff.1 (by omega)
    rw [fives_nil, List.append_nil] at hI
    subst hI
    rw [flight_Parse_L1_succ]
    refine stF (decF (by omega)) ?_
    rw [flight_Parse_J2_eq]
    have h2 := hP [] rfl
    rw [List.append_nil] at h2
    unfold legsR
    simp only [legsP, List.append_nil]
    unfold endF
    by_cases hE : wrE (mkF car num fr to days O) ≠ 0
    · rw [if_pos hE]
      exact stO _ h2 (stC rfl (stO _ (asI_i ..) (stT (bneT hE) (stC rfl rfl))))
    · rw [if_neg hE]
      exact stO _ h2 (stC rfl (stO _ (asI_i ..) (stF (bneF (Classical.byContradiction hE)) rfl)))
  | succ m ih =>
    intro r L O q hr hq hI hO h1 hP v k hk
    obtain ⟨k, rfl⟩ : ∃ m, k = m + 1 := ⟨k - 1, by omega⟩
    match r, hr, hq, hI, h1, hP with
    | a :: b :: c :: d :: e :: r, hr, hq, hI, h1, hP =>
      obtain ⟨q, rfl⟩ : ∃ p, q = p + 1 := ⟨q - 1, by simp at hq; omega⟩
      rw [fives_cons] at hI
      have hget : I[L.length]? = some [CV.list false (scv [a, b, c, d, e])] := by rw [hI]; simp
      have hlt : L.length < I.length := by rw [hI]; simp
      have hc := h1 c (by simp)
      have hd := h1 d (by simp)
      rw [flight_Parse_L1_succ]
      refine stT (decT hlt) (stO _ hget (stO _ rfl (stO _ rfl (stO [.str a] rfl (stC rfl (stO _ rfl (stO _ rfl (stO [.str b] rfl (stC rfl (stO _ rfl (stO _ rfl (stO [.str e] rfl (stC rfl (stO _ rfl (stC rfl (stC rfl (stC rfl
        (stO _ rfl (stO [.str c] rfl (stC rfl (stO _ rfl (stO _ hc (stO _ rfl (stO _ rfl (stO _ rfl (stO _ rfl (stC rfl (stC rfl (stO _ (asI_i ..) ?_)))))))))))))))))))))))))))))
      unfold legsR
      unfold legsP at hP ⊢
      by_cases q1 : (numB c).2 ≠ 0
      · rw [if_pos q1]
        exact stT (bneT q1) (stC rfl rfl)
      rw [if_neg q1] at hP ⊢
      refine stF (bneF (Classical.byContradiction q1)) (stO _ rfl (stO [.str d] rfl (stC rfl (stO _ rfl (stO _ hd (stO _ rfl (stO _ rfl (stO _ rfl (stO _ rfl (stC rfl (stC rfl (stO _ (asI_i ..) ?_))))))))))))
      by_cases q2 : (numB d).2 ≠ 0
      · rw [if_pos q2]
        exact stT (bneT q2) (stC rfl rfl)
      rw [if_neg q2] at hP ⊢
      refine stF (bneF (Classical.byContradiction q2)) (stC (room_ok (by rw [List.length_map]; omega)) ?_)
      have h3 := ih r (L ++ [[CV.list false (scv [a, b, c, d, e])]]) (O ++ [⟨a, b, (numB c).1, (numB d).1, e⟩]) q (by simp at hr; omega) (by simp at hq; omega) (by rw [hI]; simp) (by simp; omega) (fun x hx => h1 x (by simp [hx])) (fun l hl => by
        have := hP (⟨a, b, (numB c).1, (numB d).1, e⟩ :: l) (by rw [hl])
        rw [List.append_assoc]
        exact this) (.int .i64 (numB d).2) k (by omega)
      rw [nil_snoc4 O.isEmpty O ⟨a, b, (numB c).1, (numB d).1, e⟩, show L.length + 1 = (L ++ [[CV.list false (scv [a, b, c, d, e])]]).length by simp]
      rw [List.map_append] at h3
      refine Eq.trans h3 ?_
      unfold legsR
      cases hl : legsP r with
      | error x => rfl
      | ok l =>
        simp only
        rw [List.append_assoc]
        rfl
theorem flight_Parse_ret (s : Bs) (hs : s.length ≤ 10000000) : Ret (lb + 1) F_flight_Parse [.str s] (parseF s) := by
  refine .top rfl (.eq (fun n => by rw [flight_Parse_eq]) ?_)
  have e0 := text_Words_ret (lb + 1) s (by omega)
  unfold parseF
  cases hw : wordsB s with
  | none =>
    rw [hw] at e0
    exact e0.mono fun n a0 => stO _ a0 (stO _ rfl (stO _ rfl (stO _ rfl (stO _ rfl (stC rfl (stO _ (asI_i ..) (stT rfl (stC rfl rfl))))))))
  | some w =>
    rw [hw] at e0
    simp only
    have hj := wordsB_some hw
    obtain ⟨m1, m2⟩ := joinB_mem (l := w)
    rw [← hj] at m1 m2
    by_cases q1 : w.length < 8
    · rw [if_pos (Or.inl q1)]
      exact e0.mono fun n a0 => stO _ a0 (stO _ rfl (stO _ rfl (stO _ rfl (stO _ rfl (stC rfl (stO _ (asI_i ..) (stF rfl (stO _ rfl (stT (decT (by show ((scv w).length : Int) < 8; rw [scv_len]; omega)) rfl)))))))))
    have hmod : Int.tmod ((scv w).length : Int) 5 = ((w.length % 5 : Nat) : Int) := by
      rw [scv_len, Int.tmod_eq_emod_of_nonneg (by omega)]
      omega
    by_cases q2 : w.length % 5 ≠ 3
    · rw [if_pos (Or.inr q2)]
      exact e0.mono fun n a0 => stO _ a0 (stO _ rfl (stO _ rfl (stO _ rfl (stO _ rfl (stC rfl (stO _ (asI_i ..) (stF rfl (stO _ rfl (stF (decF (by show ¬ ((scv w).length : Int) < 8; rw [scv_len]; omega)) (stO _ rfl (stT (bneT (by show Int.tmod ((scv w).length : Int) 5 ≠ 3; rw [hmod]; omega)) rfl)))))))))))
    rw [if_neg (fun e => e.elim q1 q2)]
    obtain ⟨car, nu, pe, r, rfl⟩ : ∃ car nu pe r, w = car :: nu :: pe :: r := by
      match w, q1 with
      | car :: nu :: pe :: r, _ => exact ⟨car, nu, pe, r, rfl⟩
      | [], q => exact absurd (by decide) q
      | [_], q => exact absurd (by show 1 < 8; decide) q
      | [_, _], q => exact absurd (by show 2 < 8; decide) q
    · have m3 : r.length + 3 ≤ s.length + 1 := by simpa using m2
      have l1 := m1 car (by simp)
      have l2 := m1 nu (by simp)
      have l3 := m1 pe (by simp)
      have e1 := text_Number_ret lb nu (by omega)
      have e2 := period_Parse_ret (lb + 1) pe (by omega)
      rw [perP_pP] at e2
      have e1 : Ret (lb + 1) F_text_Number [.str nu] (.tup [.int .i64 (numB nu).1, .int .i64 (numB nu).2]) := e1
      rw [parseW_cons]
      by_cases q3 : (numB nu).2 ≠ 0
      · rw [if_pos q3]
        exact Evt.imp2 e0 e1 fun n a0 a1 => stO _ a0 (stO _ rfl (stO _ rfl (stO _ rfl (stO _ rfl (stC rfl (stO _ (asI_i ..) (stF rfl (stO _ rfl (stF (decF (by show ¬ ((scv (car :: nu :: pe :: r)).length : Int) < 8; rw [scv_len]; omega)) (stO _ rfl (stF (bneF (by show Int.tmod ((scv (car :: nu :: pe :: r)).length : Int) 5 = 3; rw [hmod]; omega)) (stO _ rfl (stO [.str car] rfl (stC rfl (stO _ rfl (stC rfl (stO _ rfl (stO [.str nu] rfl (stC rfl (stO _ rfl (stO _ a1 (stO _ rfl (stO _ rfl (stO _ rfl (stO _ rfl (stC rfl (stC rfl (stO _ (asI_i ..) (stT (bneT q3) (stC rfl rfl))))))))))))))))))))))))))))))
      rw [if_neg q3]
      by_cases q4 : (pP pe).2 ≠ 0
      · rw [if_pos q4]
        exact Evt.imp2 e0 (Evt.and e1 e2) fun n a0 ⟨a1, a2⟩ => stO _ a0 (stO _ rfl (stO _ rfl (stO _ rfl (stO _ rfl (stC rfl (stO _ (asI_i ..) (stF rfl (stO _ rfl (stF (decF (by show ¬ ((scv (car :: nu :: pe :: r)).length : Int) < 8; rw [scv_len]; omega)) (stO _ rfl (stF (bneF (by show Int.tmod ((scv (car :: nu :: pe :: r)).length : Int) 5 = 3; rw [hmod]; omega)) (stO _ rfl (stO [.str car] rfl (stC rfl (stO _ rfl (stC rfl (stO _ rfl (stO [.str nu] rfl (stC rfl (stO _ rfl (stO _ a1 (stO _ rfl (stO _ rfl (stO _ rfl (stO _ rfl (stC rfl (stC rfl (stO _ (asI_i ..) (stF (bneF (Classical.byContradiction q3)) (stO _ rfl (stO [.str pe] rfl (stC rfl (stO _ rfl (stO _ a2 (stO _ rfl (stO _ rfl (stO _ rfl (stO _ rfl (stO _ rfl (stC rfl (stO _ rfl (stO _ rfl (stO _ rfl (stC rfl (stO _ (asI_i ..) (stT (bneT q4) (stC rfl rfl)))))))))))))))))))))))))))))))))))))))))))))))
      rw [if_neg q4]
      have e3 : Evt fun n => ∀ x ∈ r, C (lb + 1) n F_text_Number [.str x] = some (.tup [.int .i64 (numB x).1, .int .i64 (numB x).2]) := Evt.fin _ fun x hx => text_Number_ret lb x (by have := m1 x (by simp [hx]); omega)
      have e4 : Evt fun n => ∀ l, legsP r = .ok l → C (lb + 1) n F_flight_written [flcv (mkF car (numB nu).1 (pP pe).1.1 (pP pe).1.2.1 (pP pe).1.2.2 ([] ++ l))] = some (.int .i64 (wrE (mkF car (numB nu).1 (pP pe).1.1 (pP pe).1.2.1 (pP pe).1.2.2 ([] ++ l)))) := by
        cases hl : legsP r with
        | error x => exact .all fun n l h => by cases h
        | ok l =>
          have hm := legsP_mem (r.length / 5) r l s.length (by simp at q2; omega) (fun w hw => m1 w (by simp [hw])) hl
          refine (flight_written_ret (lb + 1) (mkF car (numB nu).1 (pP pe).1.1 (pP pe).1.2.1 (pP pe).1.2.2 l) ⟨by show car.length ≤ _; omega, fun x hx => by have := hm x hx; omega⟩).mono fun n h l' e => ?_
          simp only [Except.ok.injEq] at e
          subst e
          exact h
      have hcut : ((scv (car :: nu :: pe :: r)).take (((scv (car :: nu :: pe :: r)).length : Int).toNat)).drop 3 = scv r := by
        rw [Int.toNat_natCast, List.take_length]; rfl
      have h1l : (scv (car :: nu :: pe :: r)).all (fun x => x.length == 1) = true := by simp [scv]
      have rl : r.length ≤ 10000000 := by simp at m2; omega
      refine Evt.imp2 (Evt.and e0 (Evt.and e3 e4)) (Evt.and (Evt.and e1 e2) (Evt.ge (s.length + 10))) fun n ⟨a0, a3, a4⟩ ⟨⟨a1, a2⟩, a9⟩ => ?_
      refine stO _ a0 (stO _ rfl (stO _ rfl (stO _ rfl (stO _ rfl (stC rfl (stO _ (asI_i ..) (stF rfl (stO _ rfl (stF (decF (by show ¬ ((scv (car :: nu :: pe :: r)).length : Int) < 8; rw [scv_len]; omega)) (stO _ rfl (stF (bneF (by show Int.tmod ((scv (car :: nu :: pe :: r)).length : Int) 5 = 3; rw [hmod]; omega)) (stO _ rfl (stO [.str car] rfl (stC rfl (stO _ rfl (stC rfl (stO _ rfl (stO [.str nu] rfl (stC rfl (stO _ rfl (stO _ a1 (stO _ rfl (stO _ rfl (stO _ rfl (stO _ rfl (stC rfl (stC rfl (stO _ (asI_i ..) (stF (bneF (Classical.byContradiction q3)) (stO _ rfl (stO [.str pe] rfl (stC rfl (stO _ rfl (stO _ a2 (stO _ rfl (stO _ rfl (stO _ rfl (stO _ rfl (stO _ rfl (stC rfl (stO _ rfl (stO _ rfl (stO _ rfl (stC rfl (stO _ (asI_i ..) (stF (bneF (Classical.byContradiction q4)) (stO _ rfl (stC h1l (stC (decT ⟨by decide, by show (3 : Int) ≤ ((scv (car :: nu :: pe :: r)).length : Int); rw [scv_len]; omega⟩) ?_)))))))))))))))))))))))))))))))))))))))))))))))))
      refine stO (fives (scv r).length r) ?_ (stC (fives_one _ _) ?_)
      · show itChunk [[.list _ (((scv (car :: nu :: pe :: r)).take (((scv (car :: nu :: pe :: r)).length : Int).toNat)).drop 3)], [.int .i64 5]] = _
        rw [hcut]
        exact it_words _ r rl
      · exact fparse_loop (lb + 1) s _ _ _ _ _ _ car _ _ _ _ n (r.length / 5) r [] [] (scv r).length (by simp at q2; omega) (by rw [scv_len]; exact Nat.le_refl _) rfl (by simp; omega) a3 a4 _ n (by omega)
end Go.Proofs
