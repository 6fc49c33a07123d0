/- Check of chapter 22 and of its reference, on plain data: both give checkF. Conditions: as each says. -/
import Derived.Test.YtgkcpfhahphaiaaDoorRb
import Derived.Test.YtgkcpfhahphaiaaDoorRn
set_option linter.unusedSimpArgs false
namespace Go.Proofs
open Go.Am
variable (lb : Bool)
theorem linkF_len (p : List Lk) (x : Lk) : (linkF p x).length ≤ 3 := by unfold linkF; rw [List.length_map]; exact linkE_len p x
theorem icv_get {E : List Int} {i : Nat} {e : Int} (h : E[i]? = some e) : (icv E)[i]? = some [.int .i64 e] := by simp [icv, h]

/-! the program's Check -/
theorem chk_inner (num miles : Int) (an : Bool) (l : List Lk) (i : Nat) (hi : i ≤ 1000) (E : List Int) (hE : E.length ≤ 1000) (F : List Ft) (hF : F.length ≤ 10000) (r : CV) :
    ∀ u q, q ++ u = E → Evt fun n => ∀ j k, u.length < j →
      routing_Check_L3 lb n k num an (lcv l) miles (IntKind.wrap .i64 ((i : Int) + 1)) (F ++ E.map fun e => (e, linkWord ++ Lib.itoa (i : Int))).isEmpty (fcv (F ++ E.map fun e => (e, linkWord ++ Lib.itoa (i : Int)))) = some r →
      routing_Check_L4 lb n j k num an (lcv l) miles (i : Int) (lstI E) (E.isEmpty, icv E) (q.length : Int) (F ++ q.map fun e => (e, linkWord ++ Lib.itoa (i : Int))).isEmpty (fcv (F ++ q.map fun e => (e, linkWord ++ Lib.itoa (i : Int)))) = some r
  | [], q, h => .all fun n j k hj hr => by
    obtain ⟨j, rfl⟩ : ∃ m, j = m + 1 := ⟨j - 1, by simp at hj; omega⟩
    have h : q = E := by simpa using h
    subst h
    rw [routing_Check_L4_succ, decF (by simp only [icv_len]; omega), cond_false, routing_Check_J5_eq]
    exact hr
  | e :: u, q, h => by
    have hq : E.length = q.length + (u.length + 1) := by rw [← h]; simp
    have hat : atL (icv E) (q.length : Int) = some [.int .i64 e] := atL_ok (icv_get (by rw [← h]; simp))
    have hil := itoa_len (z := (i : Int)) (by omega) (by omega)
    refine (Evt.imp2 (chk_inner num miles an l i hi E hE F hF r u (q ++ [e]) (by rw [← h]; simp)) (text_Decimal_ret lb (i : Int) (by omega) (by omega)) fun n h1 h2 => ?_)
    intro j k hj hr
    obtain ⟨j, rfl⟩ : ∃ m, j = m + 1 := ⟨j - 1, by simp at hj; omega⟩
    have h1 := h1 j k (by simp at hj; omega) hr
    rw [routing_Check_L4_succ, decT (by simp only [icv_len]; omega), cond_true]
    simp only [lstI, asL_l, hat, h2, optO_s, List.length_cons, List.length_nil, Nat.zero_add, beq_self_eq_true, chkO_t, get0, asS_s, isCell_int]
    rw [decT (by omega), room_small (by rw [fcv_len, List.length_append, List.length_map]; omega) (by omega), wrap64 (by omega) (by omega)]
    simp only [chkO_t]
    rw [show ([108, 105, 110, 107, 32] : List UInt8) = linkWord from rfl, fcv_snoc, nil_snoc _ (F ++ q.map fun e => (e, linkWord ++ Lib.itoa (i : Int))) (e, linkWord ++ Lib.itoa (i : Int))]
    rw [show (q.length : Int) + 1 = ((q ++ [e]).length : Int) by simp]
    simpa only [lstI, List.map_append, List.map_cons, List.map_nil, List.append_assoc] using h1
theorem chk_J2 (n : Nat) (num miles : Int) (an : Bool) (l : List Lk) (F : List Ft) (hF : F.length ≤ 10000) : routing_Check_J2 lb n num an (lcv l) miles F.isEmpty (fcv F) = some (lstF (F ++ milesF miles)) := by
  rw [routing_Check_J2_eq, room_small (by rw [fcv_len]; omega) (by omega)]
  unfold milesF
  simp only [chkO_t, fcv_snoc]
  by_cases h1 : miles < 0
  · rw [decT h1, cond_true, if_pos (.inl h1), nil_snoc F.isEmpty F]
    rfl
  · rw [decF h1, cond_false]
    by_cases h2 : miles > 99999
    · rw [decT h2, cond_true, if_pos (.inr h2), nil_snoc F.isEmpty F]
      rfl
    · rw [decF h2, cond_false, if_neg (by omega), List.append_nil]
      rfl
theorem chk_loop (num miles : Int) (an : Bool) (l : List Lk) (hl : l.length ≤ 128) (hb : ∀ x ∈ l, x.1.length ≤ 1000000000 ∧ x.2.length ≤ 1000000000) : ∀ t p (F : List Ft), p ++ t = l → F.length ≤ 1 + 3 * p.length →
    Evt fun n => ∀ k, t.length < k → routing_Check_L3 lb n k num an (lcv l) miles (p.length : Int) F.isEmpty (fcv F) = some (lstF (F ++ (loopF p t ++ milesF miles)))
  | [], p, F, h, hF => .all fun n k hk => by
    obtain ⟨k, rfl⟩ : ∃ m, k = m + 1 := ⟨k - 1, by simp at hk; omega⟩
    have h : p = l := by simpa using h
    subst h
    rw [routing_Check_L3_succ, decF (by rw [lcv_len]; omega), cond_false]
    exact chk_J2 lb n num miles an p F (by omega)
  | x :: t, p, F, h, hF => by
    have hpl : l.length = p.length + (t.length + 1) := by rw [← h]; simp
    have hx := hb x (by rw [← h]; simp)
    have hln := linkF_len p x
    have ih := chk_loop num miles an l hl hb t (p ++ [x]) (F ++ linkF p x) (by rw [← h]; simp) (by simp; omega)
    have inner := chk_inner lb num miles an l p.length (by omega) (linkE p x) (by have := linkE_len p x; omega) F (by omega) (lstF (F ++ (loopF p (x :: t) ++ milesF miles))) (linkE p x) [] rfl
    refine Evt.imp2 (Evt.imp2 ih (inner.and (Evt.ge 4)) fun n h1 h2 => And.intro h1 h2) (link_ret lb an l p t x h (by omega) hx.1 hx.2) fun n h12 h3 => ?_
    obtain ⟨h1, h2, h4⟩ := h12
    intro k hk
    obtain ⟨k, rfl⟩ : ∃ m, k = m + 1 := ⟨k - 1, by simp at hk; omega⟩
    have h1 := h1 k (by simp at hk; omega)
    rw [routing_Check_L3_succ, decT (by rw [lcv_len]; omega), cond_true, h3]
    simp only [optO_s]
    have := linkE_len p x
    have h2 := h2 n k (by omega) (by
      rw [wrap64 (by omega) (by omega), show (p.length : Int) + 1 = ((p ++ [x]).length : Int) by simp]
      show routing_Check_L3 lb n k num an (lcv l) miles ((p ++ [x]).length : Int) (F ++ linkF p x).isEmpty (fcv (F ++ linkF p x)) = _
      rw [h1]
      simp [loopF])
    simp only [List.map_nil, List.append_nil] at h2
    exact h2
theorem chk_J1 (num miles : Int) (an : Bool) (l : List Lk) (hb : ∀ x ∈ l, x.1.length ≤ 1000000000 ∧ x.2.length ≤ 1000000000) (F : List Ft) (hF : F.length ≤ 1) :
    Evt fun n => routing_Check_J1 lb n num an (lcv l) miles F.isEmpty (fcv F) = some (lstF (F ++ (linksF l ++ milesF miles))) := by
  refine .eq (fun n => by rw [routing_Check_J1_eq]) ?_
  unfold linksF
  by_cases h : l.length > 128
  · have hd : decide (((lcv l).length : Int) > 128) = true := decT (by rw [lcv_len]; omega)
    refine .all fun n => ?_
    rw [hd, cond_true, if_pos h, room_small (by rw [fcv_len]; omega) (by omega), chkO_t, fcv_snoc, nil_snoc F.isEmpty F, chk_J2 lb n num miles an l _ (by simp; omega), List.append_assoc]
  · have hd : decide (((lcv l).length : Int) > 128) = false := decF (by rw [lcv_len]; omega)
    rw [if_neg h]
    refine (Evt.diag (chk_loop lb num miles an l (by omega) hb l [] F rfl (by simp; omega))).mono fun n hn => ?_
    rw [hd, cond_false]
    exact hn
theorem routing_Check_ret (num miles : Int) (an : Bool) (l : List Lk) (hb : ∀ x ∈ l, x.1.length ≤ 1000000000 ∧ x.2.length ≤ 1000000000) :
    Ret lb F_routing_Check [.agg [.int .i64 num, .list an (lcv l), .int .i64 miles]] (lstF (checkF num l miles)) := by
  refine .top rfl (.eq (fun n => by rw [routing_Check_eq]) ?_)
  unfold checkF numF
  have y := chk_J1 lb num miles an l hb [(2, [110, 117, 109, 98, 101, 114])] (by simp)
  have z := chk_J1 lb num miles an l hb [] (by simp)
  by_cases h1 : num < 1
  · simp only [decT h1, cond_true, if_pos (show num < 1 ∨ num > 9999 from .inl h1)]
    exact y
  · simp only [decF h1, cond_false]
    by_cases h2 : num > 9999
    · simp only [decT h2, cond_true, if_pos (show num < 1 ∨ num > 9999 from .inr h2)]
      exact y
    · simp only [decF h2, cond_false, if_neg (show ¬ (num < 1 ∨ num > 9999) by omega)]
      exact z
end Go.Proofs
