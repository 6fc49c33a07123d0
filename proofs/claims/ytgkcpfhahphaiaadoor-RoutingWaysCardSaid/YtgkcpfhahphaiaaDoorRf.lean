/- Laws of chapter 22 on plain data: RoutingChecks, RoutingAllows. Conditions: as each says. -/
import Derived.Test.YtgkcpfhahphaiaaDoorRe
import Derived.Test.YtgkcpfhahphaiaaDoorW22
set_option linter.unusedSimpArgs false
namespace Go.Proofs
open Go.Am
variable (lb : Bool)
abbrev rcv (num : Int) (an : Bool) (l : List Lk) (miles : Int) : CV := .agg [.int .i64 num, .list an (lcv l), .int .i64 miles]
theorem rchk_J1 (num miles : Int) (an : Bool) (l : List Lk) (hb : ∀ x ∈ l, x.1.length ≤ 1000000000 ∧ x.2.length ≤ 1000000000) (F : List Ft) (hF : F.length ≤ 1) :
    Evt fun n => r22_Check_J1 lb n num an (lcv l) miles F.isEmpty (fcv F) = some (lstF (F ++ (linksF l ++ milesF miles))) := by
  unfold linksF
  by_cases h : l.length > 128
  · refine .from 1 fun n => ?_
    rw [r22_Check_J1_eq]
    refine stT (decT (by rw [lcv_len]; omega)) (stC (room_small (by rw [fcv_len]; omega) (by omega)) ?_)
    rw [fcv_snoc, nil_snoc F.isEmpty F, r22_Check_J2_eq, r22_Check_L3_succ, if_pos h]
    have fin : r22_Check_J6 lb (n + 1) num an (lcv l) miles (F ++ [((4 : Int), ([108, 105, 110, 107, 115] : Bs))]).isEmpty (fcv (F ++ [((4 : Int), ([108, 105, 110, 107, 115] : Bs))])) 0 = some (lstF (F ++ ([((4 : Int), ([108, 105, 110, 107, 115] : Bs))] ++ milesF miles))) := by
      rw [rchk_J6 lb (n + 1) num miles an l _ (by simp; omega) 0, List.append_assoc]
    refine stT (decT (by rw [lcv_len]; omega)) (stF (decF (by rw [lcv_len]; omega)) fin)
  · refine (Evt.diag (rchk_loop lb num miles an l (by omega) hb l [] F rfl (by simp; omega))).mono fun n hn => ?_
    rw [r22_Check_J1_eq, if_neg h]
    refine stF (decF (by rw [lcv_len]; omega)) ?_
    rw [r22_Check_J2_eq]
    exact hn
theorem r22_Check_ret (num miles : Int) (an : Bool) (l : List Lk) (hb : ∀ x ∈ l, x.1.length ≤ 1000000000 ∧ x.2.length ≤ 1000000000) : Ret lb F_r22_Check [rcv num an l miles] (lstF (checkF num l miles)) := by
  refine .top rfl (.eq (fun n => by rw [r22_Check_eq]) ?_)
  unfold checkF numF
  have y := rchk_J1 lb num miles an l hb [(2, [110, 117, 109, 98, 101, 114])] (by simp)
  have z := rchk_J1 lb num miles an l hb [] (by simp)
  by_cases h1 : num < 1
  · refine y.mono fun n hn => ?_
    rw [if_pos (show num < 1 ∨ num > 9999 from .inl h1)]
    exact stT (decT h1) hn
  · by_cases h2 : num > 9999
    · refine y.mono fun n hn => ?_
      rw [if_pos (show num < 1 ∨ num > 9999 from .inr h2)]
      exact stF (decF h1) (stT (decT h2) hn)
    · refine z.mono fun n hn => ?_
      rw [if_neg (show ¬ (num < 1 ∨ num > 9999) by omega)]
      exact stF (decF h1) (stF (decF h2) hn)

/-! faults compared -/
def fenc (f : Ft) : List CV := [CV.int .i64 f.1, CV.str f.2]
theorem fcv_at {l : List Ft} {i : Nat} {f : Ft} (h : l[i]? = some f) : atL (fcv l) (i : Int) = some [CV.int .i64 f.1, CV.str f.2] := atL_ok (by simp [fcv, h])
/-! Allows -/
def stepsB (l : List Lk) : Bs → List Bs → Bool
  | _, [] => true
  | a, b :: t => decide ((a, b) ∈ l) && stepsB l b t
def allowsB (l : List Lk) : List Bs → Bool
  | [] => true
  | c :: t => l.isEmpty || stepsB l c t
theorem allows_loop (num miles : Int) (an bn : Bool) (l : List Lk) (hl : l.length ≤ 1000000000) (cs : List Bs) (hc : cs.length ≤ 1000000000) : ∀ t p x, p ++ x :: t = cs → Evt fun n => ∀ k, t.length < k →
    routing_Allows_L1 lb n k num an (lcv l) miles bn (scv cs) ((p.length : Int) + 1) = some (.bool (stepsB l x t)) := by
  intro t
  induction t with
  | nil =>
    intro p x hp
    refine .all fun n k hk => ?_
    obtain ⟨k, rfl⟩ : ∃ m, k = m + 1 := ⟨k - 1, by simp at hk; omega⟩
    rw [routing_Allows_L1_succ]
    refine stF (decF (by rw [scv_len, ← hp]; simp)) ?_
    rw [routing_Allows_J2_eq]
    rfl
  | cons y t ih =>
    intro p x hp
    have hal : cs.length = p.length + (t.length + 2) := by rw [← hp]; simp
    have hx : atL (scv cs) (p.length : Int) = some [.str x] := atL_ok (scv_get (by rw [← hp]; simp))
    have hy : atL (scv cs) ((p.length : Int) + 1) = some [.str y] := by
      have : atL (scv cs) ((p.length + 1 : Nat) : Int) = some [.str y] := atL_ok (scv_get (by rw [← hp]; simp))
      simpa using this
    refine Evt.imp2 (ih (p ++ [x]) y (by rw [← hp]; simp)) (contains_link_ret lb an l (x, y) hl) fun n hn hct k hk => ?_
    obtain ⟨k, rfl⟩ : ∃ m, k = m + 1 := ⟨k - 1, by simp at hk; omega⟩
    have hn := hn k (by simp at hk; omega)
    rw [routing_Allows_L1_succ]
    refine stT (decT (by rw [scv_len]; omega)) (stO _ (by rw [wrap64 (by omega) (by omega), Int.add_sub_cancel]; exact hx) (stC rfl (stO _ rfl (stO _ hy (stC rfl (stO _ rfl (stC rfl (stC rfl (stO _ hct (stO _ rfl ?_))))))))))
    unfold stepsB
    by_cases hm : (x, y) ∈ l
    · refine stF (by simp [hm]) ?_
      rw [decT hm, Bool.true_and, wrap64 (by omega) (by omega)]
      simp only [List.length_append, List.length_cons, List.length_nil] at hn
      exact hn
    · refine stT (by simp [hm]) ?_
      rw [decF hm, Bool.false_and]
theorem routing_Allows_ret (num miles : Int) (an bn : Bool) (l : List Lk) (hl : l.length ≤ 1000000000) (cs : List Bs) (hc : cs.length ≤ 1000000000) : Ret lb F_routing_Allows [rcv num an l miles, .list bn (scv cs)] (.bool (allowsB l cs)) := by
  refine .top rfl (.eq (fun n => by rw [routing_Allows_eq]) ?_)
  by_cases h0 : l = []
  · subst h0
    refine .all fun n => stT rfl ?_
    cases cs <;> rfl
  have hlp := List.length_pos_iff.2 h0
  have h1 : (((lcv l).length : Int) == 0) = false := beqF (by rw [lcv_len]; omega)
  cases cs with
  | nil =>
    refine .from 1 fun n => stF h1 ?_
    rw [routing_Allows_L1_succ]
    refine stF rfl ?_
    rw [routing_Allows_J2_eq]
    rfl
  | cons c t =>
    refine (Evt.diag (allows_loop lb num miles an bn l hl (c :: t) hc t [] c rfl)).mono fun n hn => stF h1 ?_
    have : allowsB l (c :: t) = stepsB l c t := by
      unfold allowsB
      cases l with
      | nil => exact absurd rfl h0
      | cons _ _ => rfl
    rw [this]
    exact hn
/-! the laws -/
theorem wake22 : Evt fun n => (optO (C lb n F_l22_awake []) fun r => some r) = some (.bool true) := .call (awake22_ok lb) .done
theorem small_links {l : List Lk} (h : bigB l = false) : l.length ≤ 140 ∧ ∀ x ∈ l, x.1.length ≤ 2000 ∧ x.2.length ≤ 2000 := by
  unfold bigB at h
  simp only [Bool.or_eq_false_iff, decide_eq_false_iff_not] at h
  have hl : l.length ≤ 140 := by omega
  refine ⟨hl, fun x hx => ?_⟩
  rw [List.take_of_length_le (by omega)] at h
  have := lkLen_mem hx
  omega
theorem checkF_len (num miles : Int) (l : List Lk) : (checkF num l miles).length ≤ 1000000 := by
  have hloop : ∀ t p, (loopF p t).length ≤ 3 * t.length := by
    intro t
    induction t with
    | nil => intro p; simp [loopF]
    | cons x t ih =>
      intro p
      have := ih (p ++ [x])
      have := linkF_len p x
      simp [loopF]; omega
  unfold checkF
  have h1 : (numF num).length ≤ 1 := by unfold numF; split <;> simp
  have h2 : (milesF miles).length ≤ 1 := by unfold milesF; split <;> simp
  have h3 : (linksF l).length ≤ 400 := by
    unfold linksF
    split
    · simp
    · have := hloop l []; omega
  simp only [List.length_append]
  omega
end Go.Proofs
