/- Chapter 20 on plain data: lists of codes, by the program and by its reference. Conditions: as each says. -/
import Derived.Test.YtmandbflbfkagaaGreatDoorCb
import Derived.Test.YtmandbflbfkagaaGreatDoorHc
import Derived.Test.YtmandbflbfkagaaGreatDoorRc
set_option linter.unusedVariables false
set_option linter.unusedSimpArgs false
namespace Go.Proofs
open Go.Am
variable (lb : Nat)
def strAt (i : Nat) (x : Bs) : List Bs → Int
  | [] => -1
  | y :: t => if x = y then (i : Int) else strAt (i + 1) x t
theorem strAt_ge (x : Bs) : ∀ (l : List Bs) (i : Nat), (0 ≤ strAt i x l) ↔ x ∈ l
  | [], i => by simp [strAt]
  | y :: t, i => by
    unfold strAt
    by_cases h : x = y
    · simp [h]
    · rw [if_neg h, strAt_ge x t (i + 1)]
      simp [h]
theorem index_str_ret (an : Bool) (l : List Bs) (x : Bs) (hl : l.length ≤ 281474976710656) : Ret lb F_slices_Index_string [.list an (scv l), .str x] (.int .i64 (strAt 0 x l)) := by
  refine .top rfl (.eq (fun n => by rw [slices_Index_string_eq]) ?_)
  refine Evt.diag (m := l.length) (loopL (enc := fun s => [CV.str s]) (l := l) (by omega) (P := fun p t n k => slices_Index_string_L1 lb n k an (scv l) x (p.length : Int) = some (.int .i64 (strAt p.length x t))) ?_ ?_ l [] rfl)
  · refine .all fun n k => ?_
    rw [slices_Index_string_L1_succ]
    refine stF (decF (by rw [scv_len]; omega)) ?_
    rw [slices_Index_string_J2_eq]
    rfl
  · intro p y t hp hlt hat hw hev
    refine hev.mono fun n hn k hk => ?_
    rw [slices_Index_string_L1_succ]
    refine stT (decT hlt) (stO _ hat (stC rfl (stO _ rfl (stO _ rfl ?_))))
    unfold strAt
    by_cases h : x = y
    · refine stT (by simp [h]) ?_
      rw [if_pos h]
    · refine stF (by simp [h]) ?_
      rw [if_neg h, hw, hn k hk]
      simp
theorem contains_str_ret (an : Bool) (l : List Bs) (x : Bs) (hl : l.length ≤ 281474976710656) : Ret lb F_slices_Contains_string [.list an (scv l), .str x] (.bool (decide (x ∈ l))) := by
  refine .top rfl (.eq (fun n => by rw [slices_Contains_string_eq]) ?_)
  refine .call (index_str_ret lb an l x hl) (.all fun n => stO _ (asI_i ..) ?_)
  rw [show decide (strAt 0 x l ≥ 0) = decide (x ∈ l) from decide_eq_decide.2 (strAt_ge x l 0)]
theorem r20_has_ret (an : Bool) (l : List Bs) (x : Bs) (hl : l.length ≤ 281474976710656) : Ret lb F_r20_has [.list an (scv l), .str x] (.bool (decide (x ∈ l))) := by
  refine .top rfl (.eq (fun n => by rw [r20_has_eq]) ?_)
  have key : ∀ (p t : List Bs), p ++ t = l → x ∉ p → decide (x ∈ l) = decide (x ∈ t) := fun p t h hp => decide_eq_decide.2 (by rw [← h]; simp [hp])
  refine Evt.diag (m := l.length) ((loopL (enc := fun s => [CV.str s]) (l := l) (by omega) (P := fun p t n k => r20_has_L1 lb n k an (scv l) x (p.length : Int) = some (.bool (decide (x ∈ t)))) ?_ ?_ l [] rfl))
  · refine .all fun n k => ?_
    rw [r20_has_L1_succ]
    refine stF (decF (by rw [scv_len]; omega)) ?_
    rw [r20_has_J2_eq]
    simp
  · intro p y t hp hlt hat hw hev
    refine hev.mono fun n hn k hk => ?_
    rw [r20_has_L1_succ]
    refine stT (decT hlt) (stO _ hat (stC rfl (stO _ rfl (stO _ rfl ?_))))
    by_cases h : y = x
    · refine stT (by simp [h]) ?_
      simp [h]
    · refine stF (by simp [h]) ?_
      rw [hw, hn k hk, show decide (x ∈ y :: t) = decide (x ∈ t) from decide_eq_decide.2 (by simp [Ne.symm h])]
/-- the error of codes behind others -/
def codesF (ok : Bs → Bool) : List Bs → List Bs → Int
  | _, [] => 0
  | p, s :: r => if ok s = false then 5 else if s ∈ p then 6 else codesF ok (p ++ [s]) r
theorem take_pre {α : Type} {p t l : List α} (h : p ++ t = l) : (l.take ((p.length : Int)).toNat).drop 0 = p := by
  rw [Int.toNat_natCast, ← h]
  simp
def paxB (s : Bs) : Bool := codeB s 3 3
theorem cond_passenger_ret (s : Bs) (hs : s.length ≤ 281474976710656) : Ret lb F_cond_passenger [.str s] (.bool (paxB s)) := by
  refine .top rfl (.eq (fun n => by rw [cond_passenger_eq]) ?_)
  exact (text_Code_ret lb s 3 3 hs).mono fun n a => stO _ a rfl

theorem codes_text_Carrier_ret (an : Bool) (l : List Bs) (hl : l.length ≤ 281474976710656) (hs : ∀ s ∈ l, s.length ≤ 281474976710656) :
    Ret lb F_cond_codes [.list an (scv l), .fn F_text_Carrier] (.int .i64 (if l = [] then 2 else codesF carrierB [] l)) := by
  refine .top rfl (.eq (fun n => by rw [cond_codes_text_Carrier_eq]) ?_)
  by_cases h0 : l = []
  · subst h0
    exact .all fun n => stT rfl rfl
  rw [if_neg h0]
  have hp := List.length_pos_iff.2 h0
  have e1 : Evt fun n => ∀ s ∈ l, C lb n F_text_Carrier [.str s] = some (.bool (carrierB s)) := Evt.fin _ fun s h => text_Carrier_ret lb s (hs s h)
  have e2 : Evt fun n => ∀ q ∈ (List.range (l.length + 1)).map (fun i => l.take i), ∀ s ∈ l, C lb n F_slices_Contains_string [.list an (scv q), .str s] = some (.bool (decide (s ∈ q))) := Evt.fin _ fun q hq => Evt.fin _ fun s h => contains_str_ret lb an q s (by
    obtain ⟨i, _, rfl⟩ := List.mem_map.1 hq
    simp; omega)
  have hh : ∀ n, (∀ s ∈ l, C lb n F_text_Carrier [.str s] = some (.bool (carrierB s))) → (∀ q ∈ (List.range (l.length + 1)).map (fun i => l.take i), ∀ s ∈ l, C lb n F_slices_Contains_string [.list an (scv q), .str s] = some (.bool (decide (s ∈ q)))) →
      ∀ t p, p ++ t = l → ∀ k, t.length < k → cond_codes_text_Carrier_L1 lb n k an (scv l) (p.length : Int) = some (.int .i64 (codesF carrierB p t)) := by
    intro n a1 a2 t
    induction t with
    | nil =>
      intro p hp k hk
      obtain ⟨k, rfl⟩ : ∃ j, k = j + 1 := ⟨k - 1, by simp at hk; omega⟩
      have hpl : p = l := by simpa using hp
      rw [cond_codes_text_Carrier_L1_succ]
      refine stF (decF (by rw [hpl, scv_len]; omega)) ?_
      rw [cond_codes_text_Carrier_J2_eq]
      rfl
    | cons x t ih =>
      intro p hp k hk
      obtain ⟨k, rfl⟩ : ∃ j, k = j + 1 := ⟨k - 1, by simp at hk; omega⟩
      have hpl : l.length = p.length + (t.length + 1) := by rw [← hp]; simp
      have hx : x ∈ l := by rw [← hp]; simp
      have hq : p ∈ (List.range (l.length + 1)).map (fun i => l.take i) := List.mem_map.2 ⟨p.length, List.mem_range.2 (by omega), by rw [← hp]; simp⟩
      have hsc : ((scv l).take ((p.length : Int)).toNat).drop 0 = scv p := by rw [← scv_len p]; exact take_pre (t := scv (x :: t)) (by rw [← scv_app, hp])
      rw [cond_codes_text_Carrier_L1_succ]
      refine stT (decT (by rw [scv_len]; omega)) (stO _ (txt_at (s := x) (by rw [← hp]; simp)) (stC rfl (stO _ rfl (stO _ (a1 x hx) (stO _ rfl ?_)))))
      unfold codesF
      cases hb : carrierB x with
      | false => exact stT rfl rfl
      | true =>
        refine stF rfl (stC (all_one_scv l) (stC (decT (by rw [scv_len]; omega)) ?_))
        rw [hsc]
        refine stO _ (a2 p hq x hx) (stO _ rfl ?_)
        rw [if_neg (by simp)]
        by_cases hm : x ∈ p
        · rw [if_pos hm]
          exact stT (decT hm) rfl
        · rw [if_neg hm]
          refine stF (decF hm) ?_
          rw [wrap64 (by omega) (by omega), show (p.length : Int) + 1 = ((p ++ [x]).length : Int) by simp]
          exact ih (p ++ [x]) (by rw [← hp]; simp) k (by simp at hk; omega)
  exact Evt.imp2 e1 (Evt.and e2 (Evt.ge (l.length + 1))) fun n a ⟨b, hn⟩ => stF (beqF (by rw [scv_len]; omega)) (hh n a b l [] rfl n (by omega))

theorem codes_text_Airport_ret (an : Bool) (l : List Bs) (hl : l.length ≤ 281474976710656) (hs : ∀ s ∈ l, s.length ≤ 281474976710656) :
    Ret lb F_cond_codes [.list an (scv l), .fn F_text_Airport] (.int .i64 (if l = [] then 2 else codesF airportB [] l)) := by
  refine .top rfl (.eq (fun n => by rw [cond_codes_text_Airport_eq]) ?_)
  by_cases h0 : l = []
  · subst h0
    exact .all fun n => stT rfl rfl
  rw [if_neg h0]
  have hp := List.length_pos_iff.2 h0
  have e1 : Evt fun n => ∀ s ∈ l, C lb n F_text_Airport [.str s] = some (.bool (airportB s)) := Evt.fin _ fun s h => text_Airport_ret lb s (hs s h)
  have e2 : Evt fun n => ∀ q ∈ (List.range (l.length + 1)).map (fun i => l.take i), ∀ s ∈ l, C lb n F_slices_Contains_string [.list an (scv q), .str s] = some (.bool (decide (s ∈ q))) := Evt.fin _ fun q hq => Evt.fin _ fun s h => contains_str_ret lb an q s (by
    obtain ⟨i, _, rfl⟩ := List.mem_map.1 hq
    simp; omega)
  have hh : ∀ n, (∀ s ∈ l, C lb n F_text_Airport [.str s] = some (.bool (airportB s))) → (∀ q ∈ (List.range (l.length + 1)).map (fun i => l.take i), ∀ s ∈ l, C lb n F_slices_Contains_string [.list an (scv q), .str s] = some (.bool (decide (s ∈ q)))) →
      ∀ t p, p ++ t = l → ∀ k, t.length < k → cond_codes_text_Airport_L1 lb n k an (scv l) (p.length : Int) = some (.int .i64 (codesF airportB p t)) := by
    intro n a1 a2 t
    induction t with
    | nil =>
      intro p hp k hk
      obtain ⟨k, rfl⟩ : ∃ j, k = j + 1 := ⟨k - 1, by simp at hk; omega⟩
      have hpl : p = l := by simpa using hp
      rw [cond_codes_text_Airport_L1_succ]
      refine stF (decF (by rw [hpl, scv_len]; omega)) ?_
      rw [cond_codes_text_Airport_J2_eq]
      rfl
    | cons x t ih =>
      intro p hp k hk
      obtain ⟨k, rfl⟩ : ∃ j, k = j + 1 := ⟨k - 1, by simp at hk; omega⟩
      have hpl : l.length = p.length + (t.length + 1) := by rw [← hp]; simp
      have hx : x ∈ l := by rw [← hp]; simp
      have hq : p ∈ (List.range (l.length + 1)).map (fun i => l.take i) := List.mem_map.2 ⟨p.length, List.mem_range.2 (by omega), by rw [← hp]; simp⟩
      have hsc : ((scv l).take ((p.length : Int)).toNat).drop 0 = scv p := by rw [← scv_len p]; exact take_pre (t := scv (x :: t)) (by rw [← scv_app, hp])
      rw [cond_codes_text_Airport_L1_succ]
      refine stT (decT (by rw [scv_len]; omega)) (stO _ (txt_at (s := x) (by rw [← hp]; simp)) (stC rfl (stO _ rfl (stO _ (a1 x hx) (stO _ rfl ?_)))))
      unfold codesF
      cases hb : airportB x with
      | false => exact stT rfl rfl
      | true =>
        refine stF rfl (stC (all_one_scv l) (stC (decT (by rw [scv_len]; omega)) ?_))
        rw [hsc]
        refine stO _ (a2 p hq x hx) (stO _ rfl ?_)
        rw [if_neg (by simp)]
        by_cases hm : x ∈ p
        · rw [if_pos hm]
          exact stT (decT hm) rfl
        · rw [if_neg hm]
          refine stF (decF hm) ?_
          rw [wrap64 (by omega) (by omega), show (p.length : Int) + 1 = ((p ++ [x]).length : Int) by simp]
          exact ih (p ++ [x]) (by rw [← hp]; simp) k (by simp at hk; omega)
  exact Evt.imp2 e1 (Evt.and e2 (Evt.ge (l.length + 1))) fun n a ⟨b, hn⟩ => stF (beqF (by rw [scv_len]; omega)) (hh n a b l [] rfl n (by omega))

theorem codes_cond_passenger_ret (an : Bool) (l : List Bs) (hl : l.length ≤ 281474976710656) (hs : ∀ s ∈ l, s.length ≤ 281474976710656) :
    Ret lb F_cond_codes [.list an (scv l), .fn F_cond_passenger] (.int .i64 (if l = [] then 2 else codesF paxB [] l)) := by
  refine .top rfl (.eq (fun n => by rw [cond_codes_cond_passenger_eq]) ?_)
  by_cases h0 : l = []
  · subst h0
    exact .all fun n => stT rfl rfl
  rw [if_neg h0]
  have hp := List.length_pos_iff.2 h0
  have e1 : Evt fun n => ∀ s ∈ l, C lb n F_cond_passenger [.str s] = some (.bool (paxB s)) := Evt.fin _ fun s h => cond_passenger_ret lb s (hs s h)
  have e2 : Evt fun n => ∀ q ∈ (List.range (l.length + 1)).map (fun i => l.take i), ∀ s ∈ l, C lb n F_slices_Contains_string [.list an (scv q), .str s] = some (.bool (decide (s ∈ q))) := Evt.fin _ fun q hq => Evt.fin _ fun s h => contains_str_ret lb an q s (by
    obtain ⟨i, _, rfl⟩ := List.mem_map.1 hq
    simp; omega)
  have hh : ∀ n, (∀ s ∈ l, C lb n F_cond_passenger [.str s] = some (.bool (paxB s))) → (∀ q ∈ (List.range (l.length + 1)).map (fun i => l.take i), ∀ s ∈ l, C lb n F_slices_Contains_string [.list an (scv q), .str s] = some (.bool (decide (s ∈ q)))) →
      ∀ t p, p ++ t = l → ∀ k, t.length < k → cond_codes_cond_passenger_L1 lb n k an (scv l) (p.length : Int) = some (.int .i64 (codesF paxB p t)) := by
    intro n a1 a2 t
    induction t with
    | nil =>
      intro p hp k hk
      obtain ⟨k, rfl⟩ : ∃ j, k = j + 1 := ⟨k - 1, by simp at hk; omega⟩
      have hpl : p = l := by simpa using hp
      rw [cond_codes_cond_passenger_L1_succ]
      refine stF (decF (by rw [hpl, scv_len]; omega)) ?_
      rw [cond_codes_cond_passenger_J2_eq]
      rfl
    | cons x t ih =>
      intro p hp k hk
      obtain ⟨k, rfl⟩ : ∃ j, k = j + 1 := ⟨k - 1, by simp at hk; omega⟩
      have hpl : l.length = p.length + (t.length + 1) := by rw [← hp]; simp
      have hx : x ∈ l := by rw [← hp]; simp
      have hq : p ∈ (List.range (l.length + 1)).map (fun i => l.take i) := List.mem_map.2 ⟨p.length, List.mem_range.2 (by omega), by rw [← hp]; simp⟩
      have hsc : ((scv l).take ((p.length : Int)).toNat).drop 0 = scv p := by rw [← scv_len p]; exact take_pre (t := scv (x :: t)) (by rw [← scv_app, hp])
      rw [cond_codes_cond_passenger_L1_succ]
      refine stT (decT (by rw [scv_len]; omega)) (stO _ (txt_at (s := x) (by rw [← hp]; simp)) (stC rfl (stO _ rfl (stO _ (a1 x hx) (stO _ rfl ?_)))))
      unfold codesF
      cases hb : paxB x with
      | false => exact stT rfl rfl
      | true =>
        refine stF rfl (stC (all_one_scv l) (stC (decT (by rw [scv_len]; omega)) ?_))
        rw [hsc]
        refine stO _ (a2 p hq x hx) (stO _ rfl ?_)
        rw [if_neg (by simp)]
        by_cases hm : x ∈ p
        · rw [if_pos hm]
          exact stT (decT hm) rfl
        · rw [if_neg hm]
          refine stF (decF hm) ?_
          rw [wrap64 (by omega) (by omega), show (p.length : Int) + 1 = ((p ++ [x]).length : Int) by simp]
          exact ih (p ++ [x]) (by rw [← hp]; simp) k (by simp at hk; omega)
  exact Evt.imp2 e1 (Evt.and e2 (Evt.ge (l.length + 1))) fun n a ⟨b, hn⟩ => stF (beqF (by rw [scv_len]; omega)) (hh n a b l [] rfl n (by omega))

end Go.Proofs
