/- The laws of chapter 31 on plain data: StatusTells, StatusBack, StatusEnds. Conditions: none. -/
import Derived.Test.YtlfopiicpgggfaaG31
import Derived.Test.YtlfopiicpgggfaaRet
namespace Go.Proofs
open Go.Am
/-- the status after an event -/
def af (a e : Int) : Int :=
  if a = 0 then (if e = 1 then 1 else if e = 2 then 2 else 0)
  else if a = 3 ∨ a = 4 then (if e = 7 then 1 else if e = 5 then 4 else if e = 6 then 5 else if e = 8 then 7 else 0)
  else if a = 1 then (if e = 5 then 4 else if e = 6 then 5 else if e = 8 then 7 else 0)
  else if a = 2 then (if e = 3 then 3 else if e = 4 then 6 else if e = 6 then 5 else if e = 8 then 7 else 0)
  else if a = 5 then (if e = 1 then 1 else if e = 8 then 7 else 0)
  else if a = 6 then (if e = 8 then 7 else 0) else 0
variable (lb : Bool)
theorem ev_cases (e : Int) : e = 1 ∨ e = 2 ∨ e = 3 ∨ e = 4 ∨ e = 5 ∨ e = 6 ∨ e = 7 ∨ e = 8 ∨ (e ≠ 1 ∧ e ≠ 2 ∧ e ≠ 3 ∧ e ≠ 4 ∧ e ≠ 5 ∧ e ≠ 6 ∧ e ≠ 7 ∧ e ≠ 8) := by omega
theorem st_cases (a : Int) : a = 0 ∨ a = 1 ∨ a = 2 ∨ a = 3 ∨ a = 4 ∨ a = 5 ∨ a = 6 ∨ a = 7 ∨ (a ≠ 0 ∧ a ≠ 1 ∧ a ≠ 2 ∧ a ≠ 3 ∧ a ≠ 4 ∧ a ≠ 5 ∧ a ≠ 6 ∧ a ≠ 7) := by omega
theorem dropped_ret (e : Int) : Ret lb F_status_dropped [.int .i64 e] (.int .i64 (if e = 6 then 5 else if e = 8 then 7 else 0)) := by
  refine .top rfl (.all fun n => ?_)
  rw [status_dropped_eq]
  by_cases h : e = 6
  · subst h; rfl
  by_cases h8 : e = 8
  · subst h8; rfl
  simp [Bool.cond_eq_ite, h, h8]
theorem after_ret (a e : Int) : Ret lb F_status_after [.int .i64 a, .int .i64 e] (.int .i64 (af a e)) := by
  refine .top rfl ((dropped_ret lb e).mono fun n hd => ?_)
  rw [status_after_eq]
  simp only [hd, optO_s]
  unfold af
  rcases st_cases a with rfl | rfl | rfl | rfl | rfl | rfl | rfl | rfl | ⟨h0, h1, h2, h3, h4, h5, h6, h7⟩
  all_goals first
    | (rcases ev_cases e with rfl | rfl | rfl | rfl | rfl | rfl | rfl | rfl | ⟨e1, e2, e3, e4, e5, e6, e7, e8⟩ <;> first | rfl | simp [Bool.cond_eq_ite, *])
    | simp [Bool.cond_eq_ite, *]
theorem step_ret (a e : Int) : Ret lb F_r31_step [.int .i64 a, .int .i64 e] (.int .i64 (if af a e = 0 then -1 else af a e)) := by
  refine .top rfl (.all fun n => ?_)
  rw [r31_step_eq]
  unfold af
  rcases st_cases a with rfl | rfl | rfl | rfl | rfl | rfl | rfl | rfl | ⟨h0, h1, h2, h3, h4, h5, h6, h7⟩
  all_goals rcases ev_cases e with rfl | rfl | rfl | rfl | rfl | rfl | rfl | rfl | ⟨e1, e2, e3, e4, e5, e6, e7, e8⟩
  all_goals first | rfl | (simp [Bool.cond_eq_ite, *]; done) | (simp [Bool.cond_eq_ite, *]; omega)
theorem af_range (a e : Int) : 0 ≤ af a e ∧ af a e ≤ 7 := by
  unfold af
  repeat' split
  all_goals omega
theorem next_ret (a e : Int) : Ret lb F_status_Next [.int .i64 a, .int .i64 e] (.tup [.int .i64 (af a e), .int .i64 (if af a e = 0 then 10 else 0)]) := by
  refine .top rfl ((after_ret lb a e).mono fun n h => ?_)
  rw [status_Next_eq, h]
  simp only [optO_s, asI_i]
  by_cases h : af a e = 0
  · simp [h]
  · simp [Bool.cond_eq_ite, h]
theorem rnext_ret (a e : Int) : Ret lb F_r31_Next [.int .i64 a, .int .i64 e] (.tup [.int .i64 (af a e), .int .i64 (if af a e = 0 then 10 else 0)]) := by
  refine .top rfl ((step_ret lb a e).mono fun n h => ?_)
  rw [r31_Next_eq, h]
  simp only [optO_s, asI_i]
  have := af_range a e
  by_cases h : af a e = 0
  · simp [h]
  · simp [Bool.cond_eq_ite, h]; omega
theorem seat_ret (a : Int) : Ret lb F_status_Seat [.int .i64 a] (.bool (a == 1 || a == 3 || a == 4)) := by
  refine .top rfl (.all fun n => ?_)
  rw [status_Seat_eq]
  cases h1 : (a == 1) <;> cases h3 : (a == 3) <;> simp
theorem rseat_ret (a : Int) : Ret lb F_r31_Seat [.int .i64 a] (.bool (a == 1 || a == 3 || a == 4)) := by
  refine .top rfl (.all fun n => ?_)
  rw [r31_Seat_eq]
  cases h1 : (a == 1) <;> cases h3 : (a == 3) <;> simp
theorem live_ret (a : Int) : Ret lb F_status_Live [.int .i64 a] (.bool (a == 1 || a == 3 || a == 4 || a == 2)) := by
  refine .top rfl ((seat_ret lb a).mono fun n h => ?_)
  rw [status_Live_eq, h]
  simp only [optO_s, asB_b]
  cases h1 : (a == 1 || a == 3 || a == 4) <;> simp
theorem rlive_ret (a : Int) : Ret lb F_r31_Live [.int .i64 a] (.bool (a == 1 || a == 3 || a == 4 || a == 2)) := by
  refine .top rfl ((rseat_ret lb a).mono fun n h => ?_)
  rw [r31_Live_eq, h]
  simp only [optO_s, asB_b]
  cases h1 : (a == 1 || a == 3 || a == 4) <;> simp
/-- a status's text -/
def tx (a : Int) : List UInt8 := if a = 1 then [72, 75] else if a = 2 then [72, 76] else if a = 3 then [75, 76] else if a = 4 then [84, 75] else if a = 5 then [85, 78] else if a = 6 then [85, 67] else if a = 7 then [88, 88] else []
def txV (a : Int) : CV := .tup [.str (tx a), .int .i64 (if a < 1 ∨ 7 < a then 8 else 0)]
theorem seven {P : Int → Prop} (h1 : P 1) (h2 : P 2) (h3 : P 3) (h4 : P 4) (h5 : P 5) (h6 : P 6) (h7 : P 7) (ho : ∀ a, a < 1 ∨ 7 < a → P a) (a : Int) : P a := by
  by_cases h : a < 1 ∨ 7 < a
  · exact ho a h
  · have : a = 1 ∨ a = 2 ∨ a = 3 ∨ a = 4 ∨ a = 5 ∨ a = 6 ∨ a = 7 := by omega
    rcases this with rfl | rfl | rfl | rfl | rfl | rfl | rfl <;> assumption
theorem tx_out {a : Int} (h : a < 1 ∨ 7 < a) : txV a = .tup [.str [], .int .i64 8] := by
  unfold txV tx
  simp only [h, if_true]
  repeat rw [if_neg (by omega)]
theorem text_ret (a : Int) : Ret lb F_status_Text [.int .i64 a] (txV a) := by
  refine .top rfl (.all fun n => ?_)
  revert a
  refine seven ?_ ?_ ?_ ?_ ?_ ?_ ?_ fun a h => ?_
  iterate 7 kernel_rfl
  rw [status_Text_eq, tx_out h]
  rcases h with h | h
  · simp [h]
  · have : ¬ a < 1 := by omega
    simp [h, this]
theorem rtext_ret (a : Int) : Ret lb F_r31_Text [.int .i64 a] (txV a) := by
  refine .top rfl (.from 1 fun n => ?_)
  revert a
  refine seven ?_ ?_ ?_ ?_ ?_ ?_ ?_ fun a h => ?_
  iterate 7 kernel_rfl
  rw [r31_Text_eq, tx_out h]
  rcases h with h | h
  · have : a ≤ 0 := by omega
    simp [this]
  · have : ¬ a ≤ 0 := by omega
    simp [h, this]
/-- a text's status -/
def pr (s : List UInt8) : Int := bif ([72, 75] == s) then 1 else bif ([72, 76] == s) then 2 else bif ([75, 76] == s) then 3 else bif ([84, 75] == s) then 4 else bif ([85, 78] == s) then 5 else bif ([85, 67] == s) then 6 else bif ([88, 88] == s) then 7 else 0
def prV (s : List UInt8) : CV := .tup [.int .i64 (pr s), .int .i64 (bif pr s == 0 then 3 else 0)]
theorem eight {P : List UInt8 → Prop} (h1 : P [72, 75]) (h2 : P [72, 76]) (h3 : P [75, 76]) (h4 : P [84, 75]) (h5 : P [85, 78]) (h6 : P [85, 67]) (h7 : P [88, 88])
    (ho : ∀ s, ([72, 75] == s) = false → ([72, 76] == s) = false → ([75, 76] == s) = false → ([84, 75] == s) = false → ([85, 78] == s) = false → ([85, 67] == s) = false → ([88, 88] == s) = false → P s) (s : List UInt8) : P s := by
  by_cases q1 : [72, 75] = s
  · exact q1 ▸ h1
  by_cases q2 : [72, 76] = s
  · exact q2 ▸ h2
  by_cases q3 : [75, 76] = s
  · exact q3 ▸ h3
  by_cases q4 : [84, 75] = s
  · exact q4 ▸ h4
  by_cases q5 : [85, 78] = s
  · exact q5 ▸ h5
  by_cases q6 : [85, 67] = s
  · exact q6 ▸ h6
  by_cases q7 : [88, 88] = s
  · exact q7 ▸ h7
  exact ho s (by simpa using q1) (by simpa using q2) (by simpa using q3) (by simpa using q4) (by simpa using q5) (by simpa using q6) (by simpa using q7)
def prR (s : List UInt8) : Option CV :=
    bif ([72, 75] == s) then some (.tup [.int .i64 1, .int .i64 0]) else bif ([72, 76] == s) then some (.tup [.int .i64 2, .int .i64 0]) else
    bif ([75, 76] == s) then some (.tup [.int .i64 3, .int .i64 0]) else bif ([84, 75] == s) then some (.tup [.int .i64 4, .int .i64 0]) else
    bif ([85, 78] == s) then some (.tup [.int .i64 5, .int .i64 0]) else bif ([85, 67] == s) then some (.tup [.int .i64 6, .int .i64 0]) else
    bif ([88, 88] == s) then some (.tup [.int .i64 7, .int .i64 0]) else some (.tup [.int .i64 0, .int .i64 3])
theorem prR_eq (s : List UInt8) : prR s = some (prV s) := by
  revert s
  refine eight rfl rfl rfl rfl rfl rfl rfl fun s h1 h2 h3 h4 h5 h6 h7 => ?_
  simp only [prR, prV, pr, h1, h2, h3, h4, h5, h6, h7, cond_false]
  rfl
theorem parse_ret (s : List UInt8) : Ret lb F_status_Parse [.str s] (prV s) :=
  .top rfl (.from 10 fun n => Eq.trans (b := prR s) (by kernel_rfl) (prR_eq s))
theorem rparse_ret (s : List UInt8) : Ret lb F_r31_Parse [.str s] (prV s) :=
  .top rfl (.from 10 fun n => Eq.trans (b := prR s) (by kernel_rfl) (prR_eq s))
theorem knows_ret : Ret lb F_l31_knows [] (.bool true) := by
  refine .top rfl (.from 30 fun n => ?_)
  cases lb <;> kernel_rfl
/-- the events from one on -/
def evs (a : Int) : Nat → Int → List Int
  | 0, _ => []
  | k + 1, e => if af a e = 0 then evs a k (e + 1) else e :: evs a k (e + 1)
def pack (l : List Int) : List (List CV) := l.map fun e => [.int .i64 e]
theorem events_loop (a : Int) : ∀ (m : Nat) (i : Int) (b : Bool) (l : List (List CV)), i + m = 9 → 1 ≤ i → (l.length : Int) < i →
    Evt fun n => ∀ k, m < k → status_Events_L1 lb n k a b l i = some (.list (b && (evs a m i).isEmpty) (l ++ pack (evs a m i)))
  | 0, i, b, l, h1, h2, h3 => .all fun n k hk => by
    obtain ⟨k, rfl⟩ : ∃ m, k = m + 1 := ⟨k - 1, by omega⟩
    have : ¬ i ≤ 8 := by omega
    simp [status_Events_L1_succ, this, status_Events_J2_eq, evs, pack]
  | m + 1, i, b, l, h1, h2, h3 => by
    by_cases h0 : af a i = 0
    · refine (events_loop a m (i + 1) b l (by omega) (by omega) (by omega)).imp2 (after_ret lb a i) fun n hl ha k hk => ?_
      obtain ⟨k, rfl⟩ : ∃ m, k = m + 1 := ⟨k - 1, by omega⟩
      have hi : i ≤ 8 := by omega
      rw [status_Events_L1_succ, ha]
      simp only [hi, decide_true, cond_true, optO_s, asI_i, wrap64 (x := i + 1) (by omega) (by omega), h0, bne_self_eq_false, cond_false, evs, ↓reduceIte]
      exact hl k (by omega)
    · refine (events_loop a m (i + 1) false (l ++ [[.int .i64 i]]) (by omega) (by omega) (by simp; omega)).imp2 (after_ret lb a i) fun n hl ha k hk => ?_
      obtain ⟨k, rfl⟩ : ∃ m, k = m + 1 := ⟨k - 1, by omega⟩
      have hi : i ≤ 8 := by omega
      have hne : (af a i != 0) = true := by simpa using h0
      have hr : room (l.length + 1) 8 = true := room_ok (by omega)
      rw [status_Events_L1_succ, ha]
      simp only [hi, decide_true, cond_true, optO_s, asI_i, wrap64 (x := i + 1) (by omega) (by omega), hne, h0, evs, ↓reduceIte, hr, chkO_t, Bool.and_false]
      rw [hl k (by omega)]
      simp [pack]
theorem revents_loop (a : Int) : ∀ (m : Nat) (i : Int) (b : Bool) (l : List (List CV)), i + m = 9 → 1 ≤ i → (l.length : Int) < i →
    Evt fun n => ∀ k, m < k → r31_Events_L1 lb n k a b l i = some (.list (b && (evs a m i).isEmpty) (l ++ pack (evs a m i)))
  | 0, i, b, l, h1, h2, h3 => .all fun n k hk => by
    obtain ⟨k, rfl⟩ : ∃ m, k = m + 1 := ⟨k - 1, by omega⟩
    have : ¬ i ≤ 8 := by omega
    simp [r31_Events_L1_succ, this, r31_Events_J2_eq, evs, pack]
  | m + 1, i, b, l, h1, h2, h3 => by
    have hra := af_range a i
    by_cases h0 : af a i = 0
    · refine (revents_loop a m (i + 1) b l (by omega) (by omega) (by omega)).imp2 (step_ret lb a i) fun n hl ha k hk => ?_
      obtain ⟨k, rfl⟩ : ∃ m, k = m + 1 := ⟨k - 1, by omega⟩
      have hi : i ≤ 8 := by omega
      rw [r31_Events_L1_succ, ha]
      simp only [hi, decide_true, cond_true, optO_s, asI_i, wrap64 (x := i + 1) (by omega) (by omega), h0, ↓reduceIte, evs, show decide ((-1 : Int) ≥ 0) = false from rfl, cond_false]
      exact hl k (by omega)
    · refine (revents_loop a m (i + 1) false (l ++ [[.int .i64 i]]) (by omega) (by omega) (by simp; omega)).imp2 (step_ret lb a i) fun n hl ha k hk => ?_
      obtain ⟨k, rfl⟩ : ∃ m, k = m + 1 := ⟨k - 1, by omega⟩
      have hi : i ≤ 8 := by omega
      have hne : decide (af a i ≥ 0) = true := by simpa using hra.1
      have hr : room (l.length + 1) 8 = true := room_ok (by omega)
      rw [r31_Events_L1_succ, ha]
      simp only [hi, decide_true, cond_true, optO_s, asI_i, wrap64 (x := i + 1) (by omega) (by omega), hne, h0, evs, ↓reduceIte, hr, chkO_t, Bool.and_false]
      rw [hl k (by omega)]
      simp [pack]
def evl (a : Int) : List Int := evs a 8 1
theorem events_ret (a : Int) : Ret lb F_status_Events [.int .i64 a] (.list (evl a).isEmpty (pack (evl a))) := by
  refine .top rfl (.eq (fun n => by rw [status_Events_eq]) ?_)
  refine (Evt.diag (events_loop lb a 8 1 true [] (by omega) (by omega) (by simp))).mono fun n h => ?_
  simpa [evl] using h
theorem revents_ret (a : Int) : Ret lb F_r31_Events [.int .i64 a] (.list (evl a).isEmpty (pack (evl a))) := by
  refine .top rfl (.eq (fun n => by rw [r31_Events_eq]) ?_)
  refine (Evt.diag (revents_loop lb a 8 1 true [] (by omega) (by omega) (by simp))).mono fun n h => ?_
  simpa [evl] using h
theorem evs_len (a : Int) : ∀ (m : Nat) (i : Int), (evs a m i).length ≤ m
  | 0, _ => by simp [evs]
  | m + 1, i => by
    have := evs_len a m (i + 1)
    unfold evs
    split
    · omega
    · simp; omega
theorem evs_mem (a : Int) : ∀ (m : Nat) (i e : Int), e ∈ evs a m i ↔ i ≤ e ∧ e < i + m ∧ af a e ≠ 0
  | 0, i, e => by simp [evs]; omega
  | m + 1, i, e => by
    unfold evs
    have := evs_mem a m (i + 1) e
    split
    · rename_i h
      rw [this]
      constructor
      · rintro ⟨h1, h2, h3⟩; exact ⟨by omega, by omega, h3⟩
      · rintro ⟨h1, h2, h3⟩
        refine ⟨?_, by omega, h3⟩
        by_cases q : e = i
        · subst q; exact (h3 h).elim
        · omega
    · rename_i h
      rw [List.mem_cons, this]
      constructor
      · rintro (rfl | ⟨h1, h2, h3⟩)
        · exact ⟨by omega, by omega, h⟩
        · exact ⟨by omega, by omega, h3⟩
      · rintro ⟨h1, h2, h3⟩
        by_cases q : e = i
        · exact .inl q
        · exact .inr ⟨by omega, by omega, h3⟩
theorem af_in {a e : Int} (h : af a e ≠ 0) : 1 ≤ e ∧ e ≤ 8 := by
  refine Decidable.byContradiction fun hn => h ?_
  unfold af
  repeat rw [if_neg (show ¬ e = 1 by omega)]
  repeat' split
  all_goals omega
theorem evl_mem (a e : Int) : e ∈ evl a ↔ af a e ≠ 0 := by
  unfold evl
  rw [evs_mem]
  constructor
  · exact fun h => h.2.2
  · intro h; have := af_in h; omega
theorem pack_len (l : List Int) : (pack l).length = l.length := by simp [pack]
theorem pack_get {l : List Int} {i : Nat} (h : i < l.length) : (pack l)[i]? = some [.int .i64 l[i]] := by simp [pack, h]

theorem tells_loop (a e : Int) (s : List UInt8) (x6 x9 x12 x14 x18 x20 x23 x25 x28 x30 x34 x36 r4 r10 r15 r21 r26 r31 : CV) (b : Bool) (P : List Int) (hP : P.length ≤ 8) :
    ∀ (m i : Nat), i + m = P.length → Evt fun n => ∀ k, m < k → l31_StatusTells_L1 lb n k a e s x6 x9 x12 x14 x18 x20 x23 x25 x28 x30 x34 x36 (.list b (pack P)) (.list b (pack P)) r4 r10 r15 r21 r26 r31 (i : Int) = some (.bool true) := by
  intro m
  induction m with
  | zero =>
    intro i hi
    refine (knows_ret lb).mono fun n hn k hk => ?_
    obtain ⟨k, rfl⟩ : ∃ m, k = m + 1 := ⟨k - 1, by omega⟩
    rw [l31_StatusTells_L1_succ]
    have : ¬ (i : Int) < P.length := by omega
    simp only [optO_s, asL_l, pack_len, this, decide_false, cond_false, l31_StatusTells_J2_eq, beq_self_eq_true, cond_true, hn]
  | succ m ih =>
    intro i hi
    refine (ih (i + 1) (by omega)).mono fun n hn k hk => ?_
    obtain ⟨k, rfl⟩ : ∃ m, k = m + 1 := ⟨k - 1, by omega⟩
    rw [l31_StatusTells_L1_succ]
    have h1 : (i : Int) < P.length := by omega
    have h2 : i < P.length := by omega
    simp only [optO_s, asL_l, pack_len, h1, decide_true, cond_true, atL_ok (pack_get h2), List.length_cons, List.length_nil, Nat.zero_add, beq_self_eq_true, chkO_t, get0, asI_i, bne_self_eq_false, cond_false,
      wrap64 (x := (i : Int) + 1) (by omega) (by omega)]
    exact_mod_cast hn k (by omega)
theorem statusTells_ok (a e : Int) (s : List UInt8) : Ret lb F_l31_StatusTells [.int .i64 a, .int .i64 e, .str s] (.bool true) := by
  refine .top rfl (.eq (fun n => by rw [l31_StatusTells_eq]) ?_)
  refine .call (next_ret lb a e) ?_
  simp only [optO_s, asT_t, get0, get1]
  refine .call (rnext_ret lb a e) ?_
  simp only [optO_s, asT_t, get0, get1]
  refine .call (text_ret lb a) ?_
  simp only [optO_s, txV, asT_t, get0, get1]
  refine .call (rtext_ret lb a) ?_
  simp only [optO_s, txV, asT_t, get0, get1]
  refine .call (parse_ret lb s) ?_
  simp only [optO_s, prV, asT_t, get0, get1]
  refine .call (rparse_ret lb s) ?_
  simp only [optO_s, prV, asT_t, get0, get1, asI_i, bne_self_eq_false, cond_false, asS_s, beq_self_eq_true, Bool.not_true]
  refine .call (seat_ret lb a) ?_
  refine .call (rseat_ret lb a) ?_
  simp only [optO_s, asB_b, beq_self_eq_true, Bool.not_true, cond_false]
  refine .call (live_ret lb a) ?_
  refine .call (rlive_ret lb a) ?_
  simp only [optO_s, asB_b, beq_self_eq_true, Bool.not_true, cond_false]
  refine .call (events_ret lb a) ?_
  refine .call (revents_ret lb a) ?_
  exact Evt.diag (tells_loop lb a e s _ _ _ _ _ _ _ _ _ _ _ _ _ _ _ _ _ _ _ (evl a) (evs_len a 8 1) (evl a).length 0 (by omega))
theorem pr_tx (a : Int) (h : ¬ (a < 1 ∨ 7 < a)) : pr (tx a) = a := by
  revert h
  revert a
  refine seven ?_ ?_ ?_ ?_ ?_ ?_ ?_ fun a h hn => (hn h).elim
  all_goals (intro _; rfl)
theorem tx_pr (s : List UInt8) (h : pr s ≠ 0) : tx (pr s) = s ∧ ¬ (pr s < 1 ∨ 7 < pr s) := by
  revert h
  revert s
  refine eight ?_ ?_ ?_ ?_ ?_ ?_ ?_ fun s h1 h2 h3 h4 h5 h6 h7 h => ?_
  iterate 7 exact fun _ => ⟨rfl, by decide⟩
  exfalso
  apply h
  simp only [pr, h1, h2, h3, h4, h5, h6, h7, cond_false]
theorem statusBack_ok (a : Int) (s : List UInt8) : Ret lb F_l31_StatusBack [.int .i64 a, .str s] (.bool true) := by
  have half : ∀ {x y}, x = y → Evt (fun n => optO (C lb n F_status_Parse [.str s]) (fun r18 =>
      optO (CV.asT r18) fun t19 => optO (t19[0]?) fun x20 => optO (CV.asT r18) fun t21 => optO (t21[1]?) fun x22 =>
      optO (C lb n F_status_Text [x20]) fun r23 => optO (CV.asT r23) fun t24 => optO (t24[0]?) fun x25 => optO (CV.asT r23) fun t26 => optO (t26[1]?) fun x27 =>
      optO (CV.asI .i64 x22) fun i28 => bif (i28 != 0) then (optO (C lb n F_l31_knows []) fun r29 => some (r29)) else
      (optO (CV.asI .i64 x27) fun i30 => bif (i30 == 0) then (optO (CV.asS x25) fun s31 => bif (s31 == s) then (optO (C lb n F_l31_knows []) fun r33 => some (r33)) else (some (.bool x))) else (some (.bool y)))) = some (.bool true)) := by
    intro x y _
    refine .call (parse_ret lb s) ?_
    simp only [optO_s, prV, asT_t, get0, get1]
    refine .call (text_ret lb (pr s)) ?_
    simp only [optO_s, txV, asT_t, get0, get1, asI_i, asS_s]
    refine (knows_ret lb).mono fun n hn => ?_
    rw [hn]
    by_cases h : pr s = 0
    · simp [h, optO_s]
    · obtain ⟨h1, h2⟩ := tx_pr s h
      have : (pr s == 0) = false := by simpa using h
      simp only [this, cond_false, bne_self_eq_false, h2, if_false, beq_self_eq_true, cond_true, h1, optO_s]
  refine .top rfl (.eq (fun n => by rw [l31_StatusBack_eq]) ?_)
  refine .call (text_ret lb a) ?_
  simp only [optO_s, txV, asT_t, get0, get1]
  refine .call (parse_ret lb (tx a)) ?_
  simp only [optO_s, prV, asT_t, get0, get1, asI_i]
  by_cases h : a < 1 ∨ 7 < a
  · simp only [h, if_true]
    exact half rfl
  · have h0 : (a == 0) = false := by simp; omega
    simp only [h, if_false, beq_self_eq_true, cond_true, pr_tx a h, h0, cond_false, bne_self_eq_false]
    exact half rfl

theorem ends_inner (n : Nat) (P : List Int) : ∀ (m i : Nat) (b : Bool) (e : Int) (k k3 : Nat) (an1 : Bool) (evsA : List Int) (iE : Nat) (v183 x352 x354 r350 : CV) (c348 : List CV) (x349 : CV), i + m = P.length → P.length ≤ 8 → evsA[iE]? = some e → m < k3 →
    ∃ i', l31_StatusEnds_L3 lb n k3 k an1 (pack evsA) v183 (iE : Int) x352 x354 (.list P.isEmpty (pack P)) r350 c348 x349 b (i : Int) =
      l31_StatusEnds_J4 lb n k an1 (pack evsA) v183 (iE : Int) x352 x354 (.list P.isEmpty (pack P)) r350 c348 x349 (b || (P.drop i).contains e) i'
  | 0, i, b, e, k, k3, an1, evsA, iE, v183, x352, x354, r350, c348, x349, h1, h2, h3, h4 => by
    obtain ⟨k3, rfl⟩ : ∃ m, k3 = m + 1 := ⟨k3 - 1, by omega⟩
    refine ⟨i, ?_⟩
    rw [l31_StatusEnds_L3_succ]
    have : ¬ (i : Int) < P.length := by omega
    have hd : P.drop i = [] := List.drop_eq_nil_of_le (by omega)
    simp only [optO_s, asL_l, pack_len, this, decide_false, cond_false, hd, List.contains_nil, Bool.or_false]
  | m + 1, i, b, e, k, k3, an1, evsA, iE, v183, x352, x354, r350, c348, x349, h1, h2, h3, h4 => by
    obtain ⟨k3, rfl⟩ : ∃ m, k3 = m + 1 := ⟨k3 - 1, by omega⟩
    have hi : (i : Int) < P.length := by omega
    have hi' : i < P.length := by omega
    have hA : (pack evsA)[iE]? = some [.int .i64 e] := by simp [pack, h3]
    have hd : P.drop i = P[i] :: P.drop (i + 1) := (List.getElem_cons_drop hi').symm
    rw [l31_StatusEnds_L3_succ]
    simp only [optO_s, asL_l, pack_len, hi, decide_true, cond_true, wrap64 (x := (i : Int) + 1) (by omega) (by omega)]
    cases b with
    | true =>
      obtain ⟨i', hr⟩ := ends_inner n P m (i + 1) true e k k3 an1 evsA iE v183 x352 x354 r350 c348 x349 (by omega) h2 h3 (by omega)
      refine ⟨i', ?_⟩
      simp only [cond_true, Bool.true_or] at hr ⊢
      exact_mod_cast hr
    | false =>
      obtain ⟨i', hr⟩ := ends_inner n P m (i + 1) (P[i] == e) e k k3 an1 evsA iE v183 x352 x354 r350 c348 x349 (by omega) h2 h3 (by omega)
      refine ⟨i', ?_⟩
      simp only [cond_false, atL_ok (pack_get hi'), atL_ok hA, optO_s, List.length_cons, List.length_nil, Nat.zero_add, beq_self_eq_true, chkO_t, get0, asI_i, Bool.false_or, hd, List.contains_cons]
      rw [show (e == P[i]) = (P[i] == e) from Bool.beq_comm ..]
      exact_mod_cast hr
theorem statusEnds_ok (bn : Bool) (l : List Int) (hl : l.length ≤ 9223372036854775800) : Ret lb F_l31_StatusEnds [.list bn (pack l)] (.bool true) := by
  refine .top rfl (.eq (fun n => by rw [l31_StatusEnds_eq]) ?_)
  suffices H : ∀ (m i : Nat) (st : Int), i + m = l.length → Evt fun n => ∀ k, m < k → l31_StatusEnds_L1 lb n k bn (pack l) (.int .i64 st) (i : Int) = some (.bool true) from
    Evt.diag (H l.length 0 0 (by omega))
  intro m
  induction m with
  | zero =>
    intro i st hi
    refine (knows_ret lb).mono fun n hn k hk => ?_
    obtain ⟨k, rfl⟩ : ∃ m, k = m + 1 := ⟨k - 1, by omega⟩
    rw [l31_StatusEnds_L1_succ]
    have : ¬ (i : Int) < l.length := by omega
    simp only [pack_len, this, decide_false, cond_false, l31_StatusEnds_J6_eq, hn, optO_s]
  | succ m ih =>
    intro i st hi
    by_cases hb : 1000 ≤ (i : Int)
    · refine (knows_ret lb).mono fun n hn k hk => ?_
      obtain ⟨k, rfl⟩ : ∃ m, k = m + 1 := ⟨k - 1, by omega⟩
      rw [l31_StatusEnds_L1_succ]
      have h2 : ¬ (i : Int) < 1000 := by omega
      simp only [h2, decide_false, cond_false, l31_StatusEnds_J6_eq, hn, optO_s]
      cases decide ((i : Int) < (pack l).length) <;> rfl
    have hiN : i < l.length := by omega
    have hw : IntKind.wrap .i64 ((i : Int) + 1) = ((i + 1 : Nat) : Int) := by rw [wrap64 (by omega) (by omega)]; rfl
    have h1 : (i : Int) < l.length := by omega
    have h2 : (i : Int) < 1000 := by omega
    by_cases h0 : af st l[i] = 0
    · refine (ih (i + 1) st (by omega)).imp2 (next_ret lb st l[i]) fun n hn hx k hk => ?_
      obtain ⟨k, rfl⟩ : ∃ m, k = m + 1 := ⟨k - 1, by omega⟩
      rw [l31_StatusEnds_L1_succ]
      simp only [pack_len, h1, h2, decide_true, cond_true, atL_ok (pack_get hiN), optO_s, List.length_cons, List.length_nil, Nat.zero_add, beq_self_eq_true, chkO_t, get0, hx, asT_t, get1, asI_i, h0, ↓reduceIte,
        show ((10 : Int) != 0) = true from rfl, bne_self_eq_false, cond_false, l31_StatusEnds_J2_eq, hw]
      exact hn k (by omega)
    · have h7 : (st == 7) = false := by
        refine beq_eq_false_iff_ne.2 fun q => h0 ?_
        subst q; unfold af; simp
      have h0b : (af st l[i] == 0) = false := by simpa using h0
      have hr := af_range st l[i]
      have h8 : af st l[i] ≠ 7 → af (af st l[i]) 8 = 7 := by
        intro q
        generalize af st l[i] = m at h0 q hr
        have : m = 1 ∨ m = 2 ∨ m = 3 ∨ m = 4 ∨ m = 5 ∨ m = 6 := by omega
        rcases this with rfl | rfl | rfl | rfl | rfl | rfl <;> rfl
      have hsx : (af st l[i] == 1 || af st l[i] == 3 || af st l[i] == 4) = true → (st == 1 || st == 3 || st == 4) = false → l[i] ≠ 1 → l[i] = 3 := by
        intro q1 q2 q3
        simp only [Bool.or_eq_true, beq_iff_eq, Bool.or_eq_false_iff, beq_eq_false_iff_ne] at q1 q2
        unfold af at q1
        repeat' split at q1
        all_goals omega
      have hmem : l[i] ∈ evl st := (evl_mem st l[i]).2 h0
      have hle : (evl st).length ≤ 8 := evs_len st 8 1
      refine (((((ih (i + 1) (af st l[i]) (by omega)).and (next_ret lb st l[i])).and (next_ret lb (af st l[i]) 8)).and (seat_ret lb st)).and (seat_ret lb (af st l[i]))).imp2
        ((events_ret lb st).and (Evt.ge 10)) fun n ⟨⟨⟨⟨hn, hx⟩, hx8⟩, hs⟩, hsm⟩ ⟨hev, hge⟩ k hk => ?_
      obtain ⟨k, rfl⟩ : ∃ m, k = m + 1 := ⟨k - 1, by omega⟩
      have fin : ∀ (v183 x354 r350 : CV) (c348 : List CV) (x349 : CV), l31_StatusEnds_L3 lb n n k bn (pack l) v183 (i : Int) (.int .i64 (af st l[i])) x354 (.list (evl st).isEmpty (pack (evl st))) r350 c348 x349 false 0 = some (.bool true) := by
        intro v183 x354 r350 c348 x349
        obtain ⟨i', he⟩ := ends_inner lb n (evl st) (evl st).length 0 false l[i] k n bn l i v183 (.int .i64 (af st l[i])) x354 r350 c348 x349 (by omega) hle (List.getElem?_eq_getElem hiN) (by omega)
        refine Eq.trans he ?_
        have hc : (false || (List.drop 0 (evl st)).contains l[i]) = true := by simpa using hmem
        rw [hc, l31_StatusEnds_J4_eq]
        simp only [Bool.not_true, cond_false, hx8, optO_s, asT_t, get0, get1, asI_i]
        by_cases q : af st l[i] = 7
        · simp only [q, bne_self_eq_false, cond_false, l31_StatusEnds_J5_eq, hw]
          rw [← q]; exact hn k (by omega)
        · have qb : (af st l[i] != 7) = true := by simpa using q
          simp only [qb, cond_true, h8 q, bne_self_eq_false, cond_false, show ((7 : Int) = 0) = False by simp, if_false, l31_StatusEnds_J5_eq, hw]
          exact hn k (by omega)
      rw [l31_StatusEnds_L1_succ]
      simp only [pack_len, h1, h2, decide_true, cond_true, atL_ok (pack_get hiN), optO_s, List.length_cons, List.length_nil, Nat.zero_add, beq_self_eq_true, chkO_t, get0, hx, asT_t, get1, asI_i, h0, ↓reduceIte,
        bne_self_eq_false, cond_false, h0b, h7, hsm, asB_b, hs, hev]
      cases q1 : (af st l[i] == 1 || af st l[i] == 3 || af st l[i] == 4)
      · exact fin _ _ _ _ _
      cases q2 : (st == 1 || st == 3 || st == 4)
      · simp only [cond_true, Bool.not_false]
        by_cases q3 : l[i] = 1
        · simp only [q3, bne_self_eq_false, cond_false]
          rw [← q3]
          have := fin (.int .i64 st) (.int .i64 0) (.tup [.int .i64 (af st l[i]), .int .i64 0]) [.int .i64 l[i]] (.int .i64 l[i])
          simpa only [q3] using this
        · have q3b : (l[i] != 1) = true := by simpa using q3
          have q4 : l[i] = 3 := hsx q1 q2 q3
          have q4b : (l[i] != 3) = false := by simpa using q4
          simp only [q3b, q4b, cond_true, cond_false]
          exact fin _ _ _ _ _
      · exact fin _ _ _ _ _
end Go.Proofs
