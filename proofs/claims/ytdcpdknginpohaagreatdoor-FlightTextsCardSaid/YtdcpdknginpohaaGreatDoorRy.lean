/- What the reference of package text answers: lines are read. Conditions: as each says. -/
import Derived.Test.YtdcpdknginpohaaGreatDoorRw
set_option linter.unusedSimpArgs false
namespace Go.Proofs
open Go.Am
variable (lb : Nat)
/-- where the quotation mark stands that ends a quoted text -/
def scanQ : Bs → Option Nat
  | [] => none
  | c :: r => if c.toNat = 34 then some 0 else if c.toNat = 92 then (match r with
      | [] => none
      | _ :: r' => (scanQ r').map (· + 2)) else (scanQ r).map (· + 1)
theorem scanQ_cons (c : UInt8) (r : Bs) : scanQ (c :: r) = if c.toNat = 34 then some 0 else if c.toNat = 92 then (match r with
      | [] => none
      | _ :: r' => (scanQ r').map (· + 2)) else (scanQ r).map (· + 1) := scanQ.eq_def (c :: r)
theorem scanQ_lt : ∀ (N : Nat) (t : Bs) (k : Nat), t.length ≤ N → scanQ t = some k → k < t.length
  | _, [], k, _, h => by simp [scanQ] at h
  | 0, c :: r, k, hN, h => by simp at hN
  | N + 1, c :: r, k, hN, h => by
    rw [scanQ_cons] at h
    split at h
    · simp only [Option.some.injEq] at h; subst h; simp
    split at h
    · match r, h with
      | [], h => cases h
      | d :: r', h =>
        simp only [Option.map_eq_some_iff] at h
        obtain ⟨j, hj, rfl⟩ := h
        have := scanQ_lt N r' j (by simp at hN; omega) hj
        simp; omega
    · simp only [Option.map_eq_some_iff] at h
      obtain ⟨j, hj, rfl⟩ := h
      have := scanQ_lt N r j (by simp at hN; omega) hj
      simp; omega
def endB : Bs → Nat
  | [] => 0
  | c :: r => if c.toNat = 34 then (match scanQ r with
      | some k => k + 2
      | none => r.length + 1) else ((c :: r).takeWhile fun x => !(x.toNat == 32)).length
theorem endB_cons (c : UInt8) (r : Bs) : endB (c :: r) = if c.toNat = 34 then (match scanQ r with
      | some k => k + 2
      | none => r.length + 1) else ((c :: r).takeWhile fun x => !(x.toNat == 32)).length := endB.eq_def (c :: r)
theorem endB_le (t : Bs) : endB t ≤ t.length := by
  cases t with
  | nil => simp [endB]
  | cons c r =>
    rw [endB_cons]
    split
    · split
      · rename_i k hk
        have := scanQ_lt _ r k (Nat.le_refl _) hk
        simp; omega
      · simp
    · exact (List.takeWhile_prefix _).length_le
theorem scanQ_esc (c : UInt8) (X : Bs) : scanQ (esc c ++ X) = (scanQ X).map (· + (esc c).length) := by
  unfold esc
  split
  · simp only [List.cons_append, List.nil_append]
    rw [scanQ_cons, if_neg (by decide), if_pos (by decide)]
    rfl
  · split
    · rename_i h h2
      have hx : ∀ n, n < 16 → ¬ (hexB n).toNat = 34 ∧ ¬ (hexB n).toNat = 92 := by decide +kernel
      have hc : c.toNat < 256 := c.toNat_lt
      obtain ⟨a1, a2⟩ := hx (c.toNat / 16) (by omega)
      obtain ⟨b1, b2⟩ := hx (c.toNat % 16) (by omega)
      simp only [List.cons_append, List.nil_append]
      rw [scanQ_cons, if_neg (by decide), if_pos (by decide)]
      simp only
      rw [scanQ_cons, if_neg a1, if_neg a2, scanQ_cons, if_neg b1, if_neg b2]
      cases scanQ X <;> simp
    · rename_i h h2
      simp only [List.cons_append, List.nil_append]
      rw [scanQ_cons, if_neg (by omega), if_neg (by omega)]
      rfl
theorem scanQ_flat : ∀ (b X : Bs), scanQ (b.flatMap esc ++ X) = (scanQ X).map (· + (b.flatMap esc).length)
  | [], X => by cases h : scanQ X <;> simp [h]
  | c :: b, X => by
    rw [List.flatMap_cons, List.append_assoc, scanQ_esc, scanQ_flat b X]
    cases scanQ X
    · rfl
    · simp; omega
theorem endB_word (w r : Bs) (hr : r = [] ∨ ∃ r', r = 32 :: r') : endB (wordB w ++ r) = (wordB w).length := by
  unfold wordB
  split
  · rename_i hp
    simp only [plainB, Bool.and_eq_true] at hp
    match w, hp with
    | [], hp => simp at hp
    | c :: w', ⟨_, hp⟩ =>
      have hall : ∀ x ∈ c :: w', (!(x.toNat == 32)) = true ∧ x.toNat ≠ 34 := by
        intro x hx
        have := List.all_eq_true.1 hp x hx
        simp only [isPl, Bool.and_eq_true, decide_eq_true_eq, Bool.not_eq_true', beq_eq_false_iff_ne] at this
        exact ⟨by simp; omega, this.2⟩
      have h34 := (hall c (List.mem_cons_self ..)).2
      rw [List.cons_append, endB_cons, if_neg h34, ← List.cons_append, List.takeWhile_append_of_pos fun x hx => (hall x hx).1]
      rcases hr with rfl | ⟨r', rfl⟩
      · simp
      · simp
  · unfold quo
    rw [List.cons_append, endB_cons, if_pos (by decide), List.append_assoc, scanQ_flat]
    rw [List.cons_append, scanQ_cons, if_pos (by decide)]
    simp
theorem end_q (s : Bs) (hs : s.length ≤ 1000000000) (b2 : Int) (c3 : UInt8) : ∀ (N : Nat) (t p : Bs), t.length ≤ N → p ++ t = s → Evt fun n => ∀ k, t.length < k →
    r01_end_L1 lb n k s b2 c3 (p.length : Int) = some (.int .i64 (match scanQ t with
      | some k => ((p.length + k + 1 : Nat) : Int)
      | none => (s.length : Int)))
  | _, [], p, _, h => .all fun n k hk => by
    obtain ⟨k, rfl⟩ : ∃ m, k = m + 1 := ⟨k - 1, by simp at hk; omega⟩
    have : p = s := by simpa using h
    rw [r01_end_L1_succ, decF (by rw [this]; omega), cond_false, r01_end_J2_eq, decT (by rw [this]; omega), cond_true]
    rfl
  | 0, c :: t, p, hN, _ => by simp at hN
  | N + 1, c :: t, p, hN, h => by
    have hl : s.length = p.length + (t.length + 1) := by rw [← h]; simp
    have hat : atS s (p.length : Int) = some c := atS_ok (by rw [← h]; simp)
    rw [scanQ_cons]
    by_cases h34 : c.toNat = 34
    · refine .all fun n k hk => ?_
      obtain ⟨k, rfl⟩ : ∃ m, k = m + 1 := ⟨k - 1, by simp at hk; omega⟩
      rw [r01_end_L1_succ, decT (by omega), cond_true, hat, optO_s, bneF (by omega), cond_false, r01_end_J2_eq, decF (by omega), cond_false, if_pos h34, wrap64 (by omega) (by omega)]
      rfl
    rw [if_neg h34]
    by_cases h92 : c.toNat = 92
    · rw [if_pos h92]
      match t, hl, h with
      | [], hl, h =>
        refine .from 0 fun n k hk => ?_
        obtain ⟨k, rfl⟩ : ∃ m, k = m + 2 := ⟨k - 2, by simp at hk; omega⟩
        simp only [List.length_nil] at hl
        rw [r01_end_L1_succ, decT (by omega), cond_true, hat, optO_s, bneT (by omega), cond_true, optO_s, beqT (by omega), cond_true, wrap64 (x := (p.length : Int) + 1) (by omega) (by omega), wrap64 (x := (p.length : Int) + 1 + 1) (by omega) (by omega),
          r01_end_L1_succ, decF (by omega), cond_false, r01_end_J2_eq, decT (by omega), cond_true]
      | d :: t', hl, h =>
        refine (end_q s hs b2 c3 N t' (p ++ [c, d]) (by simp at hN; omega) (by rw [← h]; simp)).mono fun n hn k hk => ?_
        obtain ⟨k, rfl⟩ : ∃ m, k = m + 1 := ⟨k - 1, by simp at hk; omega⟩
        have hn := hn k (by simp at hk; omega)
        simp only [List.length_cons] at hl
        rw [r01_end_L1_succ, decT (by omega), cond_true, hat, optO_s, bneT (by omega), cond_true, optO_s, beqT (by omega), cond_true, wrap64 (x := (p.length : Int) + 1) (by omega) (by omega), wrap64 (x := (p.length : Int) + 1 + 1) (by omega) (by omega),
          show (p.length : Int) + 1 + 1 = ((p ++ [c, d]).length : Int) by simp only [List.length_append, List.length_cons, List.length_nil]; omega, hn]
        dsimp only
        cases scanQ t' with
        | none => rfl
        | some j =>
          simp only [Option.map_some, Option.some.injEq, CV.int.injEq, true_and, List.length_append, List.length_cons, List.length_nil]
          omega
    · rw [if_neg h92]
      refine (end_q s hs b2 c3 N t (p ++ [c]) (by simp at hN; omega) (by rw [← h]; simp)).mono fun n hn k hk => ?_
      obtain ⟨k, rfl⟩ : ∃ m, k = m + 1 := ⟨k - 1, by simp at hk; omega⟩
      have hn := hn k (by simp at hk; omega)
      rw [r01_end_L1_succ, decT (by omega), cond_true, hat, optO_s, bneT (by omega), cond_true, optO_s, beqF (by omega), cond_false, wrap64 (x := (p.length : Int) + 1) (by omega) (by omega),
        show (p.length : Int) + 1 = ((p ++ [c]).length : Int) by simp, hn]
      cases scanQ t with
      | none => rfl
      | some j =>
        simp only [Option.map_some, Option.some.injEq, CV.int.injEq, true_and, List.length_append, List.length_cons, List.length_nil]
        omega
theorem end_p (s : Bs) (hs : s.length ≤ 1000000000) (b2 : Int) : ∀ (t p : Bs), p ++ t = s → Evt fun n => ∀ k, t.length < k →
    r01_end_L4 lb n k s b2 (p.length : Int) = some (.int .i64 ((p.length + (t.takeWhile fun x => !(x.toNat == 32)).length : Nat) : Int))
  | [], p, h => .all fun n k hk => by
    obtain ⟨k, rfl⟩ : ∃ m, k = m + 1 := ⟨k - 1, by simp at hk; omega⟩
    have : p = s := by simpa using h
    rw [r01_end_L4_succ, decF (by rw [this]; omega), cond_false, r01_end_J5_eq]
    simp
  | c :: t, p, h => by
    have hl : s.length = p.length + (t.length + 1) := by rw [← h]; simp
    have hat : atS s (p.length : Int) = some c := atS_ok (by rw [← h]; simp)
    refine (end_p s hs b2 t (p ++ [c]) (by rw [← h]; simp)).mono fun n hn k hk => ?_
    obtain ⟨k, rfl⟩ : ∃ m, k = m + 1 := ⟨k - 1, by simp at hk; omega⟩
    have hn := hn k (by simp at hk; omega)
    rw [r01_end_L4_succ, decT (by omega), cond_true, hat, optO_s]
    by_cases h32 : c.toNat = 32
    · rw [bneF (by omega), cond_false, r01_end_J5_eq]
      simp [h32]
    · rw [bneT (by omega), cond_true, wrap64 (by omega) (by omega), show (p.length : Int) + 1 = ((p ++ [c]).length : Int) by simp, hn]
      simp [h32]; omega
theorem r01_end_ret (s : Bs) (hs : s.length ≤ 1000000000) (p t : Bs) (h : p ++ t = s) : Ret lb F_r01_end [.str s, .int .i64 (p.length : Int)] (.int .i64 ((p.length + endB t : Nat) : Int)) := by
  refine .top rfl (.eq (fun n => by rw [r01_end_eq]) ?_)
  match t, h with
  | [], h =>
    have : p = s := by simpa using h
    simp only [decF (show ¬ (p.length : Int) < (s.length : Int) by rw [this]; omega), cond_false, r01_end_J3_eq]
    exact Evt.diag (end_p lb s hs p.length [] p h)
  | c :: t, h =>
    have hl : s.length = p.length + (t.length + 1) := by rw [← h]; simp
    have hat : atS s (p.length : Int) = some c := atS_ok (by rw [← h]; simp)
    simp only [decT (show (p.length : Int) < (s.length : Int) by omega), cond_true]
    simp only [hat]
    simp only [optO_s]
    rw [endB_cons]
    by_cases h34 : c.toNat = 34
    · simp only [beqT (show (c.toNat : Int) = 34 by omega), cond_true, if_pos h34]
      rw [wrap64 (by omega) (by omega), show (p.length : Int) + 1 = ((p ++ [c]).length : Int) by simp]
      refine (Evt.diag (end_q lb s hs p.length c _ t (p ++ [c]) (Nat.le_refl _) (by rw [← h]; simp))).mono fun n hn => Eq.trans hn ?_
      cases scanQ t with
      | none => simp only [Option.some.injEq, CV.int.injEq, true_and]; omega
      | some j => simp only [List.length_append, List.length_cons, List.length_nil, Option.some.injEq, CV.int.injEq, true_and]; omega
    · simp only [beqF (show (c.toNat : Int) ≠ 34 by omega), cond_false, if_neg h34, r01_end_J3_eq]
      exact Evt.diag (end_p lb s hs p.length (c :: t) p h)
theorem rw_end (s : Bs) (l : List Bs) (bn : Bool) (i : Int) (hi : ¬ i < (s.length : Int)) (hl : l.length ≤ 100000000) (hm : sumLen l ≤ 100000000) : Evt fun n => ∀ k,
    r01_Words_L1 lb n (k + 1) s bn (scv l) i = some (if joinB l = s then .tup [.list bn (scv l), .int .i64 0] else .tup [.list true [], .int .i64 3]) := by
  refine (r01_Join_ret lb bn l hl hm).mono fun n hn k => ?_
  rw [r01_Words_L1_succ, decF hi, cond_false, r01_Words_J2_eq, hn, optO_s, asS_s, optO_s]
  by_cases h : joinB l = s
  · rw [if_pos h, h]; simp
  · rw [if_neg h, show (joinB l == s) = false by simpa using h]; simp
/-- one word is read -/
theorem rw_step (s : Bs) (hs : s.length ≤ 100000000) (p t : Bs) (h : p ++ t = s) (ht : t ≠ []) (l : List Bs) (bn : Bool) (hl : l.length ≤ 100000000) {r : CV} {w : Bs}
    (hw : w = t.take (endB t))
    (hok : ∀ v, (w.head? = some 34 → unq w = some v) → (w.head? ≠ some 34 → v = w) → Evt fun n => ∀ k, t.length ≤ k → r01_Words_L1 lb n k s false (scv (l ++ [v])) ((p.length + endB t + 1 : Nat) : Int) = some r)
    (hbad : w.head? = some 34 → unq w = none → r = .tup [.list true [], .int .i64 3]) :
    Evt fun n => ∀ k, t.length < k → r01_Words_L1 lb n k s bn (scv l) (p.length : Int) = some r := by
  have hlen : s.length = p.length + t.length := by rw [← h]; simp
  have htl : 0 < t.length := List.length_pos_iff.2 ht
  have hel := endB_le t
  have hwl : w.length ≤ t.length := by rw [hw]; simp; omega
  have hsl : (s.take ((p.length + endB t : Nat) : Int).toNat).drop ((p.length : Int)).toNat = w := by
    rw [Int.toNat_natCast, Int.toNat_natCast, ← h, List.take_append, List.take_of_length_le (by omega), show p.length + endB t - p.length = endB t by omega, List.drop_left, hw]
  have hww : IntKind.wrap .i64 (((p.length + endB t : Nat) : Int) + 1) = ((p.length + endB t + 1 : Nat) : Int) := by rw [wrap64 (by omega) (by omega)]; rfl
  have r1 : room ((scv l).length + 1) 16 = true := room_ok (by rw [scv_len]; omega)
  have hend := r01_end_ret lb s (by omega) p t h
  have pre : ∀ n k, C lb n F_r01_end [.str s, .int .i64 (p.length : Int)] = some (.int .i64 ((p.length + endB t : Nat) : Int)) → r01_Words_L1 lb n (k + 1) s bn (scv l) (p.length : Int) =
      bif (decide ((w.length : Int) > 0)) then (optO (atS w 0) fun c41 => bif ((c41.toNat : Int) == 34) then
        (optO (C lb n F_r01_Unquote [.str w]) fun r42 => optO (CV.asT r42) fun t43 => optO (t43[0]?) fun x44 => optO (CV.asT r42) fun t45 => optO (t45[1]?) fun x46 => optO (CV.asI .i64 x46) fun i47 =>
          bif (i47 != 0) then (some (.tup [.list true [], x46])) else chkO (CV.isCell x44) (chkO (room ((scv l).length + 1) 16) (r01_Words_L1 lb n k s (bn && false) (scv l ++ [[x44]]) ((p.length + endB t + 1 : Nat) : Int))))
        else chkO (room ((scv l).length + 1) 16) (r01_Words_L1 lb n k s (bn && false) (scv l ++ [[CV.str w]]) ((p.length + endB t + 1 : Nat) : Int)))
      else chkO (room ((scv l).length + 1) 16) (r01_Words_L1 lb n k s (bn && false) (scv l ++ [[CV.str w]]) ((p.length + endB t + 1 : Nat) : Int)) := by
    intro n k he
    rw [r01_Words_L1_succ, decT (by omega), cond_true, he, optO_s]
    simp only [show CV.asN (.int .i64 ((p.length + endB t : Nat) : Int)) = some ((p.length + endB t : Nat) : Int) from rfl]
    simp only [optO_s]
    rw [decT ⟨by omega, by omega⟩, chkO_t, decT ⟨by omega, by omega⟩, chkO_t]
    simp only [hsl, asI_i, optO_s, hww]
  by_cases hq : w.head? = some 34
  · have hat : atS w 0 = some 34 := by
      cases w with
      | nil => simp at hq
      | cons c w' => simp at hq; subst hq; rfl
    have hwpos : 0 < w.length := by
      cases w with
      | nil => simp at hq
      | cons c w' => simp
    cases hu : unq w with
    | none =>
      refine (hend.and (r01_Unquote_ret lb w (by omega))).mono fun n ⟨he, h2⟩ k hk => ?_
      obtain ⟨k, rfl⟩ : ∃ m, k = m + 1 := ⟨k - 1, by omega⟩
      rw [pre n k he, decT (by omega), cond_true, hat, optO_s, beqT (by decide), cond_true, h2, hu]
      simp only [unqR, optO_s, asT_t, get0, get1, asI_i]
      rw [bneT (by decide), cond_true, hbad hq hu]
    | some v =>
      refine ((hok v (fun _ => hu) (fun q => (q hq).elim)).and hend).imp2 (r01_Unquote_ret lb w (by omega)) fun n ⟨hn, he⟩ h2 k hk => ?_
      obtain ⟨k, rfl⟩ : ∃ m, k = m + 1 := ⟨k - 1, by omega⟩
      rw [pre n k he, decT (by omega), cond_true, hat, optO_s, beqT (by decide), cond_true, h2, hu]
      simp only [unqR, optO_s, asT_t, get0, get1, asI_i, bne_self_eq_false, cond_false, isCell_str, chkO_t, r1, Bool.and_false]
      rw [show scv l ++ [[CV.str v]] = scv (l ++ [v]) by simp [scv]]
      exact hn k (by omega)
  · refine (hok w (fun q => (hq q).elim) (fun _ => rfl)).imp2 hend fun n hn he k hk => ?_
    obtain ⟨k, rfl⟩ : ∃ m, k = m + 1 := ⟨k - 1, by omega⟩
    have hn := hn k (by omega)
    rw [pre n k he]
    simp only [r1, chkO_t, Bool.and_false]
    rw [show scv l ++ [[CV.str w]] = scv (l ++ [w]) by simp [scv], hn]
    cases w with
    | nil => rfl
    | cons c w' =>
      have hc : c.toNat ≠ 34 := fun q => hq (by rw [show c = 34 from u8_ext q]; rfl)
      rw [decT (by simp only [List.length_cons]; omega), cond_true, show atS (c :: w') 0 = some c from rfl, optO_s, beqF (by omega), cond_false]
theorem rw_good (s : Bs) (hs : s.length ≤ 100000000) (L : List Bs) (hL : L.length ≤ 100000000) (hm : sumLen L ≤ 100000000) (hj : joinB L = s) : ∀ (r done : List Bs) (p : Bs) (bn : Bool), done ++ r = L → r ≠ [] → p ++ joinB r = s → (r = L → done = []) →
    Evt fun n => ∀ k, (joinB r).length < k → r01_Words_L1 lb n k s bn (scv done) (p.length : Int) = some (.tup [.list false (scv L), .int .i64 0])
  | [], _, _, _, _, h, _, _ => (h rfl).elim
  | w :: r, done, p, bn, hd, _, hp, _ => by
    have hlen : s.length = p.length + (joinB (w :: r)).length := by rw [← hp]; simp
    have hdl : L.length = done.length + (r.length + 1) := by rw [← hd]; simp
    have hjr : ∃ R, joinB (w :: r) = wordB w ++ R ∧ (R = [] ∨ ∃ r', R = 32 :: r') ∧ (r = [] → R = []) ∧ (r ≠ [] → R = 32 :: joinB r) := by
      cases r with
      | nil => exact ⟨[], by simp [joinB], .inl rfl, fun _ => rfl, fun q => (q rfl).elim⟩
      | cons x r => exact ⟨32 :: joinB (x :: r), joinB_cons w (by simp), .inr ⟨_, rfl⟩, fun q => by simp at q, fun _ => rfl⟩
    obtain ⟨R, hR, hR2, hR3, hR4⟩ := hjr
    have hend : endB (joinB (w :: r)) = (wordB w).length := by rw [hR, endB_word w R hR2]
    have hword : (joinB (w :: r)).take (endB (joinB (w :: r))) = wordB w := by rw [hend, hR, List.take_left]
    have hne : joinB (w :: r) ≠ [] := fun q => by have := joinB_nil q; simp at this
    have hv : ∀ v, ((wordB w).head? = some 34 → unq (wordB w) = some v) → ((wordB w).head? ≠ some 34 → v = wordB w) → v = w := by
      intro v h1 h2
      cases hpl : plainB w with
      | true =>
        have e : wordB w = w := by simp [wordB, hpl]
        rw [e] at h1 h2
        refine h2 fun q => ?_
        simp only [plainB, Bool.and_eq_true] at hpl
        cases w with
        | nil => simp at q
        | cons c w' =>
          simp at q; subst q
          simp [isPl] at hpl
      | false =>
        have e : wordB w = quo w := by simp [wordB, hpl]
        rw [e] at h1
        have := h1 (by simp [quo])
        rw [unq_quo] at this
        simpa using this.symm
    refine rw_step lb s hs p (joinB (w :: r)) hp hne done bn (by omega) (w := wordB w) hword.symm (fun v h1 h2 => ?_) fun h1 h2 => ?_
    · have := hv v h1 h2
      subst this
      rw [hend]
      by_cases hr : r = []
      · subst hr
        have hR0 := hR3 rfl
        rw [hR0, List.append_nil] at hR
        have hL' : L = done ++ [v] := by rw [← hd]
        refine (rw_end lb s (done ++ [v]) false ((p.length + (wordB v).length + 1 : Nat) : Int) (by rw [hlen, hR]; omega) (by rw [← hL']; exact hL) (by rw [← hL']; exact hm)).mono fun n hn k hk => ?_
        obtain ⟨k, rfl⟩ : ∃ m, k = m + 1 := ⟨k - 1, by have := List.length_pos_iff.2 hne; omega⟩
        rw [hn k, if_pos (by rw [← hL', hj]), ← hL']
      · have hRr := hR4 hr
        have hnext : (p ++ wordB v ++ [32]) ++ joinB r = s := by rw [← hp, hR, hRr]; simp
        have hrl : (joinB (v :: r)).length = (wordB v).length + ((joinB r).length + 1) := by rw [hR, hRr]; simp
        refine (rw_good s hs L hL hm hj r (done ++ [v]) (p ++ wordB v ++ [32]) false (by rw [← hd]; simp) hr hnext (fun q => by rw [q] at hdl; omega)).mono fun n hn k hk => ?_
        have hn := hn k (by rw [hrl] at hk; omega)
        rw [show ((p.length + (wordB v).length + 1 : Nat) : Int) = ((p ++ wordB v ++ [32]).length : Int) by simp; omega]
        exact hn
    · exfalso
      cases hpl : plainB w with
      | true =>
        have e : wordB w = w := by simp [wordB, hpl]
        rw [e] at h1
        simp only [plainB, Bool.and_eq_true] at hpl
        cases w with
        | nil => simp at h1
        | cons c w' =>
          simp at h1; subst h1
          simp [isPl] at hpl
      | false =>
        have e : wordB w = quo w := by simp [wordB, hpl]
        rw [e, unq_quo] at h2
        cases h2
theorem unq_len {w v : Bs} (h : unq w = some v) : v.length ≤ w.length := by
  have := quo_len v
  rw [unq_some h]; omega
theorem rw_bad (s : Bs) (hs : s.length ≤ 10000000) (hbad : ∀ l, joinB l ≠ s) : ∀ (N : Nat) (t p : Bs) (l : List Bs) (bn : Bool), t.length ≤ N → p ++ t = s → l.length ≤ p.length → sumLen l ≤ p.length →
    Evt fun n => ∀ k, t.length < k → r01_Words_L1 lb n k s bn (scv l) (p.length : Int) = some (.tup [.list true [], .int .i64 3])
  | N, [], p, l, bn, _, h, hl, hsum => by
    have : p = s := by simpa using h
    refine (rw_end lb s l bn (p.length : Int) (by rw [this]; omega) (by rw [this] at hl; omega) (by rw [this] at hsum; omega)).mono fun n hn k hk => ?_
    obtain ⟨k, rfl⟩ : ∃ m, k = m + 1 := ⟨k - 1, by omega⟩
    rw [hn k, if_neg (hbad l)]
  | 0, c :: t, _, _, _, hN, _, _, _ => by simp at hN
  | N + 1, c :: t, p, l, bn, hN, h, hl, hsum => by
    have hlen : s.length = p.length + (c :: t).length := by rw [← h]; simp
    have hel := endB_le (c :: t)
    have htl : (c :: t).length = t.length + 1 := rfl
    refine rw_step lb s (by omega) p (c :: t) h (by simp) l bn (by omega) rfl (fun v h1 h2 => ?_) fun _ _ => rfl
    have hvl : v.length ≤ endB (c :: t) := by
      by_cases hq : ((c :: t).take (endB (c :: t))).head? = some 34
      · have := unq_len (h1 hq); rw [List.length_take] at this; omega
      · rw [h2 hq, List.length_take]; omega
    have hsum' : sumLen (l ++ [v]) = sumLen l + v.length := by rw [sumLen_app, sumLen_cons]; simp [sumLen]
    by_cases hlast : endB (c :: t) = (c :: t).length
    · refine (rw_end lb s (l ++ [v]) false ((p.length + endB (c :: t) + 1 : Nat) : Int) (by rw [hlen, hlast]; omega) (by simp; omega) (by omega)).mono fun n hn k hk => ?_
      obtain ⟨k, rfl⟩ : ∃ m, k = m + 1 := ⟨k - 1, by omega⟩
      rw [hn k, if_neg (hbad _)]
    · have hp' : (p ++ (c :: t).take (endB (c :: t) + 1)).length = p.length + endB (c :: t) + 1 := by rw [List.length_append, List.length_take]; omega
      refine (rw_bad s hs hbad N ((c :: t).drop (endB (c :: t) + 1)) (p ++ (c :: t).take (endB (c :: t) + 1)) (l ++ [v]) false (by rw [List.length_drop]; omega) (by rw [List.append_assoc, List.take_append_drop]; exact h) (by rw [hp']; simp; omega) (by rw [hp']; omega)).mono fun n hn k hk => ?_
      rw [hp'] at hn
      exact hn k (by rw [List.length_drop]; omega)
theorem r01_Words_ret (s : Bs) (hs : s.length ≤ 10000000) : Ret lb F_r01_Words [.str s] (wordsV s.isEmpty (wordsB s)) := by
  refine .top rfl (.eq (fun n => by rw [r01_Words_eq]) ?_)
  cases h : wordsB s with
  | none =>
    refine Evt.diag (rw_bad lb s hs (fun l q => ?_) _ s [] [] true (Nat.le_refl _) rfl (Nat.zero_le _) (by simp [sumLen]))
    rw [← q, wordsB_join] at h
    cases h
  | some L =>
    have hj := wordsB_some h
    by_cases h0 : L = []
    · subst h0
      have hs0 : s = [] := hj
      subst hs0
      refine ((rw_end lb [] [] true 0 (by decide) (by simp) (by simp [sumLen])).and (Evt.ge 1)).mono fun n ⟨hn, hge⟩ => ?_
      obtain ⟨k, rfl⟩ : ∃ k, n = k + 1 := ⟨n - 1, by omega⟩
      exact hn k
    · have hbl : sumLen L ≤ s.length ∧ L.length ≤ s.length := by
        have hb : ∀ l : List Bs, sumLen l ≤ (joinB l).length ∧ l.length ≤ (joinB l).length := by
          intro l
          induction l with
          | nil => simp [sumLen, joinB]
          | cons w r ih =>
            have hw := wordB_len w
            have hwn := List.length_pos_iff.2 (wordB_ne w)
            cases r with
            | nil => simp only [joinB, sumLen_cons, List.length_cons, List.length_nil]; simp [sumLen]; omega
            | cons x r =>
              rw [joinB_cons w (by simp), sumLen_cons]
              simp only [List.length_append, List.length_cons] at ih ⊢
              omega
        rw [hj]; exact hb L
      have hne : s.isEmpty = false := by
        cases s with
        | nil => exact (h0 (joinB_nil hj.symm)).elim
        | cons c r => rfl
      rw [hne]
      have := rw_good lb s (by omega) L (by omega) (by omega) hj.symm L [] [] true rfl h0 hj.symm (fun _ => rfl)
      refine (Evt.diag this).mono fun n hn => ?_
      exact hn

/-! lists -/
end Go.Proofs
