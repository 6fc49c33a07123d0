/- What the reference of package text answers: quoted texts are read. Conditions: as each says. -/
import Derived.Test.YtdcpdknginpohaaGreatDoorRu
set_option linter.unusedSimpArgs false
namespace Go.Proofs
open Go.Am
variable (lb : Nat)
theorem atS_mid {s X Y : Bs} {c : UInt8} {i : Int} (hs : s = X ++ c :: Y) (h : i = (X.length : Int)) : atS s i = some c := by
  subst hs; subst h
  exact atS_ok (by simp)
theorem hex2 (c : UInt8) : IntKind.wrap .u8 (IntKind.wrap .i64 (IntKind.wrap .i64 (16 * ((c.toNat / 16 : Nat) : Int)) + ((c.toNat % 16 : Nat) : Int))) = (c.toNat : Int) := by
  revert c
  refine u8_all ?_
  decide +kernel
theorem uend (s a : Bs) (bn : Bool) (i : Int) (ha : a.length ≤ 1000000000) (hi : ¬ i < IntKind.wrap .i64 ((s.length : Int) - 1)) :
    Evt fun n => ∀ k, r01_Unquote_L1 lb n (k + 1) s bn (bcv a) i = some (unqR (if quo a = s then some a else none)) := by
  refine (r01_Quote_ret lb a ha).mono fun n hn k => ?_
  rw [r01_Unquote_L1_succ, decF hi, cond_false, r01_Unquote_J2_eq, bytesOf_bcv, optO_s, hn, optO_s, asS_s, optO_s]
  by_cases h : quo a = s
  · rw [if_pos h, h]
    simp [unqR, optO_s]
  · rw [if_neg h, show (quo a == s) = false by simpa using h]
    simp [unqR]
theorem ugood (b : Bs) (hb : b.length ≤ 100000000) : ∀ (t a : Bs) (bn : Bool), a ++ t = b → Evt fun n => ∀ k, t.length < k →
    r01_Unquote_L1 lb n k (quo b) bn (bcv a) ((1 + (a.flatMap esc).length : Nat) : Int) = some (unqR (some b))
  | [], a, bn, h => by
    have : a = b := by simpa using h
    subst this
    have hq : (quo a).length = 2 + (a.flatMap esc).length := by simp only [quo, List.length_cons, List.length_append, List.length_nil]; omega
    have hf := flat_len a
    have hwq : IntKind.wrap .i64 (((quo a).length : Int) - 1) = ((quo a).length : Int) - 1 := wrap64 (by omega) (by omega)
    refine (uend lb (quo a) a bn ((1 + (a.flatMap esc).length : Nat) : Int) (by omega) (by rw [hwq]; omega)).mono fun n hn k hk => ?_
    obtain ⟨k, rfl⟩ : ∃ m, k = m + 1 := ⟨k - 1, by simp at hk; omega⟩
    rw [hn k, if_pos rfl]
  | c :: t, a, bn, h => by
    have hf := flat_len b
    have hall : b.length = a.length + (t.length + 1) := by rw [← h]; simp
    have hsplit : quo b = (34 :: a.flatMap esc) ++ (esc c ++ (t.flatMap esc ++ [34])) := by rw [← h]; simp [quo]
    have hlen : (quo b).length = 1 + (a.flatMap esc).length + ((esc c).length + ((t.flatMap esc).length + 1)) := by
      rw [hsplit]; simp only [List.length_cons, List.length_append, List.length_nil]; omega
    have hqb : (quo b).length ≤ 400000002 := by have := quo_len b; omega
    have hw1 : IntKind.wrap .i64 (((quo b).length : Int) - 1) = ((quo b).length : Int) - 1 := wrap64 (by omega) (by omega)
    have hfa := flat_len a
    have r1 : room ((bcv a).length + 1) 1 = true := room_ok (by rw [bcv_len]; omega)
    refine (ugood b hb t (a ++ [c]) (bn && false) (by rw [← h]; simp)).imp2 ((r01_hex_ret lb (hexB (c.toNat / 16))).and (r01_hex_ret lb (hexB (c.toNat % 16)))) fun n hn ⟨hh1, hh2⟩ k hk => ?_
    obtain ⟨k, rfl⟩ : ∃ m, k = m + 1 := ⟨k - 1, by simp at hk; omega⟩
    have hn := hn k (by simp at hk; omega)
    have hfl : ((a ++ [c]).flatMap esc).length = (a.flatMap esc).length + (esc c).length := by simp
    rw [hfl] at hn
    have hc : c.toNat < 256 := c.toNat_lt
    have hX : (34 :: a.flatMap esc : Bs).length = 1 + (a.flatMap esc).length := by rw [List.length_cons]; omega
    have el := esc_len c
    rw [r01_Unquote_L1_succ, hw1, decT (by omega), cond_true]
    generalize (a.flatMap esc).length = m at hX hlen hn hfa ⊢
    by_cases h1 : c.toNat = 34 ∨ c.toNat = 92
    · have he : esc c = [92, c] := by simp [esc, h1]
      rw [he] at hsplit hn hlen
      have e0 : atS (quo b) ((1 + m : Nat) : Int) = some 92 := atS_mid (X := 34 :: a.flatMap esc) (Y := c :: (t.flatMap esc ++ [34])) (by rw [hsplit]; rfl) (by rw [hX])
      have e1 : atS (quo b) ((1 + m : Nat) + 1 : Int) = some c := atS_mid (X := 34 :: a.flatMap esc ++ [92]) (Y := t.flatMap esc ++ [34]) (by rw [hsplit]; simp) (by rw [List.length_append, hX]; simp)
      rw [e0, optO_s, bneF (by decide), cond_false, wrap64 (by omega) (by omega), e1, optO_s, bneT (by omega), cond_true, optO_s, r1, chkO_t, wrap64 (by omega) (by omega)]
      rw [show bcv a ++ [[CV.int .u8 (c.toNat : Int)]] = bcv (a ++ [c]) by simp [bcv], show ((1 + m : Nat) : Int) + 1 + 1 = ((1 + (m + ([92, c] : Bs).length) : Nat) : Int) by simp only [List.length_cons, List.length_nil]; omega]
      exact hn
    by_cases h2 : c.toNat < 32 ∨ 126 < c.toNat
    · have he : esc c = [92, 120, hexB (c.toNat / 16), hexB (c.toNat % 16)] := by simp [esc, h1, h2]
      rw [he] at hsplit hn hlen
      have hl4 : ([92, 120, hexB (c.toNat / 16), hexB (c.toNat % 16)] : Bs).length = 4 := rfl
      rw [hl4] at hlen hn
      have v1 : hxV (hexB (c.toNat / 16)) = ((c.toNat / 16 : Nat) : Int) := by simp [hxV, hexV_hexB _ (show c.toNat / 16 < 16 by omega)]
      have v2 : hxV (hexB (c.toNat % 16)) = ((c.toNat % 16 : Nat) : Int) := by simp [hxV, hexV_hexB _ (show c.toNat % 16 < 16 by omega)]
      have e0 : atS (quo b) ((1 + m : Nat) : Int) = some 92 := atS_mid (X := 34 :: a.flatMap esc) (by rw [hsplit]; rfl) (by rw [hX])
      have e1 : atS (quo b) ((1 + m : Nat) + 1 : Int) = some 120 := atS_mid (X := 34 :: a.flatMap esc ++ [92]) (Y := hexB (c.toNat / 16) :: hexB (c.toNat % 16) :: (t.flatMap esc ++ [34])) (by rw [hsplit]; simp) (by rw [List.length_append, hX]; simp)
      have e2 : atS (quo b) ((1 + m : Nat) + 1 + 1 : Int) = some (hexB (c.toNat / 16)) := atS_mid (X := 34 :: a.flatMap esc ++ [92, 120]) (Y := hexB (c.toNat % 16) :: (t.flatMap esc ++ [34])) (by rw [hsplit]; simp) (by rw [List.length_append, hX]; simp; omega)
      have e3 : atS (quo b) ((1 + m : Nat) + 1 + 2 : Int) = some (hexB (c.toNat % 16)) := atS_mid (X := 34 :: a.flatMap esc ++ [92, 120, hexB (c.toNat / 16)]) (Y := t.flatMap esc ++ [34]) (by rw [hsplit]; simp) (by rw [List.length_append, hX]; simp; omega)
      have w1 : IntKind.wrap .i64 (((1 + m : Nat) : Int) + 1) = ((1 + m : Nat) : Int) + 1 := wrap64 (by omega) (by omega)
      have w2 : IntKind.wrap .i64 (((1 + m : Nat) : Int) + 1 + 1) = ((1 + m : Nat) : Int) + 1 + 1 := wrap64 (by omega) (by omega)
      have w3 : IntKind.wrap .i64 (((1 + m : Nat) : Int) + 1 + 2) = ((1 + m : Nat) : Int) + 1 + 2 := wrap64 (by omega) (by omega)
      simp only [e0, e1, e2, e3, w1, w2, w3, optO_s, hh1, hh2, v1, v2, asI_i, r1, chkO_t]
      rw [bneF (by decide), cond_false, bneF (by decide), cond_false, decF (by omega), cond_false, decF (by omega), cond_false, decF (by omega), cond_false, wrap64 (x := ((1 + m : Nat) : Int) + 1 + 2 + 1) (by omega) (by omega)]
      rw [hex2 c, show bcv a ++ [[CV.int .u8 (c.toNat : Int)]] = bcv (a ++ [c]) by simp [bcv], show ((1 + m : Nat) : Int) + 1 + 2 + 1 = ((1 + (m + 4) : Nat) : Int) by omega]
      exact hn
    · have he : esc c = [c] := by simp [esc, h1, h2]
      rw [he] at hsplit hn hlen
      have e0 : atS (quo b) ((1 + m : Nat) : Int) = some c := atS_mid (X := 34 :: a.flatMap esc) (Y := t.flatMap esc ++ [34]) (by rw [hsplit]; rfl) (by rw [hX])
      rw [e0, optO_s, bneT (by omega), cond_true, optO_s, r1, chkO_t, wrap64 (by omega) (by omega)]
      rw [show bcv a ++ [[CV.int .u8 (c.toNat : Int)]] = bcv (a ++ [c]) by simp [bcv], show ((1 + m : Nat) : Int) + 1 = ((1 + (m + ([c] : Bs).length) : Nat) : Int) by simp only [List.length_cons, List.length_nil]; omega]
      exact hn
theorem ubad (s : Bs) (hs : s.length ≤ 1000000000) (hbad : ∀ b, s ≠ quo b) : ∀ (N i : Nat) (a : Bs) (bn : Bool), s.length ≤ i + N → a.length ≤ i → i ≤ s.length + 4 → a.length ≤ 1000000000 →
    Evt fun n => ∀ k, N < k → r01_Unquote_L1 lb n k s bn (bcv a) (i : Int) = some (unqR none)
  | N, i, a, bn, h, ha, hi, ha2 => by
    have hw1 : IntKind.wrap .i64 ((s.length : Int) - 1) = (s.length : Int) - 1 := wrap64 (by omega) (by omega)
    by_cases hlt : (i : Int) < (s.length : Int) - 1
    · match N, h with
      | 0, h => omega
      | N + 1, h =>
        obtain ⟨c, hc⟩ : ∃ c, s[i]? = some c := ⟨s[i], List.getElem?_eq_getElem (by omega)⟩
        obtain ⟨d, hd⟩ : ∃ d, s[i + 1]? = some d := ⟨s[i + 1], List.getElem?_eq_getElem (by omega)⟩
        have e0 : atS s (i : Int) = some c := atS_ok hc
        have e1 : atS s ((i : Int) + 1) = some d := atS_ok (i := i + 1) hd
        have r1 : room ((bcv a).length + 1) 1 = true := room_ok (by rw [bcv_len]; omega)
        have w1 : IntKind.wrap .i64 ((i : Int) + 1) = (i : Int) + 1 := wrap64 (by omega) (by omega)
        have w2 : IntKind.wrap .i64 ((i : Int) + 1 + 1) = (i : Int) + 1 + 1 := wrap64 (by omega) (by omega)
        have w3 : IntKind.wrap .i64 ((i : Int) + 1 + 2) = (i : Int) + 1 + 2 := wrap64 (by omega) (by omega)
        by_cases h1 : c.toNat = 92
        · by_cases h2 : d.toNat = 120
          · by_cases h3 : (i : Int) + 1 + 2 ≥ (s.length : Int)
            · refine .all fun n k hk => ?_
              obtain ⟨k, rfl⟩ : ∃ m, k = m + 1 := ⟨k - 1, by omega⟩
              rw [r01_Unquote_L1_succ, hw1, decT hlt, cond_true, e0, optO_s, bneF (by omega), cond_false, w1, e1, optO_s, bneF (by omega), cond_false, w3, decT h3, cond_true]
              rfl
            · obtain ⟨x, hx⟩ : ∃ x, s[i + 2]? = some x := ⟨s[i + 2], List.getElem?_eq_getElem (by omega)⟩
              obtain ⟨y, hy⟩ : ∃ y, s[i + 3]? = some y := ⟨s[i + 3], List.getElem?_eq_getElem (by omega)⟩
              have e2 : atS s ((i : Int) + 1 + 1) = some x := by rw [show (i : Int) + 1 + 1 = ((i + 2 : Nat) : Int) by omega]; exact atS_ok hx
              have e3 : atS s ((i : Int) + 1 + 2) = some y := by rw [show (i : Int) + 1 + 2 = ((i + 3 : Nat) : Int) by omega]; exact atS_ok hy
              rcases hxV_cases x with ⟨_, vx⟩ | ⟨p, _, hp, vx⟩
              · refine (r01_hex_ret lb x).mono fun n hhx k hk => ?_
                obtain ⟨k, rfl⟩ : ∃ m, k = m + 1 := ⟨k - 1, by omega⟩
                rw [r01_Unquote_L1_succ, hw1, decT hlt, cond_true, e0, optO_s, bneF (by omega), cond_false, w1, e1, optO_s, bneF (by omega), cond_false, w3, decF h3, cond_false, w2, e2, optO_s, hhx, optO_s, asI_i, optO_s, decT (by omega), cond_true]
                rfl
              rcases hxV_cases y with ⟨_, vy⟩ | ⟨q, _, hq, vy⟩
              · refine (r01_hex_ret lb x).imp2 (r01_hex_ret lb y) fun n hhx hhy k hk => ?_
                obtain ⟨k, rfl⟩ : ∃ m, k = m + 1 := ⟨k - 1, by omega⟩
                rw [r01_Unquote_L1_succ, hw1, decT hlt, cond_true, e0, optO_s, bneF (by omega), cond_false, w1, e1, optO_s, bneF (by omega), cond_false, w3, decF h3, cond_false, w2, e2, optO_s, hhx, optO_s, asI_i, optO_s, decF (by omega), cond_false, e3, optO_s,
                  hhy, optO_s, asI_i, optO_s, decT (by omega), cond_true]
                rfl
              · obtain ⟨z, hz⟩ : ∃ z : UInt8, IntKind.wrap .u8 (IntKind.wrap .i64 (IntKind.wrap .i64 (16 * (p : Int)) + (q : Int))) = (z.toNat : Int) := by
                  refine ⟨UInt8.ofNat (16 * p + q), ?_⟩
                  rw [wrap64 (x := 16 * (p : Int)) (by omega) (by omega), wrap64 (by omega) (by omega)]
                  unfold IntKind.wrap
                  simp [IntKind.bits, IntKind.signed]
                refine (ubad s hs hbad N (i + 4) (a ++ [z]) (bn && false) (by omega) (by simp; omega) (by omega) (by simp; omega)).imp2 ((r01_hex_ret lb x).and (r01_hex_ret lb y)) fun n hn ⟨hhx, hhy⟩ k hk => ?_
                obtain ⟨k, rfl⟩ : ∃ m, k = m + 1 := ⟨k - 1, by omega⟩
                rw [r01_Unquote_L1_succ]
                simp only [hw1, decT hlt, cond_true, e0, e1, e2, e3, w1, w2, w3, optO_s, hhx, hhy, asI_i, r1, chkO_t]
                rw [bneF (by omega), cond_false, bneF (by omega), cond_false, decF h3, cond_false, decF (by omega), cond_false, decF (by omega), cond_false, vx, vy, hz, wrap64 (by omega) (by omega)]
                rw [show bcv a ++ [[CV.int .u8 (z.toNat : Int)]] = bcv (a ++ [z]) by simp [bcv], show (i : Int) + 1 + 2 + 1 = ((i + 4 : Nat) : Int) by omega]
                exact hn k (by omega)
          · refine (ubad s hs hbad N (i + 2) (a ++ [d]) (bn && false) (by omega) (by simp; omega) (by omega) (by simp; omega)).mono fun n hn k hk => ?_
            obtain ⟨k, rfl⟩ : ∃ m, k = m + 1 := ⟨k - 1, by omega⟩
            rw [r01_Unquote_L1_succ, hw1, decT hlt, cond_true, e0, optO_s, bneF (by omega), cond_false, w1, e1, optO_s, bneT (by omega), cond_true, optO_s, r1, chkO_t, w2]
            rw [show bcv a ++ [[CV.int .u8 (d.toNat : Int)]] = bcv (a ++ [d]) by simp [bcv], show (i : Int) + 1 + 1 = ((i + 2 : Nat) : Int) by omega]
            exact hn k (by omega)
        · refine (ubad s hs hbad N (i + 1) (a ++ [c]) (bn && false) (by omega) (by simp; omega) (by omega) (by simp; omega)).mono fun n hn k hk => ?_
          obtain ⟨k, rfl⟩ : ∃ m, k = m + 1 := ⟨k - 1, by omega⟩
          rw [r01_Unquote_L1_succ, hw1, decT hlt, cond_true, e0, optO_s, bneT (by omega), cond_true, optO_s, r1, chkO_t, w1]
          rw [show bcv a ++ [[CV.int .u8 (c.toNat : Int)]] = bcv (a ++ [c]) by simp [bcv], show (i : Int) + 1 = ((i + 1 : Nat) : Int) by omega]
          exact hn k (by omega)
    · refine (uend lb s a bn i ha2 (by rw [hw1]; exact hlt)).mono fun n hn k hk => ?_
      obtain ⟨k, rfl⟩ : ∃ m, k = m + 1 := ⟨k - 1, by omega⟩
      rw [hn k, if_neg fun q => hbad a q.symm]
theorem r01_Unquote_ret (s : Bs) (hs : s.length ≤ 100000000) : Ret lb F_r01_Unquote [.str s] (unqR (unq s)) := by
  refine .top rfl (.eq (fun n => by rw [r01_Unquote_eq]) ?_)
  cases h : unq s with
  | some b =>
    have hb := unq_some h
    subst hb
    have hl := quo_len b
    exact Evt.diag (ugood lb b (by omega) b [] true rfl)
  | none =>
    refine Evt.diag (ubad lb s (by omega) (fun b q => ?_) s.length 1 [] true (by omega) (by simp) (by omega) (by simp))
    rw [q, unq_quo] at h
    cases h
end Go.Proofs
