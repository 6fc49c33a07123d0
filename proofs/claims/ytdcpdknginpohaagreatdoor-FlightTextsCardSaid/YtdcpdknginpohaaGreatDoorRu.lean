/- What the functions of package text and of its reference answer: quoted texts are read. Conditions: as each says. -/
import Derived.Test.YtdcpdknginpohaaGreatDoorRt
set_option linter.unusedSimpArgs false
namespace Go.Proofs
open Go.Am
variable (lb : Nat)
def hxV (c : UInt8) : Int := match hexV c with
  | some n => n
  | none => -1
theorem index_hex (c : UInt8) : Lib.indexByte [48, 49, 50, 51, 52, 53, 54, 55, 56, 57, 97, 98, 99, 100, 101, 102] c = hxV c := by
  revert c; refine u8_all ?_; decide +kernel
theorem hexL_loop (c : UInt8) : ∀ (m i : Nat), i + m = 16 → (∀ j, j < i → c ≠ hexB j) → Evt fun n => ∀ k, m < k → r01_hex_L1 lb n k (c.toNat : Int) (i : Int) = some (.int .i64 (hxV c))
  | 0, i, h, hj => .all fun n k hk => by
    obtain ⟨k, rfl⟩ : ∃ m, k = m + 1 := ⟨k - 1, by omega⟩
    rw [r01_hex_L1_succ, decF (by omega), cond_false, r01_hex_J2_eq]
    have : hexV c = none := by
      cases hv : hexV c with
      | none => rfl
      | some n => obtain ⟨h1, h2⟩ := hexV_some hv; exact (hj n (by omega) h1).elim
    simp [hxV, this]
  | m + 1, i, h, hj => by
    have hi : i < 16 := by omega
    by_cases hc : c = hexB i
    · refine .all fun n k hk => ?_
      obtain ⟨k, rfl⟩ : ∃ m, k = m + 1 := ⟨k - 1, by omega⟩
      rw [r01_hex_L1_succ, decT (by omega), cond_true, hex_at i hi, optO_s, beqT (by rw [hc]), cond_true]
      simp [hxV, hc, hexV_hexB i hi]
    · refine (hexL_loop c m (i + 1) (by omega) fun j hj' => ?_).mono fun n hn k hk => ?_
      · by_cases q : j = i
        · subst q; exact hc
        · exact hj j (by omega)
      · obtain ⟨k, rfl⟩ : ∃ m, k = m + 1 := ⟨k - 1, by omega⟩
        have hne : (hexB i).toNat ≠ c.toNat := fun q => hc (u8_ext q.symm)
        rw [r01_hex_L1_succ, decT (by omega), cond_true, hex_at i hi, optO_s, beqF (by omega), cond_false, wrap64 (by omega) (by omega)]
        exact hn k (by omega)
theorem r01_hex_ret (c : UInt8) : Ret lb F_r01_hex [.int .u8 (c.toNat : Int)] (.int .i64 (hxV c)) :=
  .top rfl (.eq (fun n => by rw [r01_hex_eq]; rfl) (Evt.diag (hexL_loop lb c 16 0 rfl (fun j h => by omega))))
theorem hexS_ret (c : UInt8) : Ret lb F_strings_IndexByte [.str [48, 49, 50, 51, 52, 53, 54, 55, 56, 57, 97, 98, 99, 100, 101, 102], .int .u8 (c.toNat : Int)] (.int .i64 (hxV c)) := by
  refine .lib rfl ?_
  simp only [lib_IndexByte, Int.toNat_natCast]
  rw [show c.toNat.toUInt8 = c from by simp, index_hex]
theorem hxV_cases (c : UInt8) : (hexV c = none ∧ hxV c = -1) ∨ ∃ n, hexV c = some n ∧ n < 16 ∧ hxV c = n := by
  cases h : hexV c with
  | none => exact .inl ⟨rfl, by simp [hxV, h]⟩
  | some n => exact .inr ⟨n, rfl, (hexV_some h).2, by simp [hxV, h]⟩
theorem orHex : ∀ a, a < 16 → ∀ b, b < 16 → IntKind.wrap .u8 (IntKind.wrap .i64 ((BitVec.ofInt 64 (IntKind.wrap .i64 ((a : Nat) * 2 ^ 4)) ||| BitVec.ofInt 64 (b : Nat)).toNat)) = ((16 * a + b : Nat) : Int) := by decide +kernel

/-- what follows a backslash -/
def escR (t : Bs) : Nat × Nat := match t with
  | [] => (0, 0)
  | d :: r => if d.toNat = 34 ∨ d.toNat = 92 then (d.toNat, 1) else if d.toNat = 120 then
      match r with
      | h :: l :: _ => match hexV h, hexV l with
        | some a, some b => if 32 ≤ 16 * a + b ∧ 16 * a + b ≤ 126 then (0, 0) else (16 * a + b, 3)
        | _, _ => (0, 0)
      | _ => (0, 0)
    else (0, 0)
theorem escR_len (t : Bs) : (escR t).2 ≤ t.length ∧ (escR t).2 ≤ 3 ∧ (escR t).1 < 256 := by
  unfold escR
  split
  · simp
  rename_i d r
  have := d.toNat_lt
  split
  · exact ⟨by simp, by simp, by simpa using this⟩
  split
  · split
    · split
      · rename_i a b ha hb
        have := (hexV_some ha).2
        have := (hexV_some hb).2
        split
        · simp
        · exact ⟨by simp only [List.length_cons]; omega, by simp, by simp only; omega⟩
      · simp
    · simp
  · simp
theorem unqI_bs (r : Bs) : unqI (92 :: r) = if (escR r).2 = 0 then none else (unqI (r.drop (escR r).2)).map (UInt8.ofNat (escR r).1 :: ·) := by
  rw [unqI_cons, if_neg (by decide), if_pos (by decide)]
  match r with
  | [] => simp [escR]
  | d :: r' =>
    simp only [escR]
    by_cases h1 : d.toNat = 34 ∨ d.toNat = 92
    · simp [h1]
    · simp only [h1, if_false]
      by_cases h2 : d.toNat = 120
      · simp only [h2, if_true]
        match r' with
        | [] => simp
        | [x] => simp
        | x :: y :: r'' =>
          simp only
          cases hx : hexV x with
          | none => simp
          | some a =>
            cases hy : hexV y with
            | none => simp
            | some b =>
              simp only
              by_cases h3 : 32 ≤ 16 * a + b ∧ 16 * a + b ≤ 126
              · simp [h3]
              · simp [h3]
      · simp [h2]
theorem text_escape_ret (t : Bs) (ht : t.length ≤ 1000000000) : Ret lb F_text_escape [.str t] (.tup [.int .u8 ((escR t).1 : Int), .int .i64 ((escR t).2 : Int)]) := by
  refine .top rfl (.eq (fun n => by rw [text_escape_eq]) ?_)
  match t, ht with
  | [], _ => exact .done
  | d :: r, ht =>
    simp only [show (d :: r == ([] : Bs)) = false from rfl, cond_false, show atS (d :: r) 0 = some d from rfl, optO_s]
    unfold escR
    by_cases h1 : d.toNat = 34
    · simp only [beqT (show (d.toNat : Int) = 34 by omega), cond_true]
      simp only [h1, true_or, if_true]
      refine .of ?_; first | rfl | simp
    simp only [beqF (show (d.toNat : Int) ≠ 34 by omega), cond_false]
    by_cases h2 : d.toNat = 92
    · simp only [beqT (show (d.toNat : Int) = 92 by omega), cond_true]
      simp only [h2, or_true, if_true]
      refine .of ?_; first | rfl | simp
    simp only [beqF (show (d.toNat : Int) ≠ 92 by omega), cond_false, h1, h2, or_self, if_false]
    by_cases h3 : d.toNat = 120
    · simp only [bneF (show (d.toNat : Int) = 120 by omega), cond_false]
      simp only [h3, if_true]
      match r, ht with
      | [], _ => exact .of rfl
      | [x], _ => exact .of rfl
      | x :: y :: r', _ =>
        simp only [decF (show ¬ ((d :: x :: y :: r' : Bs).length : Int) < 3 by simp only [List.length_cons]; omega), cond_false, show atS (d :: x :: y :: r') 1 = some x from rfl, show atS (d :: x :: y :: r') 2 = some y from rfl, optO_s]
        refine .call (hexS_ret lb x) ?_
        refine .call (hexS_ret lb y) ?_
        simp only [optO_s, asI_i]
        rcases hxV_cases x with ⟨hx, ex⟩ | ⟨a, hx, ha, ex⟩
        · simp only [hx, ex]
          refine .of ?_; first | rfl | simp
        rcases hxV_cases y with ⟨hy, ey⟩ | ⟨b, hy, hb, ey⟩
        · simp only [hx, hy, ex, ey, decF (show ¬ (a : Int) < 0 by omega), cond_false]
          refine .of ?_; first | rfl | simp
        simp only [hx, hy, ex, ey, decF (show ¬ (a : Int) < 0 by omega), decF (show ¬ (b : Int) < 0 by omega), cond_false, orHex a ha b hb]
        by_cases h4 : 32 ≤ 16 * a + b
        · rw [decT (show ((16 * a + b : Nat) : Int) ≥ 32 by omega), cond_true]
          by_cases h5 : 16 * a + b ≤ 126
          · rw [decT (show ((16 * a + b : Nat) : Int) ≤ 126 by omega), cond_true, if_pos ⟨h4, h5⟩]
            exact .of rfl
          · rw [decF (show ¬ ((16 * a + b : Nat) : Int) ≤ 126 by omega), cond_false, if_neg (by omega)]
            exact .of rfl
        · rw [decF (show ¬ ((16 * a + b : Nat) : Int) ≥ 32 by omega), cond_false, if_neg (by omega)]
          exact .of rfl
    · simp only [bneT (show (d.toNat : Int) ≠ 120 by omega), cond_true, h3, if_false]
      refine .of ?_; first | rfl | simp
/-- a text, or the error of its form -/
def unqR (o : Option Bs) : CV := match o with
  | some b => .tup [.str b, .int .i64 0]
  | none => .tup [.str [], .int .i64 3]
theorem unq_loop (s inner : Bs) (hs : inner.length ≤ 1000000000) (he : (s.take ((IntKind.wrap .i64 ((s.length : Int) - 1)).toNat)).drop 1 = inner) :
    ∀ (N : Nat) (t p b : Bs), t.length ≤ N → p ++ t = inner → b.length ≤ p.length → Evt fun n => ∀ k, t.length < k → text_Unquote_L1 lb n k s (bcv b) (p.length : Int) = some (unqR ((unqI t).map (b ++ ·)))
  | N, [], p, b, hN, hp, hb => .all fun n k hk => by
    obtain ⟨k, rfl⟩ : ∃ m, k = m + 1 := ⟨k - 1, by simp at hk; omega⟩
    have : p = inner := by simpa using hp
    rw [text_Unquote_L1_succ, he, decF (by rw [this]; omega), cond_false, text_Unquote_J2_eq, bytesOf_bcv]
    simp [optO_s, unqR, unqI]
  | 0, c :: t, p, b, hN, _, _ => by simp at hN
  | N + 1, c :: t, p, b, hN, hp, hb => by
    have hl : inner.length = p.length + (t.length + 1) := by rw [← hp]; simp
    have hat : atS inner (p.length : Int) = some c := atS_ok (by rw [← hp]; simp)
    have hlt : (p.length : Int) < (inner.length : Int) := by omega
    have hw : IntKind.wrap .i64 ((p.length : Int) + 1) = ((p ++ [c]).length : Int) := by rw [wrap64 (by omega) (by omega)]; simp
    have r1 : room ((bcv b).length + 1) 1 = true := room_ok (by rw [bcv_len]; omega)
    by_cases hbad : c.toNat = 34 ∨ c.toNat < 32 ∨ 126 < c.toNat
    · refine .all fun n k hk => ?_
      obtain ⟨k, rfl⟩ : ∃ m, k = m + 1 := ⟨k - 1, by simp at hk; omega⟩
      rw [text_Unquote_L1_succ, he]
      simp only [hlt, decide_true, cond_true, hat, optO_s, unqI_cons, hbad, if_true, Option.map_none, unqR]
      by_cases h1 : c.toNat = 34
      · rw [beqT (by omega), cond_true]
      rw [beqF (by omega), cond_false]
      by_cases h2 : c.toNat < 32
      · rw [decT (by omega), cond_true]
      rw [decF (by omega), cond_false, decT (by omega), cond_true]
    · have hg : ∀ {x y : Option CV}, (bif ((c.toNat : Int) == 34) then x else bif (decide ((c.toNat : Int) < 32)) then x else bif (decide ((c.toNat : Int) > 126)) then x else y) = y := by
        intro x y
        rw [beqF (by omega), cond_false, decF (by omega), cond_false, decF (by omega), cond_false]
      by_cases h92 : c.toNat = 92
      · have ec : c = 92 := u8_ext h92
        have hr : (inner.take ((inner.length : Int)).toNat).drop ((p ++ [c]).length : Int).toNat = t := by
          rw [Int.toNat_natCast, Int.toNat_natCast, List.take_length, ← hp, show p ++ c :: t = (p ++ [c]) ++ t by simp, List.drop_left]
        obtain ⟨e1, e2, e3⟩ := escR_len t
        have hu := unqI_bs t
        by_cases h0 : (escR t).2 = 0
        · refine (text_escape_ret lb t (by omega)).mono fun n hn k hk => ?_
          obtain ⟨k, rfl⟩ : ∃ m, k = m + 1 := ⟨k - 1, by simp at hk; omega⟩
          rw [text_Unquote_L1_succ, he]
          simp only [hlt, decide_true, cond_true, hat, optO_s, hg, beqT (show (c.toNat : Int) = 92 by omega), hw, hr, hn, asT_t, get0, get1, asI_i]
          rw [decT (by simp; omega), chkO_t, beqT (by omega), cond_true, ec, hu, if_pos h0]
          rfl
        · have hd : (p ++ [c] ++ t.take (escR t).2) ++ t.drop (escR t).2 = inner := by
            rw [List.append_assoc, List.take_append_drop, ← hp]; simp
          have hlen : (p ++ [c] ++ t.take (escR t).2).length = p.length + 1 + (escR t).2 := by simp; omega
          refine (unq_loop s inner hs he N (t.drop (escR t).2) _ (b ++ [UInt8.ofNat (escR t).1]) (by simp at hN ⊢; omega) hd (by rw [hlen]; simp; omega)).imp2 (text_escape_ret lb t (by omega)) fun n hn hesc k hk => ?_
          obtain ⟨k, rfl⟩ : ∃ m, k = m + 1 := ⟨k - 1, by simp at hk; omega⟩
          have hn := hn k (by simp at hk ⊢; omega)
          rw [hlen] at hn
          rw [text_Unquote_L1_succ, he]
          simp only [hlt, decide_true, cond_true, hat, optO_s, hg, beqT (show (c.toNat : Int) = 92 by omega), hw, hr, hesc, asT_t, get0, get1, asI_i, isCell_int, r1, chkO_t]
          rw [decT (by simp; omega), chkO_t, beqF (by omega), cond_false, wrap64 (x := (p.length : Int) + ((escR t).2 : Int)) (by omega) (by omega), wrap64 (by omega) (by omega), ec, hu, if_neg h0]
          have e5 : bcv b ++ [[CV.int .u8 ((escR t).1 : Int)]] = bcv (b ++ [UInt8.ofNat (escR t).1]) := by
            simp [bcv, Nat.mod_eq_of_lt e3]
          rw [e5, show (p.length : Int) + ((escR t).2 : Int) + 1 = ((p.length + 1 + (escR t).2 : Nat) : Int) by omega, hn]
          cases unqI (t.drop (escR t).2) <;> simp
      · have hd : (p ++ [c]) ++ t = inner := by rw [← hp]; simp
        refine (unq_loop s inner hs he N t (p ++ [c]) (b ++ [c]) (by simp at hN; omega) hd (by simp; omega)).mono fun n hn k hk => ?_
        obtain ⟨k, rfl⟩ : ∃ m, k = m + 1 := ⟨k - 1, by simp at hk; omega⟩
        have hn := hn k (by simp at hk; omega)
        rw [text_Unquote_L1_succ, he]
        simp only [hlt, decide_true, cond_true, hat, optO_s, hg, beqF (show (c.toNat : Int) ≠ 92 by omega), cond_false, r1, chkO_t, hw]
        rw [show bcv b ++ [[CV.int .u8 (c.toNat : Int)]] = bcv (b ++ [c]) by simp [bcv], hn, unqI_cons, if_neg hbad, if_neg h92]
        cases unqI t <;> simp
theorem text_Unquote_ret (s : Bs) (hs : s.length ≤ 1000000000) : Ret lb F_text_Unquote [.str s] (unqR (unq s)) := by
  refine .top rfl (.eq (fun n => by rw [text_Unquote_eq]) ?_)
  unfold unq
  by_cases h2 : s.length < 2
  · rw [if_neg (by omega)]
    simp only [decT (show (s.length : Int) < 2 by omega), cond_true]
    exact .done
  simp only [decF (show ¬ (s.length : Int) < 2 by omega), cond_false]
  have hw : IntKind.wrap .i64 ((s.length : Int) - 1) = ((s.length - 1 : Nat) : Int) := by rw [wrap64 (by omega) (by omega)]; omega
  obtain ⟨x, hx⟩ : ∃ x, s[0]? = some x := ⟨s[0], List.getElem?_eq_getElem (by omega)⟩
  obtain ⟨y, hy⟩ : ∃ y, s[s.length - 1]? = some y := ⟨s[s.length - 1], List.getElem?_eq_getElem (by omega)⟩
  have hx' : atS s 0 = some x := atS_ok (i := 0) hx
  have hy' : atS s ((s.length - 1 : Nat) : Int) = some y := atS_ok hy
  have hh : s.head? = some x := by rw [List.head?_eq_getElem?]; exact hx
  have hg : s.getLast? = some y := by rw [List.getLast?_eq_getElem?]; exact hy
  rw [hh, hg]
  simp only [hx', optO_s]
  by_cases h34 : x = 34
  · simp only [bneF (show (x.toNat : Int) = 34 by rw [h34]; rfl), cond_false, hw, hy', optO_s]
    by_cases h35 : y = 34
    · rw [if_pos ⟨by omega, by rw [h34], by rw [h35]⟩]
      simp only [bneF (show (y.toNat : Int) = 34 by rw [h35]; rfl), cond_false]
      have hin : (s.take ((s.length - 1 : Nat) : Int).toNat).drop 1 = (s.take (s.length - 1)).drop 1 := by simp
      have hil : ((s.take (s.length - 1)).drop 1).length = s.length - 2 := by simp; omega
      refine .chk (decT ⟨by omega, by omega⟩) (.chk (decT ⟨by omega, by omega⟩) (.chk ?_ ?_))
      · rw [hin, hil]; simp; omega
      · have := unq_loop lb s ((s.take (s.length - 1)).drop 1) (by omega) (by rw [hw, hin]) _ _ [] [] (Nat.le_refl _) rfl (Nat.le_refl _)
        refine (Evt.diag this).mono fun n hn => Eq.trans hn ?_
        cases unqI ((s.take (s.length - 1)).drop 1) <;> simp
    · rw [if_neg (by rintro ⟨_, _, q⟩; exact h35 (by simpa using q))]
      have : y.toNat ≠ 34 := fun q => h35 (u8_ext q)
      simp only [bneT (show (y.toNat : Int) ≠ 34 by omega), cond_true]
      exact .done
  · rw [if_neg (by rintro ⟨_, q, _⟩; exact h34 (by simpa using q))]
    have : x.toNat ≠ 34 := fun q => h34 (u8_ext q)
    simp only [bneT (show (x.toNat : Int) ≠ 34 by omega), cond_true]
    exact .done
end Go.Proofs
