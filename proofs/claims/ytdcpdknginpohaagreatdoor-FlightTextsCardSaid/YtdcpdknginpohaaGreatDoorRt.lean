/- What the functions of package text and of its reference answer: quoted texts. Conditions: as each says. -/
import Derived.Test.YtdcpdknginpohaaGreatDoorG1
import Derived.Test.YtdcpdknginpohaaGreatDoorRk
set_option linter.unusedSimpArgs false
namespace Go.Proofs
open Go.Am
variable (lb : Nat)
theorem hex_at : ∀ n : Nat, n < 16 → atS [48, 49, 50, 51, 52, 53, 54, 55, 56, 57, 97, 98, 99, 100, 101, 102] (n : Int) = some (hexB n) := by decide +kernel
theorem fdiv16 (c : UInt8) : Int.fdiv (c.toNat : Int) (2 ^ 4) = ((c.toNat / 16 : Nat) : Int) := by
  revert c; refine u8_all ?_; decide +kernel
theorem and15 (c : UInt8) : IntKind.wrap .u8 ((BitVec.ofInt 8 (c.toNat : Int) &&& BitVec.ofInt 8 15).toNat) = ((c.toNat % 16 : Nat) : Int) := by
  revert c; refine u8_all ?_; decide +kernel
theorem tdiv16 (c : UInt8) : IntKind.wrap .u8 (Int.tdiv (c.toNat : Int) 16) = ((c.toNat / 16 : Nat) : Int) := by
  revert c; refine u8_all ?_; decide +kernel
theorem tmod16 (c : UInt8) : Int.tmod (c.toNat : Int) 16 = ((c.toNat % 16 : Nat) : Int) := by
  revert c; refine u8_all ?_; decide +kernel

theorem text_Quote_ret (s : Bs) (hs : s.length ≤ 1000000000) : Ret lb F_text_Quote [.str s] (.str (quo s)) := by
  refine .top rfl (.eq (fun n => by rw [text_Quote_eq]) ?_)
  rw [wrap64 (by omega) (by omega)]
  refine .chk (by simp; omega) ?_
  refine Evt.diag (m := s.length) (loopS (Nat.le_trans hs (by decide)) (P := fun p _ n k => text_Quote_L1 lb n k s (bcv (34 :: p.flatMap esc)) (p.length : Int) = some (.str (quo s))) ?_ ?_ s [] rfl)
  · refine .all fun n k => ?_
    have := flat_len s
    rw [text_Quote_L1_succ, decF (by omega), cond_false, text_Quote_J2_eq, room_ok (by rw [bcv_len, List.length_cons]; omega), chkO_t]
    rw [show bcv (34 :: s.flatMap esc) ++ [[CV.int .u8 34]] = bcv (quo s) from by simp [quo, bcv], bytesOf_bcv]
    rfl
  · intro p c t hp hlt hat hw hev
    refine hev.mono fun n hn k hk => ?_
    have hn := hn k hk
    rw [← hw] at hn
    have hl : s.length = p.length + (t.length + 1) := by rw [← hp]; simp
    have hf := flat_len p
    have hc : c.toNat < 256 := c.toNat_lt
    have hb : (bcv (34 :: p.flatMap esc)).length ≤ 4000000001 := by rw [bcv_len]; simp only [List.length_cons]; omega
    rw [text_Quote_L1_succ]
    simp only [hlt, decide_true, cond_true, hat, optO_s, fdiv16, and15, hex_at _ (show c.toNat / 16 < 16 by omega), hex_at _ (show c.toNat % 16 < 16 by omega)]
    have hst : ∀ e : Bs, esc c = e → bcv (34 :: p.flatMap esc) ++ bcv e = bcv (34 :: (p ++ [c]).flatMap esc) := by
      intro e he; simp [bcv, he]
    by_cases h1 : c.toNat = 34
    · rw [beqT (by omega), cond_true, room_ok (by omega), chkO_t, show [[CV.int .u8 92], [CV.int .u8 (c.toNat : Int)]] = bcv [92, c] from rfl, hst [92, c] (by simp [esc, h1])]
      exact hn
    rw [beqF (by omega), cond_false]
    by_cases h2 : c.toNat = 92
    · rw [beqT (by omega), cond_true, room_ok (by omega), chkO_t, show [[CV.int .u8 92], [CV.int .u8 (c.toNat : Int)]] = bcv [92, c] from rfl, hst [92, c] (by simp [esc, h2])]
      exact hn
    rw [beqF (by omega), cond_false]
    have r4 : room ((bcv (34 :: p.flatMap esc)).length + 4) 1 = true := room_ok (by omega)
    have r1 : room ((bcv (34 :: p.flatMap esc)).length + 1) 1 = true := room_ok (by omega)
    by_cases h3 : c.toNat < 32
    · rw [decT (by omega), cond_true, r4, chkO_t, show [[CV.int .u8 92], [CV.int .u8 120], [CV.int .u8 ((hexB (c.toNat / 16)).toNat : Int)], [CV.int .u8 ((hexB (c.toNat % 16)).toNat : Int)]] = bcv [92, 120, hexB (c.toNat / 16), hexB (c.toNat % 16)] from rfl,
        hst _ (by simp [esc, h1, h2, h3])]
      exact hn
    rw [decF (by omega), cond_false]
    by_cases h4 : 126 < c.toNat
    · rw [decT (by omega), cond_true, r4, chkO_t, show [[CV.int .u8 92], [CV.int .u8 120], [CV.int .u8 ((hexB (c.toNat / 16)).toNat : Int)], [CV.int .u8 ((hexB (c.toNat % 16)).toNat : Int)]] = bcv [92, 120, hexB (c.toNat / 16), hexB (c.toNat % 16)] from rfl,
        hst _ (by simp [esc, h1, h2, h4])]
      exact hn
    rw [decF (by omega), cond_false, r1, chkO_t, show [[CV.int .u8 (c.toNat : Int)]] = bcv [c] from rfl, hst _ (by simp [esc, h1, h2, h3, h4])]
    exact hn
theorem r01_Quote_ret (s : Bs) (hs : s.length ≤ 1000000000) : Ret lb F_r01_Quote [.str s] (.str (quo s)) := by
  refine .top rfl (.eq (fun n => by rw [r01_Quote_eq]) ?_)
  refine Evt.diag (m := s.length) (loopS (Nat.le_trans hs (by decide)) (P := fun p _ n k => r01_Quote_L1 lb n k s (bcv (34 :: p.flatMap esc)) (p.length : Int) = some (.str (quo s))) ?_ ?_ s [] rfl)
  · refine .all fun n k => ?_
    have := flat_len s
    rw [r01_Quote_L1_succ, decF (by omega), cond_false, r01_Quote_J2_eq, room_ok (by rw [bcv_len, List.length_cons]; omega), chkO_t]
    rw [show bcv (34 :: s.flatMap esc) ++ [[CV.int .u8 34]] = bcv (quo s) from by simp [quo, bcv], bytesOf_bcv]
    rfl
  · intro p c t hp hlt hat hw hev
    refine hev.mono fun n hn k hk => ?_
    have hn := hn k hk
    rw [← hw] at hn
    have hl : s.length = p.length + (t.length + 1) := by rw [← hp]; simp
    have hf := flat_len p
    have hc : c.toNat < 256 := c.toNat_lt
    have hb : (bcv (34 :: p.flatMap esc)).length ≤ 4000000001 := by rw [bcv_len]; simp only [List.length_cons]; omega
    rw [r01_Quote_L1_succ]
    simp only [hlt, decide_true, cond_true, hat, optO_s, tdiv16, tmod16, hex_at _ (show c.toNat / 16 < 16 by omega), hex_at _ (show c.toNat % 16 < 16 by omega)]
    have hst : ∀ e : Bs, esc c = e → bcv (34 :: p.flatMap esc) ++ bcv e = bcv (34 :: (p ++ [c]).flatMap esc) := by
      intro e he; simp [bcv, he]
    have r4 : room ((bcv (34 :: p.flatMap esc)).length + 4) 1 = true := room_ok (by omega)
    have r1 : room ((bcv (34 :: p.flatMap esc)).length + 1) 1 = true := room_ok (by omega)
    have r2 : room ((bcv (34 :: p.flatMap esc) ++ [[CV.int .u8 92]]).length + 1) 1 = true := room_ok (by rw [List.length_append]; simp only [List.length_cons, List.length_nil]; omega)
    by_cases h3 : c.toNat < 32
    · rw [decT (by omega), cond_true, r4, chkO_t, show [[CV.int .u8 92], [CV.int .u8 120], [CV.int .u8 ((hexB (c.toNat / 16)).toNat : Int)], [CV.int .u8 ((hexB (c.toNat % 16)).toNat : Int)]] = bcv [92, 120, hexB (c.toNat / 16), hexB (c.toNat % 16)] from rfl,
        hst _ (by simp [esc, h3]; omega)]
      exact hn
    rw [decF (by omega), cond_false]
    by_cases h4 : 126 < c.toNat
    · rw [decT (by omega), cond_true, r4, chkO_t, show [[CV.int .u8 92], [CV.int .u8 120], [CV.int .u8 ((hexB (c.toNat / 16)).toNat : Int)], [CV.int .u8 ((hexB (c.toNat % 16)).toNat : Int)]] = bcv [92, 120, hexB (c.toNat / 16), hexB (c.toNat % 16)] from rfl,
        hst _ (by simp [esc, h4]; omega)]
      exact hn
    rw [decF (by omega), cond_false]
    by_cases h1 : c.toNat = 34
    · rw [beqT (by omega), cond_true, r1, chkO_t, r2, chkO_t, List.append_assoc, show [[CV.int .u8 92]] ++ [[CV.int .u8 (c.toNat : Int)]] = bcv [92, c] from rfl, hst [92, c] (by simp [esc, h1])]
      exact hn
    rw [beqF (by omega), cond_false]
    by_cases h2 : c.toNat = 92
    · rw [beqT (by omega), cond_true, r1, chkO_t, r2, chkO_t, List.append_assoc, show [[CV.int .u8 92]] ++ [[CV.int .u8 (c.toNat : Int)]] = bcv [92, c] from rfl, hst [92, c] (by simp [esc, h2])]
      exact hn
    rw [beqF (by omega), cond_false, r1, chkO_t, show [[CV.int .u8 (c.toNat : Int)]] = bcv [c] from rfl, hst _ (by simp [esc, h1, h2, h3, h4])]
    exact hn
end Go.Proofs
