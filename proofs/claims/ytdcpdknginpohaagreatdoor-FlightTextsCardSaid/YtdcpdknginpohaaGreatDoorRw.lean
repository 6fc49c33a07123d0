/- What the functions of package text and of its reference answer: lines. Conditions: as each says. -/
import Derived.Test.YtdcpdknginpohaaGreatDoorRc
import Derived.Test.YtdcpdknginpohaaGreatDoorRv
import Derived.Laws.RangeAny
import Derived.Laws.RangeString
set_option linter.unusedSimpArgs false
namespace Go.Proofs
open Go.Am
variable (lb : Nat)
def sumLen (l : List Bs) : Nat := (l.map List.length).sum
theorem sumLen_cons (w : Bs) (l : List Bs) : sumLen (w :: l) = w.length + sumLen l := by simp [sumLen]
theorem sumLen_app (a b : List Bs) : sumLen (a ++ b) = sumLen a + sumLen b := by simp [sumLen]
theorem mem_sumLen {w : Bs} : ∀ {l : List Bs}, w ∈ l → w.length ≤ sumLen l
  | [], h => by cases h
  | x :: l, h => by
    rw [sumLen_cons]
    rcases List.mem_cons.1 h with rfl | h
    · omega
    · have := mem_sumLen h; omega
theorem joinB_len : ∀ l : List Bs, (joinB l).length ≤ 4 * sumLen l + 3 * l.length
  | [] => by simp [joinB]
  | [w] => by
    have := wordB_len w
    simp only [joinB, sumLen_cons, List.length_cons, List.length_nil]; omega
  | w :: x :: r => by
    have := wordB_len w
    have := joinB_len (x :: r)
    rw [joinB_cons w (by simp), sumLen_cons]
    simp only [List.length_append, List.length_cons] at this ⊢; omega

/-! splitting a line -/
def cutR (ps : List Bs) (o : Option (List Bs)) : CV := match o with
  | some l => .tup [.list false (scv (ps ++ l)), .bool true]
  | none => .tup [.list true [], .bool false]
theorem dec_byte (s : Bs) {i : Nat} {c : UInt8} (h : s[i]? = some c) : (c.toNat < 128 → Utf8.decode ⟨s.toArray⟩ i = (c.toNat, 1)) ∧ (128 ≤ c.toNat → 126 < (Utf8.decode ⟨s.toArray⟩ i).1) := by
  obtain ⟨hl, hc⟩ := List.getElem?_eq_some_iff.1 h
  have hsz : i < (⟨s.toArray⟩ : ByteArray).size := by simpa [ByteArray.size] using hl
  have hg : ((⟨s.toArray⟩ : ByteArray)[i]'hsz) = c := hc
  refine ⟨fun q => ?_, fun q => ?_⟩
  · rw [decode_ascii _ _ hsz (by rw [hg]; exact q), hg]
  · have := (decode_high ⟨s.toArray⟩ i hsz (by rw [hg]; exact q)).1
    omega
theorem cut_loop (s : Bs) (hs : s.length ≤ 1000000000) : ∀ (t A cur : Bs) (ps : List Bs) (bn q e : Bool), A ++ cur ++ t = s → ps.length ≤ A.length →
    Evt fun n => ∀ k, t.length < k → text_cut_L1 lb n k s bn (scv ps) (A.length : Int) q e (A ++ cur).length = some (cutR ps (cutB t cur q e))
  | [], A, cur, ps, bn, q, e, h, hp => .all fun n k hk => by
    obtain ⟨k, rfl⟩ : ∃ m, k = m + 1 := ⟨k - 1, by simp at hk; omega⟩
    have hsA : A ++ cur = s := by simpa using h
    have hl : s.length = A.length + cur.length := by rw [← hsA, List.length_append]
    rw [text_cut_L1_succ, decF (by rw [hsA]; omega), cond_false, text_cut_J2_eq, decT ⟨by omega, by omega⟩, chkO_t, room_ok (by rw [scv_len]; omega), chkO_t]
    have e1 : (s.take ((s.length : Int)).toNat).drop ((A.length : Int)).toNat = cur := by
      rw [Int.toNat_natCast, Int.toNat_natCast, List.take_length, ← hsA, List.drop_left]
    rw [e1, Bool.and_false]
    simp [cutR, cutB, scv]
  | c :: t, A, cur, ps, bn, q, e, h, hp => by
    have hl : s.length = A.length + cur.length + (t.length + 1) := by rw [← h]; simp only [List.length_append, List.length_cons]
    have hat : s[(A ++ cur).length]? = some c := by rw [← h]; simp
    have hlt : (A ++ cur).length < s.length := by rw [List.length_append]; omega
    obtain ⟨d1, d2⟩ := dec_byte s hat
    have hnext : (A ++ (cur ++ [c])) ++ t = s := by rw [← h]; simp
    by_cases hbad : c.toNat < 32 ∨ 126 < c.toNat
    · refine .all fun n k hk => ?_
      obtain ⟨k, rfl⟩ : ∃ m, k = m + 1 := ⟨k - 1, by simp at hk; omega⟩
      rw [text_cut_L1_succ, decT hlt, cond_true, cutB, if_pos hbad]
      by_cases h1 : c.toNat < 128
      · rw [d1 h1]
        rcases hbad with h2 | h2
        · rw [decT (show ((c.toNat : Nat) : Int) < 32 by omega), cond_true]; rfl
        · rw [decF (show ¬ ((c.toNat : Nat) : Int) < 32 by omega), cond_false, decT (show ((c.toNat : Nat) : Int) > 126 by omega), cond_true]; rfl
      · have h3 := d2 (by omega)
        rw [decF (show ¬ (((Utf8.decode ⟨s.toArray⟩ (A ++ cur).length).1 : Nat) : Int) < 32 by omega), cond_false, decT (show (((Utf8.decode ⟨s.toArray⟩ (A ++ cur).length).1 : Nat) : Int) > 126 by omega), cond_true]; rfl
    have hd := d1 (by omega)
    have hpos : (A ++ cur).length + 1 = (A ++ (cur ++ [c])).length := by simp; omega
    have hg : ∀ {x y : Option CV}, (bif decide (((c.toNat : Nat) : Int) < 32) then x else bif decide (((c.toNat : Nat) : Int) > 126) then x else y) = y := by
      intro x y
      rw [decF (by omega), cond_false, decF (by omega), cond_false]
    have step : ∀ q' e', cutB (c :: t) cur q e = cutB t (cur ++ [c]) q' e' →
        (∀ n k, text_cut_L1 lb n (k + 1) s bn (scv ps) (A.length : Int) q e (A ++ cur).length = text_cut_L1 lb n k s bn (scv ps) (A.length : Int) q' e' ((A ++ cur).length + 1)) →
        Evt fun n => ∀ k, (c :: t).length < k → text_cut_L1 lb n k s bn (scv ps) (A.length : Int) q e (A ++ cur).length = some (cutR ps (cutB (c :: t) cur q e)) := by
      intro q' e' h1 h2
      refine (cut_loop s hs t A (cur ++ [c]) ps bn q' e' hnext hp).mono fun n hn k hk => ?_
      obtain ⟨k, rfl⟩ : ∃ m, k = m + 1 := ⟨k - 1, by simp at hk; omega⟩
      rw [h2, h1, hpos]
      exact hn k (by simp at hk; omega)
    cases e with
    | true =>
      refine step q false (by rw [cutB, if_neg hbad, if_pos rfl]) fun n k => ?_
      rw [text_cut_L1_succ, decT hlt, cond_true, hd, hg, cond_true]
    | false =>
      by_cases h92 : q = true ∧ c.toNat = 92
      · obtain ⟨rfl, h92⟩ := h92
        refine step true true (by rw [cutB, if_neg hbad, if_neg (by decide), if_pos ⟨rfl, h92⟩]) fun n k => ?_
        rw [text_cut_L1_succ, decT hlt, cond_true, hd, hg, cond_false, cond_true, beqT (show ((c.toNat : Nat) : Int) = 92 by omega), cond_true]
      by_cases h34 : c.toNat = 34
      · refine step (!q) false (by rw [cutB, if_neg hbad, if_neg (by decide), if_neg h92, if_pos h34]) fun n k => ?_
        rw [text_cut_L1_succ, decT hlt, cond_true, hd, hg, cond_false, beqF (show ((c.toNat : Nat) : Int) ≠ 92 by omega), beqT (show ((c.toNat : Nat) : Int) = 34 by omega)]
        cases q <;> rfl
      by_cases h32 : c.toNat = 32 ∧ (!q) = true
      · obtain ⟨h32, hq⟩ := h32
        have hq : q = false := by simpa using hq
        subst hq
        refine (cut_loop s hs t (A ++ (cur ++ [c])) [] (ps ++ [cur]) false false false (by rw [List.append_nil]; exact hnext) (by simp; omega)).mono fun n hn k hk => ?_
        obtain ⟨k, rfl⟩ : ∃ m, k = m + 1 := ⟨k - 1, by simp at hk; omega⟩
        have hn := hn k (by simp at hk; omega)
        rw [text_cut_L1_succ, decT hlt, cond_true, hd, hg, cond_false, cond_false, beqF (show ((c.toNat : Nat) : Int) ≠ 34 by omega), cond_false, beqT (show ((c.toNat : Nat) : Int) = 32 by omega), cond_true, Bool.not_false, cond_true,
          decT ⟨by omega, by omega⟩, chkO_t, decT ⟨by omega, by rw [List.length_append]; omega⟩, chkO_t, room_ok (by rw [scv_len]; omega), chkO_t, wrap64 (by omega) (by omega)]
        have e1 : (s.take (((A ++ cur).length : Int)).toNat).drop ((A.length : Int)).toNat = cur := by
          rw [Int.toNat_natCast, Int.toNat_natCast, ← h, List.take_left, List.drop_left]
        rw [e1, Bool.and_false, hpos, show (((A ++ cur).length : Int) + 1) = ((A ++ (cur ++ [c])).length : Int) by rw [← hpos]; omega, show scv ps ++ [[CV.str cur]] = scv (ps ++ [cur]) by simp [scv]]
        rw [List.append_nil] at hn
        rw [hn, cutB, if_neg hbad, if_neg (by decide), if_neg (by simp), if_neg h34, if_pos ⟨h32, rfl⟩]
        cases cutB t [] false false <;> simp [cutR]
      · refine step q false (by rw [cutB, if_neg hbad, if_neg (by decide), if_neg h92, if_neg h34, if_neg h32]) fun n k => ?_
        rw [text_cut_L1_succ, decT hlt, cond_true, hd, hg, cond_false]
        cases q with
        | true =>
          have h92' : c.toNat ≠ 92 := fun x => h92 ⟨rfl, x⟩
          rw [cond_true, beqF (show ((c.toNat : Nat) : Int) ≠ 92 by omega), cond_false, beqF (show ((c.toNat : Nat) : Int) ≠ 34 by omega), cond_false, Bool.not_true]
          cases ((c.toNat : Nat) : Int) == 32 <;> rfl
        | false =>
          have h32' : c.toNat ≠ 32 := fun x => h32 ⟨x, rfl⟩
          rw [cond_false, beqF (show ((c.toNat : Nat) : Int) ≠ 34 by omega), cond_false, beqF (show ((c.toNat : Nat) : Int) ≠ 32 by omega), cond_false]
theorem text_cut_ret (s : Bs) (hs : s.length ≤ 1000000000) : Ret lb F_text_cut [.str s] (cutR [] (cutB s [] false false)) := by
  refine .top rfl (.eq (fun n => by rw [text_cut_eq]) ?_)
  exact Evt.diag (cut_loop lb s hs s [] [] [] true false false rfl (Nat.le_refl _))
/-- the words of a line, or the error -/
def wordsV (bn : Bool) (o : Option (List Bs)) : CV := match o with
  | some l => .tup [.list bn (scv l), .int .i64 0]
  | none => .tup [.list true [], .int .i64 3]
theorem twords_loop (s : Bs) (x4 x6 r2 : CV) (p9 : Bool × List (List CV)) (ps : List Bs) (b4 b10 : Bool) (hx : x4 = .list b4 (scv ps)) (hsum : ∀ p ∈ ps, p.length ≤ 1000000000) (hps : ps.length ≤ 1000000000) :
    ∀ t p, p ++ t = ps → ∀ out : List Bs, out.length ≤ p.length → Evt fun n => ∀ k, t.length < k → text_Words_L1 lb n k s x4 x6 r2 p9 (b10, scv ps) (scv out) (p.length : Int) = some (wordsV false ((t.mapM readW).map (out ++ ·)))
  | [], p, h, out, ho => .all fun n k hk => by
    obtain ⟨k, rfl⟩ : ∃ m, k = m + 1 := ⟨k - 1, by simp at hk; omega⟩
    have : p = ps := by simpa using h
    rw [text_Words_L1_succ, decF (by rw [this, scv_len]; omega), cond_false, text_Words_J2_eq]
    simp [wordsV]
  | w :: t, p, h, out, ho => by
    have hl : ps.length = p.length + (t.length + 1) := by rw [← h]; simp
    have hat : atL (scv ps) (p.length : Int) = some [.str w] := atL_ok (scv_get (by rw [← h]; simp))
    have hw : w.length ≤ 1000000000 := hsum w (by rw [← h]; simp)
    have hnext : (p ++ [w]) ++ t = ps := by rw [← h]; simp
    have hlt : (p.length : Int) < ((scv ps).length : Int) := by rw [scv_len]; omega
    have hwr : IntKind.wrap .i64 ((p.length : Int) + 1) = ((p ++ [w]).length : Int) := by rw [wrap64 (by omega) (by omega)]; simp
    have r1 : room ((scv out).length + 1) 16 = true := room_ok (by rw [scv_len]; omega)
    rw [List.mapM_cons]
    cases hpl : plainB w with
    | true =>
      refine (twords_loop s x4 x6 r2 p9 ps b4 b10 hx hsum hps t (p ++ [w]) hnext (out ++ [w]) (by simp; omega)).imp2 (text_plain_ret lb w (Nat.le_trans hw (by decide))) fun n hn h1 k hk => ?_
      obtain ⟨k, rfl⟩ : ∃ m, k = m + 1 := ⟨k - 1, by simp at hk; omega⟩
      have hn := hn k (by simp at hk; omega)
      rw [text_Words_L1_succ]
      simp only [decT hlt, cond_true, hx, asL_l, optO_s, hat, List.length_cons, List.length_nil, Nat.zero_add, beq_self_eq_true, chkO_t, get0, h1, asB_b, hpl, Bool.not_true, cond_false, isCell_str, r1, hwr]
      rw [← hx, show scv out ++ [[CV.str w]] = scv (out ++ [w]) by simp [scv], hn]
      simp only [readW, hpl, if_true]
      cases t.mapM readW <;> simp
    | false =>
      have hr : readW w = match unq w with
          | some t => if plainB t then none else some t
          | none => none := by unfold readW; rw [hpl]; rfl
      cases hu : unq w with
      | none =>
        refine (text_Unquote_ret lb w hw).imp2 (text_plain_ret lb w (Nat.le_trans hw (by decide))) fun n h2 h1 k hk => ?_
        obtain ⟨k, rfl⟩ : ∃ m, k = m + 1 := ⟨k - 1, by simp at hk; omega⟩
        rw [text_Words_L1_succ]
        simp only [decT hlt, cond_true, hx, asL_l, optO_s, hat, List.length_cons, List.length_nil, Nat.zero_add, beq_self_eq_true, chkO_t, get0, get1, h1, h2, hu, unqR, asT_t, asI_i, asB_b, hpl, Bool.not_false]
        rw [hr, hu]
        rfl
      | some v =>
        have hv : v.length ≤ 1000000000 := by have := quo_len v; rw [← unq_some hu] at this; omega
        cases hpv : plainB v with
        | true =>
          refine ((text_Unquote_ret lb w hw).and (text_plain_ret lb v (Nat.le_trans hv (by decide)))).imp2 (text_plain_ret lb w (Nat.le_trans hw (by decide))) fun n ⟨h2, h3⟩ h1 k hk => ?_
          obtain ⟨k, rfl⟩ : ∃ m, k = m + 1 := ⟨k - 1, by simp at hk; omega⟩
          rw [text_Words_L1_succ]
          simp only [decT hlt, cond_true, hx, asL_l, optO_s, hat, List.length_cons, List.length_nil, Nat.zero_add, beq_self_eq_true, chkO_t, get0, get1, h1, h2, h3, hu, hpv, unqR, asT_t, asI_i, asB_b, hpl, Bool.not_false, bne_self_eq_false, cond_false]
          rw [hr, hu]
          simp [hpv, wordsV]
        | false =>
          refine ((twords_loop s x4 x6 r2 p9 ps b4 b10 hx hsum hps t (p ++ [w]) hnext (out ++ [v]) (by simp; omega)).and (text_Unquote_ret lb w hw)).imp2 ((text_plain_ret lb w (Nat.le_trans hw (by decide))).and (text_plain_ret lb v (Nat.le_trans hv (by decide)))) fun n ⟨hn, h2⟩ ⟨h1, h3⟩ k hk => ?_
          obtain ⟨k, rfl⟩ : ∃ m, k = m + 1 := ⟨k - 1, by simp at hk; omega⟩
          have hn := hn k (by simp at hk; omega)
          rw [text_Words_L1_succ]
          simp only [decT hlt, cond_true, hx, asL_l, optO_s, hat, List.length_cons, List.length_nil, Nat.zero_add, beq_self_eq_true, chkO_t, get0, get1, h1, h2, h3, hu, hpv, unqR, asT_t, asI_i, asB_b, hpl, Bool.not_false, bne_self_eq_false, cond_false, isCell_str, r1, hwr]
          rw [← hx, show scv out ++ [[CV.str v]] = scv (out ++ [v]) by simp [scv], hn, hr, hu]
          simp only [hpv]
          cases t.mapM readW <;> simp
theorem join_sum : ∀ ps : List Bs, sumLen ps ≤ (Lib.join ps [32]).length ∧ ps.length ≤ (Lib.join ps [32]).length + 1
  | [] => by simp [sumLen, Lib.join]
  | [w] => by simp [sumLen, Lib.join]
  | w :: x :: r => by
    have := join_sum (x :: r)
    have e : Lib.join (w :: x :: r) [32] = w ++ 32 :: Lib.join (x :: r) [32] := by simp [Lib.join, List.intercalate]
    rw [e, sumLen_cons]
    simp only [List.length_append, List.length_cons] at this ⊢
    omega
theorem text_Words_ret (s : Bs) (hs : s.length ≤ 100000000) : Ret lb F_text_Words [.str s] (wordsV s.isEmpty (wordsB s)) := by
  refine .top rfl (.eq (fun n => by rw [text_Words_eq]) ?_)
  by_cases h0 : s = []
  · subst h0; exact .done
  rw [show s.isEmpty = false by simpa using h0]
  simp only [show (s == []) = false by simpa using h0, cond_false]
  refine .call (text_cut_ret lb s (by omega)) ?_
  unfold wordsB
  rw [if_neg h0]
  cases hc : cutB s [] false false with
  | none =>
    simp only [cutR, asT_t, get0, get1, optO_s, asB_b, Bool.not_false, cond_true]
    exact .of rfl
  | some ps =>
    simp only [cutR, List.nil_append, asT_t, get0, get1, optO_s, asB_b, Bool.not_true, cond_false, asL_l, scv_len]
    obtain ⟨h1, h2⟩ := cutB_some hc
    have h3 := join_sum ps
    rw [h2] at h3
    simp only [List.nil_append] at h3
    refine .chk ?_ ?_
    · simp; omega
    · refine (Evt.diag (twords_loop lb s (.list false (scv ps)) _ _ _ ps false false rfl (fun p hp => by have := mem_sumLen hp; omega) (by omega) ps [] rfl [] (Nat.le_refl _))).mono fun n hn => Eq.trans hn ?_
      rw [Option.bind_some]
      cases ps.mapM readW <;> simp

/-! writing a line -/
theorem tjoin_loop (an : Bool) (l : List Bs) (hl : l.length ≤ 1000000000) (hm : ∀ w ∈ l, w.length ≤ 1000000000) :
    ∀ t p, p ++ t = l → Evt fun n => ∀ k, t.length < k → text_Join_L1 lb n k an (scv l) (scv (p.map wordB)) (p.length : Int) = text_Join_J2 lb n an (scv l) false (scv (l.map wordB))
  | [], p, h => .all fun n k hk => by
    obtain ⟨k, rfl⟩ : ∃ m, k = m + 1 := ⟨k - 1, by simp at hk; omega⟩
    have : p = l := by simpa using h
    rw [text_Join_L1_succ, decF (by rw [this, scv_len]; omega), cond_false, this]
  | w :: t, p, h => by
    have hll : l.length = p.length + (t.length + 1) := by rw [← h]; simp
    have hat : atL (scv l) (p.length : Int) = some [.str w] := atL_ok (scv_get (by rw [← h]; simp))
    have hw := hm w (by rw [← h]; simp)
    refine (tjoin_loop an l hl hm t (p ++ [w]) (by rw [← h]; simp)).imp2 ((text_plain_ret lb w (Nat.le_trans hw (by decide))).and (text_Quote_ret lb w hw)) fun n hn ⟨h1, h2⟩ k hk => ?_
    obtain ⟨k, rfl⟩ : ∃ m, k = m + 1 := ⟨k - 1, by simp at hk; omega⟩
    have hn := hn k (by simp at hk; omega)
    have r1 : room ((scv (p.map wordB)).length + 1) 16 = true := room_ok (by rw [scv_len, List.length_map]; omega)
    rw [text_Join_L1_succ]
    simp only [decT (show (p.length : Int) < ((scv l).length : Int) by rw [scv_len]; omega), cond_true, hat, optO_s, List.length_cons, List.length_nil, Nat.zero_add, beq_self_eq_true, chkO_t, get0, h1, h2, asB_b, isCell_str, r1,
      wrap64 (x := (p.length : Int) + 1) (by omega) (by omega)]
    rw [show (p.length : Int) + 1 = ((p ++ [w]).length : Int) by simp]
    rw [← hn]
    cases hp : plainB w
    · simp [wordB, hp, scv]
    · simp [wordB, hp, scv]
theorem text_Join_ret (an : Bool) (l : List Bs) (hl : l.length ≤ 100000000) (hm : sumLen l ≤ 100000000) : Ret lb F_text_Join [.list an (scv l)] (.str (joinB l)) := by
  refine .top rfl (.eq (fun n => by rw [text_Join_eq]) ?_)
  refine .chk (by simp [scv_len]; omega) ?_
  refine (Evt.diag (m := l.length) (P := fun n k => text_Join_L1 lb n k an (scv l) [] 0 = text_Join_J2 lb n an (scv l) false (scv (l.map wordB))) (tjoin_loop lb an l (by omega) (fun w hw => by have := mem_sumLen hw; omega) l [] rfl)).imp2 (Q := fun n => C lb n F_strings_Join [.list false (scv (l.map wordB)), .str [32]] = some (.str (joinB l))) ?_ fun n hn hj => ?_
  · have hb := joinB_len l
    refine Ret.lib rfl ?_
    unfold lib_Join
    simp only [strsOf_scv]
    rw [if_pos ⟨by rw [List.length_map]; omega, by rw [← joinB_eq]; omega⟩, ← joinB_eq]
  · rw [hn, text_Join_J2_eq, hj]
    rfl
theorem rjoin_loop (an : Bool) (l : List Bs) (hl : l.length ≤ 100000000) (hm : sumLen l ≤ 100000000) :
    ∀ t p, p ++ t = l → ∀ (bn : Bool) (acc : Bs), acc.length ≤ 4 * sumLen p + 3 * p.length → Evt fun n => ∀ k, t.length < k →
      r01_Join_L1 lb n k an (scv l) bn (bcv acc) (p.length : Int) = some (.str (acc ++ (if p = [] ∨ t = [] then joinB t else 32 :: joinB t)))
  | [], p, h, bn, acc, ha => .all fun n k hk => by
    obtain ⟨k, rfl⟩ : ∃ m, k = m + 1 := ⟨k - 1, by simp at hk; omega⟩
    have : p = l := by simpa using h
    rw [r01_Join_L1_succ, decF (by rw [this, scv_len]; omega), cond_false, r01_Join_J3_eq, bytesOf_bcv]
    simp [optO_s, joinB]
  | w :: t, p, h, bn, acc, ha => by
    have hll : l.length = p.length + (t.length + 1) := by rw [← h]; simp
    have hsum : sumLen l = sumLen p + (w.length + sumLen t) := by rw [← h, sumLen_app, sumLen_cons]
    have hat : atL (scv l) (p.length : Int) = some [.str w] := atL_ok (scv_get (by rw [← h]; simp))
    have hwl := wordB_len w
    let acc1 : Bs := if p = [] then acc else acc ++ [32]
    have hacc1 : acc1.length ≤ acc.length + 1 := by simp only [acc1]; split <;> simp
    have hne : ¬ (p ++ [w] = [] ∨ t = []) ↔ t ≠ [] := by simp
    have fin : acc1 ++ wordB w ++ (if p ++ [w] = [] ∨ t = [] then joinB t else 32 :: joinB t) = acc ++ (if p = [] ∨ w :: t = [] then joinB (w :: t) else 32 :: joinB (w :: t)) := by
      simp only [acc1]
      cases t with
      | nil =>
        by_cases hp : p = []
        · simp [hp, joinB]
        · simp [hp, joinB]
      | cons x t =>
        rw [joinB_cons w (by simp)]
        by_cases hp : p = []
        · simp [hp]
        · simp [hp]
    rw [← fin]
    let bn1 : Bool := if p = [] then bn else bn && false
    let bn2 : Bool := bn1 && (bcv (wordB w)).isEmpty
    refine (rjoin_loop an l hl hm t (p ++ [w]) (by rw [← h]; simp) bn2 (acc1 ++ wordB w) (by rw [sumLen_app, sumLen_cons]; simp [sumLen]; simp [sumLen] at ha; omega)).imp2 ((r01_plain_ret lb w (by omega)).and (r01_Quote_ret lb w (by omega))) fun n hn ⟨h1, h2⟩ k hk => ?_
    obtain ⟨k, rfl⟩ : ∃ m, k = m + 1 := ⟨k - 1, by simp at hk; omega⟩
    have hn := hn k (by simp at hk; omega)
    have step : r01_Join_J2 lb n k an (scv l) (p.length : Int) bn1 (bcv acc1) = r01_Join_L1 lb n k an (scv l) bn2 (bcv (acc1 ++ wordB w)) ((p ++ [w]).length : Int) := by
      have hbq : ∀ s : Bs, (s.map fun c => [CV.int .u8 c.toNat]) = bcv s := fun _ => rfl
      rw [r01_Join_J2_eq]
      simp only [hat, optO_s, List.length_cons, List.length_nil, Nat.zero_add, beq_self_eq_true, chkO_t, get0, h1, h2, asB_b, asS_s, hbq, all_one_bcv, wrap64 (x := (p.length : Int) + 1) (by omega) (by omega)]
      rw [show (p.length : Int) + 1 = ((p ++ [w]).length : Int) by simp]
      have hql := quo_len w
      cases hp : plainB w with
      | false =>
        rw [Bool.not_false, cond_true, room_ok (by rw [bcv_len, bcv_len]; omega), chkO_t, ← bcv_app]
        simp only [bn2, wordB, hp, Bool.false_eq_true, if_false]
      | true =>
        rw [Bool.not_true, cond_false, room_ok (by rw [bcv_len, bcv_len]; omega), chkO_t, ← bcv_app]
        simp only [bn2, wordB, hp, if_true]
    rw [r01_Join_L1_succ, decT (by rw [scv_len]; omega), cond_true]
    by_cases hp : p = []
    · have e1 : acc1 = acc := by simp [acc1, hp]
      have e2 : bn1 = bn := by simp [bn1, hp]
      rw [decF (by rw [hp]; simp), cond_false]
      rw [e1, e2] at step
      rw [step, ← hn, e1]
    · have e1 : acc1 = acc ++ [32] := by simp [acc1, hp]
      have e2 : bn1 = (bn && false) := by simp [bn1, hp]
      have hpl : 0 < p.length := List.length_pos_iff.2 hp
      rw [decT (by omega), cond_true, room_ok (by rw [bcv_len]; omega), chkO_t, show bcv acc ++ [[CV.int .u8 32]] = bcv (acc ++ [32]) by simp [bcv]]
      rw [e1, e2] at step
      rw [step, ← hn, e1]
theorem r01_Join_ret (an : Bool) (l : List Bs) (hl : l.length ≤ 100000000) (hm : sumLen l ≤ 100000000) : Ret lb F_r01_Join [.list an (scv l)] (.str (joinB l)) := by
  refine .top rfl (.eq (fun n => by rw [r01_Join_eq]) ?_)
  refine (Evt.diag (rjoin_loop lb an l hl hm l [] rfl true [] (Nat.zero_le _))).mono fun n hn => Eq.trans hn ?_
  simp
end Go.Proofs
