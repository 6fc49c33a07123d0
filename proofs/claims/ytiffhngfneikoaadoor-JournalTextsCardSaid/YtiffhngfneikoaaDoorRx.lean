/- What the functions of package text and of its reference answer: names; splitting at a byte. Conditions: as each says. -/
import Derived.Test.YtiffhngfneikoaaDoorRc
import Derived.Lib.SplitLaws
set_option linter.unusedSimpArgs false
namespace Go.Proofs
open Go.Am
variable (lb : Bool)
/-- a text, split at a byte -/
def splitC (c : UInt8) : Bs → List Bs
  | [] => [[]]
  | x :: r => if x = c then [] :: splitC c r else match splitC c r with
    | w :: ws => (x :: w) :: ws
    | [] => [[x]]
theorem splitC_ne (c : UInt8) : ∀ s, splitC c s ≠ []
  | [] => by simp [splitC]
  | x :: r => by
    unfold splitC
    split
    · simp
    · split <;> simp
theorem index_cons_eq (c : UInt8) (l : Bs) : Lib.index (c :: l) [c] = 0 := by
  rw [Lib.index]
  simp
theorem index_cons_ne {b c : UInt8} (l : Bs) (h : b ≠ c) : Lib.index (b :: l) [c] = if Lib.index l [c] = -1 then -1 else Lib.index l [c] + 1 := by
  rw [Lib.index]
  have : ¬ c = b := fun q => h q.symm
  simp [this]
theorem count_index {c : UInt8} {l : Bs} (h : Lib.count l [c] ≠ 0) : Lib.index l [c] ≠ -1 := by
  intro q
  apply h
  unfold Lib.count
  rw [Lib.countFrom]
  simp [q]
theorem splitK_hit {c : UInt8} {k : Nat} {l : Bs} (h : Lib.index l [c] ≠ -1) : Lib.splitK [c] 0 (k + 1) l = l.take (Lib.index l [c]).toNat :: Lib.splitK [c] 0 k (l.drop ((Lib.index l [c]).toNat + 1)) := by
  rw [Lib.splitK]
  have : (Lib.index l [c] == -1) = false := by simpa using h
  simp [this]
theorem split_one (c : UInt8) : ∀ s : Bs, Lib.split s [c] = splitC c s
  | [] => by simp [Lib.split, Lib.count, Lib.countFrom, Lib.index, splitC, Lib.splitK]
  | x :: l => by
    have ih := split_one c l
    unfold Lib.split at ih ⊢
    by_cases h : x = c
    · subst h
      rw [Lib.count_cons_eq, Nat.add_comm 1, splitK_hit (by rw [index_cons_eq]; decide), index_cons_eq]
      simp only [splitC, if_true]
      simpa using ih
    · rw [Lib.count_cons_ne x c l h]
      cases hk : Lib.count l [c] with
      | zero =>
        rw [hk] at ih
        simp only [Lib.splitK] at ih ⊢
        simp [splitC, h, ← ih]
      | succ k =>
        have hi := count_index (c := c) (l := l) (by omega)
        have hge := Lib.index_ge l [c]
        rw [hk, splitK_hit hi] at ih
        have hx : Lib.index (x :: l) [c] = Lib.index l [c] + 1 := by rw [index_cons_ne l h, if_neg hi]
        rw [splitK_hit (by rw [hx]; omega), hx]
        obtain ⟨i, hi'⟩ : ∃ i : Nat, Lib.index l [c] = i := ⟨(Lib.index l [c]).toNat, by omega⟩
        rw [hi'] at ih ⊢
        rw [show ((i : Int) + 1).toNat = i + 1 by omega, List.take_succ_cons, List.drop_succ_cons]
        rw [Int.toNat_natCast] at ih
        simp [splitC, h, ← ih]
/-- a name; b: is a word to begin? -/
def nmB (b : Bool) : Bs → Bool
  | [] => !b
  | c :: r => if isUp c then nmB false r else if c.toNat = 32 then !b && nmB true r else false
def nameB (s : Bs) : Bool := decide (s.length ≤ 30) && nmB true s
def wordsOk (ws : List Bs) : Bool := ws.all fun w => !w.isEmpty && w.all isUp
theorem up_ne {c : UInt8} (h : isUp c = true) : c.toNat ≠ 32 ∧ c ≠ 32 := by
  simp only [isUp, Bool.and_eq_true, decide_eq_true_eq] at h
  exact ⟨by omega, fun q => by subst q; simp at h⟩
theorem split_nm : ∀ s : Bs, wordsOk (splitC 32 s) = nmB true s ∧ (match splitC 32 s with
    | w :: ws => w.all isUp && wordsOk ws
    | [] => false) = nmB false s
  | [] => by simp [splitC, wordsOk, nmB]
  | c :: r => by
    obtain ⟨h1, h2⟩ := split_nm r
    unfold splitC nmB
    by_cases hu : isUp c = true
    · have := up_ne hu
      rw [if_neg this.2]
      simp only [hu, if_true]
      cases hs : splitC 32 r with
      | nil => exact (splitC_ne 32 r hs).elim
      | cons w ws =>
        rw [hs] at h2
        simp only at h2
        constructor
        · rw [← h2]; simp [wordsOk, hu]
        · rw [← h2]; simp [hu]
    · by_cases h32 : c.toNat = 32
      · have hc : c = 32 := u8_ext h32
        simp only [hu, hc, if_true, Bool.false_eq_true, if_false]
        have hu32 : isUp 32 = false := rfl
        constructor
        · simp [wordsOk, hu32]
        · simp [h1, hu32]
      · have hc : c ≠ 32 := fun q => h32 (by rw [q]; rfl)
        simp only [hu, hc, h32, if_false, Bool.false_eq_true]
        cases hs : splitC 32 r with
        | nil => exact (splitC_ne 32 r hs).elim
        | cons w ws => simp [wordsOk, hu]
theorem splitC_len (c : UInt8) : ∀ s, (splitC c s).length ≤ s.length + 1 ∧ ∀ w ∈ splitC c s, w.length ≤ s.length
  | [] => by simp [splitC]
  | x :: r => by
    obtain ⟨h1, h2⟩ := splitC_len c r
    unfold splitC
    split
    · refine ⟨by simp; omega, fun w hw => ?_⟩
      rcases List.mem_cons.1 hw with rfl | hw
      · simp
      · have := h2 w hw; simp; omega
    · split
      · rename_i w ws hs
        rw [hs] at h1 h2
        refine ⟨by simp at h1 ⊢; omega, fun v hv => ?_⟩
        rcases List.mem_cons.1 hv with rfl | hv
        · have := h2 w (List.mem_cons_self ..); simp; omega
        · have := h2 v (List.mem_cons_of_mem _ hv); simp; omega
      · refine ⟨by simp, fun v hv => ?_⟩
        simp only [List.mem_cons, List.not_mem_nil, or_false] at hv
        subst hv; simp
theorem split_ret (s : Bs) (c : UInt8) (hs : s.length ≤ 1000000000) : Ret lb F_strings_Split [.str s, .str [c]] (.list false (scv (splitC c s))) := by
  refine .lib rfl ?_
  unfold lib_Split
  simp only
  rw [if_pos ⟨by omega, by simp⟩, split_one]
  rfl
theorem text_Name_ret (s : Bs) (hs : s.length ≤ 1000000000) : Ret lb F_text_Name [.str s] (.bool (nameB s)) := by
  refine .top rfl (.eq (fun n => by rw [text_Name_eq]) ?_)
  unfold nameB
  by_cases h : s.length ≤ 30
  · simp only [decF (show ¬ (s.length : Int) > 30 by omega), cond_false, h, decide_true, Bool.true_and]
    refine .call (split_ret lb s 32 hs) ?_
    simp only [optO_s, asL_l]
    rw [← (split_nm s).1]
    obtain ⟨h1, h2⟩ := splitC_len 32 s
    generalize splitC 32 s = l at h1 h2
    refine Evt.diag (m := l.length) (loopL (enc := fun w => [CV.str w]) (l := l) (by omega) (P := fun p t n k => text_Name_L1 lb n k s (.list false (scv l)) (false, scv l) (p.length : Int) = some (.bool (wordsOk t))) ?_ ?_ l [] rfl)
    · refine .all fun n k => ?_
      rw [text_Name_L1_succ, decF (by rw [scv_len]; omega), cond_false, text_Name_J2_eq]
      rfl
    · intro p w t hp hlt hat hw hev
      have hwl := h2 w (by rw [← hp]; simp)
      refine hev.imp2 (every_text_capital_ret lb w (by omega)) fun n hn hc k hk => ?_
      have hat : atL (scv l) (p.length : Int) = some [.str w] := hat
      have hlt : (p.length : Int) < ((scv l).length : Int) := hlt
      rw [text_Name_L1_succ]
      simp only [decT hlt, cond_true, asL_l, optO_s, hat, List.length_cons, List.length_nil, Nat.zero_add, beq_self_eq_true, chkO_t, get0, asS_s, hc, asB_b, hw]
      unfold wordsOk
      rw [List.all_cons]
      cases w with
      | nil => rfl
      | cons x xs =>
        simp only [show (x :: xs == []) = false from rfl, cond_false, List.isEmpty_cons, Bool.not_false, Bool.true_and]
        cases (x :: xs).all isUp
        · rfl
        · simpa [wordsOk] using hn k hk
  · simp only [decT (show (s.length : Int) > 30 by omega), cond_true, h, decide_false, Bool.false_and]
    first | exact .done | exact .of trivial
theorem nm_last : ∀ (s : Bs) (b : Bool) (x : UInt8), s.getLast? = some x → x.toNat = 32 → nmB b s = false
  | [], _, _, h, _ => by simp at h
  | [c], b, x, h, hx => by
    simp at h; subst h
    have : isUp c = false := by simp [isUp, hx]
    simp [nmB, this, hx]
  | c :: d :: r, b, x, h, hx => by
    have h' : (d :: r).getLast? = some x := by simpa [List.getLast?_cons] using h
    rw [nmB]
    split
    · exact nm_last _ _ _ h' hx
    · split
      · rw [nm_last _ _ _ h' hx]; simp
      · rfl
theorem r01_Name_loop (s : Bs) (hs : s.length ≤ 1000000000) (hlast : ∀ x, s.getLast? = some x → x.toNat ≠ 32) : ∀ (t p : Bs) (x : UInt8), p ++ x :: t = s →
    Evt fun n => ∀ k, t.length < k → r01_Name_L1 lb n k s ((p ++ [x]).length : Int) = some (.bool (nmB (decide (x.toNat = 32)) t))
  | [], p, x, h => .all fun n k hk => by
    obtain ⟨k, rfl⟩ : ∃ m, k = m + 1 := ⟨k - 1, by simp at hk; omega⟩
    have hx := hlast x (by rw [← h]; simp)
    rw [r01_Name_L1_succ, decF (by rw [← h]; omega), cond_false, r01_Name_J2_eq]
    simp [nmB, hx]
  | c :: t, p, x, h => by
    have hl : s.length = p.length + (t.length + 2) := by rw [← h]; simp
    have e : (p ++ [x]).length = p.length + 1 := by simp
    have hat : atS s ((p ++ [x]).length : Int) = some c := atS_ok (by rw [← h, e]; simp [List.getElem?_append_right])
    have hat2 : atS s (p.length : Int) = some x := atS_ok (by rw [← h]; simp)
    refine (r01_Name_loop s hs hlast t (p ++ [x]) c (by rw [← h]; simp)).imp2 (r01_upper_ret lb c) fun n hn hc k hk => ?_
    obtain ⟨k, rfl⟩ : ∃ m, k = m + 1 := ⟨k - 1, by simp at hk; omega⟩
    have hn := hn k (by simp at hk; omega)
    have e2 : IntKind.wrap .i64 (((p ++ [x]).length : Int) + 1) = ((p ++ [x] ++ [c]).length : Int) := by rw [wrap64 (by omega) (by omega)]; simp only [List.length_append, List.length_cons, List.length_nil]; omega
    have e3 : IntKind.wrap .i64 (((p ++ [x]).length : Int) - 1) = (p.length : Int) := by rw [wrap64 (by omega) (by omega)]; omega
    rw [r01_Name_L1_succ]
    simp only [decT (show (((p ++ [x]).length : Nat) : Int) < (s.length : Int) by omega), cond_true, hat, optO_s, hc, asB_b, e2, e3, hat2, nmB]
    cases hu : isUp c with
    | true =>
      have := (up_ne hu).1
      rw [decF this] at hn
      simpa using hn
    | false =>
      rw [Bool.not_false, cond_true]
      by_cases h32 : c.toNat = 32
      · rw [bneF (by omega), cond_false]
        by_cases hx : x.toNat = 32
        · rw [beqT (by omega), cond_true]
          simp [h32, hx]
        · rw [beqF (by omega), cond_false]
          rw [decT h32] at hn
          simpa [h32, hx] using hn
      · rw [bneT (by omega), cond_true]
        simp [h32]
theorem r01_Name_ret (s : Bs) (hs : s.length ≤ 1000000000) : Ret lb F_r01_Name [.str s] (.bool (nameB s)) := by
  refine .top rfl (.eq (fun n => by rw [r01_Name_eq]) ?_)
  unfold nameB
  match s, hs with
  | [], _ => exact .of rfl
  | c :: r, hs =>
    simp only [decF (show ¬ ((c :: r).length : Int) < 1 by simp only [List.length_cons]; omega), cond_false]
    by_cases h30 : (c :: r).length ≤ 30
    · simp only [decF (show ¬ ((c :: r).length : Int) > 30 by omega), cond_false, h30, decide_true, Bool.true_and]
      simp only [show atS (c :: r) 0 = some c from rfl]
      simp only [optO_s]
      by_cases h32 : c.toNat = 32
      · simp only [beqT (show (c.toNat : Int) = 32 by omega), cond_true]
        have : isUp c = false := by simp [isUp, h32]
        exact .of (by simp [nmB, h32, this])
      · simp only [beqF (show (c.toNat : Int) ≠ 32 by omega), cond_false]
        obtain ⟨x, hx⟩ : ∃ x, (c :: r).getLast? = some x := by
          cases hq : (c :: r).getLast? with
          | none => simp at hq
          | some x => exact ⟨x, rfl⟩
        have hw : IntKind.wrap .i64 (((c :: r).length : Int) - 1) = ((r.length : Nat) : Int) := by rw [wrap64 (by simp only [List.length_cons] at hs ⊢; omega) (by simp only [List.length_cons] at hs ⊢; omega)]; simp
        have hat : atS (c :: r) ((r.length : Nat) : Int) = some x := atS_ok (by rw [List.getLast?_eq_getElem?] at hx; simpa using hx)
        rw [hw]
        simp only [hat]
        simp only [optO_s]
        by_cases hx32 : x.toNat = 32
        · simp only [beqT (show (x.toNat : Int) = 32 by omega), cond_true]
          rw [nm_last _ _ _ hx hx32]
          exact .done
        · simp only [beqF (show (x.toNat : Int) ≠ 32 by omega), cond_false]
          have hlast : ∀ y, (c :: r).getLast? = some y → y.toNat ≠ 32 := fun y hy => by
            rw [hx] at hy
            simp only [Option.some.injEq] at hy
            rw [← hy]; exact hx32
          refine ((r01_Name_loop lb (c :: r) hs hlast r [] c rfl).and (Evt.ge (r.length + 2))).imp2 (r01_upper_ret lb c) fun n ⟨hn, hge⟩ hc => ?_
          obtain ⟨k, rfl⟩ : ∃ k, n = k + 1 := ⟨n - 1, by omega⟩
          have hn := hn k (by omega)
          rw [r01_Name_L1_succ]
          simp only [decT (show (0 : Int) < ((c :: r).length : Int) by simp only [List.length_cons]; omega), cond_true]
          simp only [show atS (c :: r) 0 = some c from rfl]
          simp only [optO_s, hc, asB_b]
          cases hu : isUp c with
          | true =>
            rw [Bool.not_true, cond_false, wrap64 (by omega) (by omega)]
            rw [decF h32] at hn
            simpa [nmB, hu] using hn
          | false =>
            rw [Bool.not_false, cond_true, bneT (by omega), cond_true]
            simp [nmB, hu, h32]
    · simp only [decT (show ((c :: r).length : Int) > 30 by omega), cond_true, h30, decide_false, Bool.false_and]
      first | exact .done | exact .of trivial
end Go.Proofs
