/- The laws of chapter 1 on plain data: TextCodes, TextNumbers, TextQuotes, TextLines, TextBack, TextParts. Conditions: as each says. -/
import Derived.Test.YtiffhngfneikoaaDoorRx
import Derived.Test.YtiffhngfneikoaaDoorRy
import Derived.Test.YtiffhngfneikoaaDoorRn
set_option linter.unusedSimpArgs false
namespace Go.Proofs
open Go.Am
theorem awake01_ret : Ret true F_l01_awake [] (.bool true) := by
  refine .top rfl (.eq (fun n => by rw [l01_awake_eq]) ?_)
  refine .call (text_Number_ret [45, 49, 50] (by decide)) ?_
  rw [show numR [45, 49, 50] = .tup [.int .i64 (-12), .int .i64 0] from by rw [numR, show numB [45, 49, 50] = (-12, 0) by decide +kernel]; rfl]
  simp only [optO_s, asT_t, get0, get1]
  refine .call (text_Number_ret [45, 48] (by decide)) ?_
  rw [show numR [45, 48] = .tup [.int .i64 0, .int .i64 3] from by rw [numR, show numB [45, 48] = (0, 3) by decide +kernel]; rfl]
  simp only [optO_s, asT_t, get0, get1]
  refine .call (text_Words_ret true [97, 98, 32, 34, 99, 32, 100, 34] (by decide)) ?_
  rw [show wordsB [97, 98, 32, 34, 99, 32, 100, 34] = some [[97, 98], [99, 32, 100]] from wordsB_iff.2 (by decide +kernel)]
  simp only [wordsV, List.isEmpty_cons, optO_s, asT_t, get0, get1, asI_i, beq_self_eq_true, cond_true]
  refine .call (v := .bool true) ?_ ?_
  · have := r01_Same_ret true false false [[97, 98], [99, 32, 100]] [[97, 98], [99, 32, 100]] (by decide)
    simpa [scv] using this
  simp only [optO_s, asB_b, cond_true]
  refine .call (text_Carrier_ret true [57, 87] (by decide)) ?_
  rw [show carrierB [57, 87] = true by decide +kernel]
  simp only [optO_s, asB_b, cond_true]
  refine .call (text_Carrier_ret true [57, 57] (by decide)) ?_
  rw [show carrierB [57, 57] = false by decide +kernel]
  simp only [optO_s, asB_b, Bool.not_false, cond_true]
  refine .call (text_Airport_ret true [76, 72, 82] (by decide)) ?_
  rw [show airportB [76, 72, 82] = true by decide +kernel]
  simp only [optO_s, asB_b, cond_true]
  refine .call (text_Name_ret true [77, 65, 82, 89, 32, 74, 79] (by decide)) ?_
  rw [show nameB [77, 65, 82, 89, 32, 74, 79] = true by decide +kernel]
  simp only [optO_s, asB_b, cond_true]
  refine .call (text_Quote_ret true [97, 34, 10] (by decide)) ?_
  rw [show quo [97, 34, 10] = [34, 97, 92, 34, 92, 120, 48, 97, 34] by decide +kernel]
  exact .of rfl
/-- the end of each law -/
theorem wake : Evt fun n => (optO (C true n F_l01_awake []) fun r => some r) = some (.bool true) := .call awake01_ret .done

theorem textCodes_ok (s : Bs) (a b : Int) (hs : s.length ≤ 281474976710656) : Ret true F_l01_TextCodes [.str s, .int .i64 a, .int .i64 b] (.bool true) := by
  refine .top rfl (.eq (fun n => by rw [l01_TextCodes_eq]) ?_)
  by_cases h : (s.length : Int) > 200
  · simp only [decT h, cond_true]; exact wake
  simp only [decF h, cond_false]
  refine .call (text_Airport_ret true s (by omega)) (.call (r01_Airport_ret true s (by omega)) ?_)
  simp only [optO_s, asB_b, beq_self_eq_true, cond_true]
  refine .call (text_Country_ret true s (by omega)) (.call (r01_Country_ret true s (by omega)) ?_)
  simp only [optO_s, asB_b, beq_self_eq_true, cond_true]
  refine .call (text_Carrier_ret true s (by omega)) (.call (r01_Carrier_ret true s (by omega)) ?_)
  simp only [optO_s, asB_b, beq_self_eq_true, cond_true]
  refine .call (text_Class_ret true s) (.call (r01_Class_ret true s (by omega)) ?_)
  simp only [optO_s, asB_b, beq_self_eq_true, cond_true]
  refine .call (text_Code_ret true s a b (by omega)) (.call (r01_Code_ret true s a b (by omega)) ?_)
  simp only [optO_s, asB_b, beq_self_eq_true, cond_true]
  refine .call (text_Name_ret true s (by omega)) (.call (r01_Name_ret true s (by omega)) ?_)
  simp only [optO_s, asB_b, beq_self_eq_true, cond_true]
  exact wake
theorem textNumbers_ok (s : Bs) (z : Int) (h0 : -9223372036854775808 ≤ z) (h1 : z ≤ 9223372036854775807) (hs : s.length ≤ 281474976710656) : Ret true F_l01_TextNumbers [.str s, .int .i64 z] (.bool true) := by
  refine .top rfl (.eq (fun n => by rw [l01_TextNumbers_eq]) ?_)
  by_cases h : (s.length : Int) > 200
  · simp only [decT h, cond_true]; exact wake
  simp only [decF h, cond_false]
  refine .call (text_Number_ret s (by omega)) ?_
  simp only [numR, pairR, optO_s, asT_t, get0, get1]
  refine .call (r01_Number_ret true s (by omega)) ?_
  simp only [numR, pairR, optO_s, asT_t, get0, get1, asI_i, beq_self_eq_true, cond_true]
  refine .call (text_Decimal_ret true z h0 h1) (.call (r01_Decimal_ret true z h0 h1) ?_)
  simp only [optO_s, asS_s, beq_self_eq_true, cond_true]
  exact wake
theorem unqR_tup (o : Option Bs) : unqR o = .tup [.str (o.getD []), .int .i64 (if o.isSome then 0 else 3)] := by cases o <;> rfl
theorem wordsV_tup (bn : Bool) (o : Option (List Bs)) : wordsV bn o = .tup [.list (if o.isSome then bn else true) (scv (o.getD [])), .int .i64 (if o.isSome then 0 else 3)] := by cases o <;> rfl
theorem textQuotes_ok (s q : Bs) (hs : s.length ≤ 281474976710656) (hq : q.length ≤ 281474976710656) : Ret true F_l01_TextQuotes [.str s, .str q] (.bool true) := by
  refine .top rfl (.eq (fun n => by rw [l01_TextQuotes_eq]) ?_)
  rw [wrap64 (by omega) (by omega)]
  by_cases h : (s.length : Int) + (q.length : Int) > 400
  · simp only [decT h, cond_true]; exact wake
  simp only [decF h, cond_false]
  refine .call (text_Unquote_ret true q (by omega)) ?_
  simp only [unqR_tup, optO_s, asT_t, get0, get1]
  refine .call (r01_Unquote_ret true q (by omega)) ?_
  simp only [unqR_tup, optO_s, asT_t, get0, get1, asI_i, asS_s, beq_self_eq_true, cond_true]
  refine .call (text_Quote_ret true s (by omega)) (.call (r01_Quote_ret true s (by omega)) ?_)
  simp only [optO_s, asS_s, beq_self_eq_true, cond_true]
  exact wake
theorem longB_no {l : List Bs} {m : Nat} (h : longB l m = false) : l.length ≤ m ∧ sumLen l ≤ m := by
  unfold longB at h
  simp only [Bool.or_eq_false_iff, decide_eq_false_iff_not] at h
  omega
theorem textLines_ok (s : Bs) (an : Bool) (l : List Bs) (hs : s.length ≤ 281474976710656) (hl : ∀ w ∈ l, w.length ≤ 281474976710656) : Ret true F_l01_TextLines [.str s, .list an (scv l)] (.bool true) := by
  refine .top rfl (.eq (fun n => by rw [l01_TextLines_eq]) ?_)
  by_cases h : (s.length : Int) > 400
  · simp only [decT h, cond_true]; exact wake
  simp only [decF h, cond_false]
  refine .call (r01_Long_ret true an l 400 (by decide) hl) ?_
  simp only [optO_s, asB_b]
  cases hlong : longB l 400 with
  | true => simp only [cond_true]; exact wake
  | false =>
    obtain ⟨h1, h2⟩ := longB_no (m := 400) hlong
    simp only [cond_false]
    refine .call (text_Words_ret true s (by omega)) ?_
    simp only [wordsV_tup, optO_s, asT_t, get0, get1]
    refine .call (r01_Words_ret true s (by omega)) ?_
    simp only [wordsV_tup, optO_s, asT_t, get0, get1]
    have hwl : ((wordsB s).getD []).length ≤ 1000000000 := by
      cases hw : wordsB s with
      | none => simp
      | some L =>
        have := wordsB_some hw
        have hb : ∀ l : List Bs, l.length ≤ (joinB l).length := by
          intro l
          induction l with
          | nil => simp
          | cons w r ih =>
            have hwn := List.length_pos_iff.2 (wordB_ne w)
            cases r with
            | nil => simp only [joinB, List.length_cons, List.length_nil]; omega
            | cons x r =>
              rw [joinB_cons w (by simp)]
              simp only [List.length_append, List.length_cons] at ih ⊢
              omega
        have hbL := hb L
        rw [← this] at hbL
        simp only [Option.getD_some]
        omega
    refine .call (r01_Same_ret true _ _ _ _ hwl) ?_
    simp only [decide_true, optO_s, asB_b, cond_true, asI_i, beq_self_eq_true]
    refine .call (text_Join_ret true an l (by omega) (by omega)) (.call (r01_Join_ret true an l (by omega) (by omega)) ?_)
    simp only [optO_s, asS_s, beq_self_eq_true, cond_true]
    exact wake
theorem textParts_ok (an bn : Bool) (a b : List Bs) (ha : ∀ w ∈ a, w.length ≤ 281474976710656) (hb : ∀ w ∈ b, w.length ≤ 281474976710656) : Ret true F_l01_TextParts [.list an (scv a), .list bn (scv b)] (.bool true) := by
  refine .top rfl (.eq (fun n => by rw [l01_TextParts_eq]) ?_)
  refine .call (r01_Long_ret true an a 300 (by decide) ha) ?_
  simp only [optO_s, asB_b]
  cases hla : longB a 300 with
  | true => simp only [cond_true]; exact wake
  | false =>
    obtain ⟨h1, h2⟩ := longB_no (m := 300) hla
    simp only [cond_false]
    refine .call (r01_Long_ret true bn b 300 (by decide) hb) ?_
    simp only [optO_s, asB_b]
    cases hlb : longB b 300 with
    | true => simp only [cond_true]; exact wake
    | false =>
      obtain ⟨h3, h4⟩ := longB_no (m := 300) hlb
      simp only [cond_false, scv_len]
      by_cases a0 : a.length = 0
      · simp only [beqT (show (a.length : Int) = 0 by omega), cond_true]; exact wake
      simp only [beqF (show (a.length : Int) ≠ 0 by omega), cond_false]
      by_cases b0 : b.length = 0
      · simp only [beqT (show (b.length : Int) = 0 by omega), cond_true]; exact wake
      simp only [beqF (show (b.length : Int) ≠ 0 by omega), cond_false]
      have ane : a ≠ [] := fun q => a0 (by rw [q]; rfl)
      have bne : b ≠ [] := fun q => b0 (by rw [q]; rfl)
      refine .chk (all_one_scv a) (.chk (room_ok (by omega)) (.chk (all_one_scv b) (.chk (room_ok (by omega)) ?_)))
      have ja := joinB_len a
      have jb := joinB_len b
      have hab := joinB_append ane bne
      have hsum : sumLen (a ++ b) = sumLen a + sumLen b := sumLen_app a b
      refine .call (text_Join_ret true an a (by omega) (by omega)) ?_
      simp only [optO_s, asS_s]
      refine .chk (decT (by simp; omega)) ?_
      refine .call (text_Join_ret true bn b (by omega) (by omega)) ?_
      simp only [optO_s, asS_s]
      refine .chk (decT (by simp; omega)) ?_
      rw [show joinB a ++ [32] ++ joinB b = joinB (a ++ b) by rw [hab]; simp]
      have hjl : (joinB (a ++ b)).length ≤ 100000 := by rw [hab]; simp; omega
      refine .call (text_Words_ret true (joinB (a ++ b)) (by omega)) ?_
      rw [wordsB_join]
      simp only [wordsV, optO_s, asT_t, get0, get1]
      rw [← scv_app]
      refine .call (text_Join_ret true false (a ++ b) (by simp; omega) (by omega)) ?_
      simp only [optO_s, asS_s, beq_self_eq_true, cond_true, asI_i]
      refine .call (r01_Same_ret true _ _ (a ++ b) (a ++ b) (by simp; omega)) ?_
      simp only [decide_true, optO_s, asB_b, cond_true]
      exact wake
theorem textBack_ok (s : Bs) (an : Bool) (l : List Bs) (z : Int) (h0 : -9223372036854775808 ≤ z) (h1 : z ≤ 9223372036854775807) (hs : s.length ≤ 281474976710656) (hl : ∀ w ∈ l, w.length ≤ 281474976710656) :
    Ret true F_l01_TextBack [.str s, .list an (scv l), .int .i64 z] (.bool true) := by
  refine .top rfl (.eq (fun n => by rw [l01_TextBack_eq]) ?_)
  by_cases h : (s.length : Int) > 400
  · simp only [decT h, cond_true]; exact wake
  simp only [decF h, cond_false]
  refine .call (r01_Long_ret true an l 400 (by decide) hl) ?_
  simp only [optO_s, asB_b]
  cases hlong : longB l 400 with
  | true => simp only [cond_true]; exact wake
  | false =>
    obtain ⟨h3, h4⟩ := longB_no (m := 400) hlong
    have hil := itoa_len h0 h1
    have hql := quo_len s
    have hjl := joinB_len l
    simp only [cond_false]
    refine .call (text_Decimal_ret true z h0 h1) ?_
    refine .call (text_Number_ret (Lib.itoa z) (by omega)) ?_
    rw [numR, numB_itoa z h0 h1]
    simp only [pairR, optO_s, asT_t, get0, get1]
    refine .call (text_Quote_ret true s (by omega)) ?_
    refine .call (text_Unquote_ret true (quo s) (by omega)) ?_
    rw [unq_quo]
    simp only [unqR, optO_s, asT_t, get0, get1]
    refine .call (text_Join_ret true an l (by omega) (by omega)) ?_
    refine .call (text_Words_ret true (joinB l) (by omega)) ?_
    rw [wordsB_join]
    simp only [wordsV, optO_s, asT_t, get0, get1, asI_i, asS_s, bne_self_eq_false, cond_false, beq_self_eq_true, Bool.not_true]
    refine .call (r01_Same_ret true _ _ l l (by omega)) ?_
    simp only [decide_true, optO_s, asB_b, Bool.not_true, cond_false]
    refine .call (text_Number_ret s (by omega)) ?_
    rw [numR]
    simp only [pairR, optO_s, asT_t, get0, get1]
    refine .call (text_Unquote_ret true s (by omega)) ?_
    simp only [unqR_tup, optO_s, asT_t, get0, get1]
    refine .call (text_Words_ret true s (by omega)) ?_
    simp only [wordsV_tup, optO_s, asT_t, get0, get1, asI_i]
    have r3 : Evt fun n => (bif ((if (wordsB s).isSome then (0 : Int) else 3) != 0) then (optO (C true n F_l01_awake []) fun r71 => some r71) else
        (optO (C true n F_text_Join [.list (if (wordsB s).isSome then s.isEmpty else true) (scv ((wordsB s).getD []))]) fun r72 => optO (CV.asS r72) fun s73 => bif (s73 == s) then (optO (C true n F_l01_awake []) fun r74 => some r74) else some (.bool false))) = some (.bool true) := by
      cases hw : wordsB s with
      | none => exact wake
      | some L =>
        have hj := wordsB_some hw
        have hb : ∀ l : List Bs, sumLen l ≤ (joinB l).length ∧ l.length ≤ (joinB l).length := by
          intro l
          induction l with
          | nil => simp [sumLen, joinB]
          | cons w r ih =>
            have hw := wordB_len w
            have hwn := List.length_pos_iff.2 (wordB_ne w)
            cases r with
            | nil => simp only [joinB, sumLen_cons, List.length_cons, List.length_nil]; simp [sumLen]; omega
            | cons x r =>
              rw [joinB_cons w (by simp), sumLen_cons]
              simp only [List.length_append, List.length_cons] at ih ⊢
              omega
        have := hb L
        rw [← hj] at this
        simp only [Option.isSome_some, if_true, bne_self_eq_false, cond_false, Option.getD_some]
        refine .call (text_Join_ret true _ L (by omega) (by omega)) ?_
        rw [← hj]
        simp only [optO_s, asS_s, beq_self_eq_true, cond_true]
        exact wake
    have r2 : Evt fun n => (bif ((if (unq s).isSome then (0 : Int) else 3) != 0) then (bif ((if (wordsB s).isSome then (0 : Int) else 3) != 0) then (optO (C true n F_l01_awake []) fun r71 => some r71) else
        (optO (C true n F_text_Join [.list (if (wordsB s).isSome then s.isEmpty else true) (scv ((wordsB s).getD []))]) fun r72 => optO (CV.asS r72) fun s73 => bif (s73 == s) then (optO (C true n F_l01_awake []) fun r74 => some r74) else some (.bool false))) else
        (optO (C true n F_text_Quote [.str ((unq s).getD [])]) fun r75 => optO (CV.asS r75) fun s76 => bif (s76 == s) then (bif ((if (wordsB s).isSome then (0 : Int) else 3) != 0) then (optO (C true n F_l01_awake []) fun r71 => some r71) else
        (optO (C true n F_text_Join [.list (if (wordsB s).isSome then s.isEmpty else true) (scv ((wordsB s).getD []))]) fun r72 => optO (CV.asS r72) fun s73 => bif (s73 == s) then (optO (C true n F_l01_awake []) fun r74 => some r74) else some (.bool false))) else some (.bool false))) = some (.bool true) := by
      cases hu : unq s with
      | none => exact r3
      | some v =>
        have hv := unq_some hu
        have hvl := quo_len v
        rw [← hv] at hvl
        simp only [Option.isSome_some, if_true, bne_self_eq_false, cond_false, Option.getD_some]
        refine .call (text_Quote_ret true v (by omega)) ?_
        rw [← hv]
        simp only [optO_s, asS_s, beq_self_eq_true, cond_true]
        exact r3
    cases hn : decide ((numB s).2 = 0) with
    | false =>
      have hn : (numB s).2 ≠ 0 := of_decide_eq_false hn
      simp only [bneT hn, cond_true]
      exact r2
    | true =>
      have hn : (numB s).2 = 0 := of_decide_eq_true hn
      obtain ⟨e1, e2, e3⟩ := numB_back (s := s) (z := (numB s).1) (by rw [← hn])
      simp only [bneF hn, cond_false]
      refine .call (text_Decimal_ret true (numB s).1 e2 e3) ?_
      rw [← e1]
      simp only [optO_s, asS_s, beq_self_eq_true, cond_true]
      exact r2
end Go.Proofs
