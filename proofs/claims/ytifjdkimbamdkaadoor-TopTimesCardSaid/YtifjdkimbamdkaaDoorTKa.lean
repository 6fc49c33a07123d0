/- Chapter 7 on plain data: airports, zones, periods; finding an airport, the minute UTC of a local minute, the days of a period. Conditions: as each says. -/
import Derived.Test.YtifjdkimbamdkaaDoorTGa
import Derived.Test.YtifjdkimbamdkaaDoorTRy
set_option linter.unusedSimpArgs false
namespace Go.Proofs
open Go.Am
variable (lb : Bool)
theorem get4 {α : Type} (a b c d e : α) (l : List α) : (a :: b :: c :: d :: e :: l)[4]? = some e := rfl
theorem get5 {α : Type} (a b c d e f : α) (l : List α) : (a :: b :: c :: d :: e :: f :: l)[5]? = some f := rfl
theorem get6 {α : Type} (a b c d e f g : α) (l : List α) : (a :: b :: c :: d :: e :: f :: g :: l)[6]? = some g := rfl
theorem get7 {α : Type} (a b c d e f g h : α) (l : List α) : (a :: b :: c :: d :: e :: f :: g :: h :: l)[7]? = some h := rfl
abbrev W64 (x : Int) : Int := IntKind.wrap .i64 x
theorem W64_range (x : Int) : -9223372036854775808 ≤ W64 x ∧ W64 x ≤ 9223372036854775807 := by
  unfold W64 IntKind.wrap
  simp only [IntKind.bits, IntKind.signed]
  simp
  omega
abbrev Sh := Int × Int
def shcv (s : Sh) : List CV := [.int .i64 s.1, .int .i64 s.2]
structure Ap where
  code : Bs
  city : Bs
  ctry : Bs
  off : Int
  sn : Bool
  sh : List Sh
def apcv (a : Ap) : List CV := [.str a.code, .str a.city, .str a.ctry, .int .i64 a.off, .list a.sn (a.sh.map shcv)]
def ap0 : Ap := ⟨[], [], [], 0, true, []⟩
structure Di where
  fro : Bs
  to : Bs
  mi : Int
def dicv (d : Di) : List CV := [.str d.fro, .str d.to, .int .i64 d.mi]
structure Pc where
  an : Bool
  aps : List Ap
  dn : Bool
  dis : List Di
abbrev pcv (p : Pc) : CV := .agg [.list p.an (p.aps.map apcv), .list p.dn (p.dis.map dicv)]
structure Lg where
  fro : Bs
  to : Bs
  dep : Int
  arr : Int
  eq : Bs
def lgcv (l : Lg) : List CV := [.str l.fro, .str l.to, .int .i64 l.dep, .int .i64 l.arr, .str l.eq]
structure Fl where
  car : Bs
  num : Int
  fr : Int
  to : Int
  days : Int
  ln : Bool
  legs : List Lg
abbrev flcv (f : Fl) : CV := .agg [.str f.car, .int .i64 f.num, .int .i64 f.fr, .int .i64 f.to, .int .i64 f.days, .list f.ln (f.legs.map lgcv)]

/-! airports -/
def findA (s : Bs) : List Ap → Option Ap
  | [] => none
  | a :: t => if a.code = s then some a else findA s t
def findR (s : Bs) (l : List Ap) : CV := .tup [.agg (apcv ((findA s l).getD ap0)), .bool (findA s l).isSome]
theorem places_Find_ret (p : Pc) (s : Bs) (hp : p.aps.length ≤ 281474976710656) : Ret lb F_places_Find [pcv p, .str s] (findR s p.aps) := by
  refine .top rfl (.eq (fun n => by rw [places_Find_eq]) ?_)
  refine Evt.diag (m := p.aps.length) (loopL (enc := apcv) (l := p.aps) hp (P := fun q t n k => places_Find_L1 lb n k p.an (p.aps.map apcv) p.dn (p.dis.map dicv) s (q.length : Int) = some (findR s t)) ?_ ?_ p.aps [] rfl)
  · refine .all fun n k => ?_
    rw [places_Find_L1_succ, decF (by simp), cond_false, places_Find_J2_eq]
    rfl
  · intro q x t hq hlt hat hw hev
    refine hev.mono fun n hn k hk => ?_
    have hn := hn k hk
    rw [places_Find_L1_succ, decT hlt, cond_true]
    simp only [hat, apcv, optO_s, asI_i, asB_b, asS_s, asL_l, asA_a, asT_t, get0, get1, get2, get3, chkO_t, cond_true, cond_false, List.length_cons, List.length_nil, Nat.zero_add, Nat.reduceAdd, Nat.reduceBEq, beq_self_eq_true, isCell_str, isCell_int, get4, hw]
    unfold findR findA
    by_cases h : x.code = s
    · rw [show (x.code == s) = true by simpa using h, cond_true, if_pos h]
      rfl
    · rw [show (x.code == s) = false by simpa using h, cond_false, if_neg h]
      exact hn
theorem r06_Find_ret (p : Pc) (s : Bs) (hp : p.aps.length ≤ 281474976710656) : Ret lb F_r06_Find [pcv p, .str s] (findR s p.aps) := by
  refine .top rfl (.eq (fun n => by rw [r06_Find_eq]) ?_)
  refine Evt.diag (m := p.aps.length) (loopL (enc := apcv) (l := p.aps) hp (P := fun q t n k => r06_Find_L1 lb n k p.an (p.aps.map apcv) p.dn (p.dis.map dicv) s (q.length : Int) = some (findR s t)) ?_ ?_ p.aps [] rfl)
  · refine .all fun n k => ?_
    rw [r06_Find_L1_succ, decF (by simp), cond_false, r06_Find_J2_eq]
    rfl
  · intro q x t hq hlt hat hw hev
    refine hev.mono fun n hn k hk => ?_
    have hn := hn k hk
    rw [r06_Find_L1_succ, decT hlt, cond_true]
    simp only [hat, apcv, optO_s, asI_i, asB_b, asS_s, asL_l, asA_a, asT_t, get0, get1, get2, get3, chkO_t, cond_true, cond_false, List.length_cons, List.length_nil, Nat.zero_add, Nat.reduceAdd, Nat.reduceBEq, beq_self_eq_true, isCell_str, isCell_int, get4, hw]
    unfold findR findA
    by_cases h : x.code = s
    · rw [show (x.code == s) = true by simpa using h, cond_true, if_pos h]
      rfl
    · rw [show (x.code == s) = false by simpa using h, cond_false, if_neg h]
      exact hn

/-! zones -/
theorem shiftsOf_cv : ∀ l : List Sh, shiftsOf (l.map shcv) = some l
  | [] => rfl
  | s :: l => by
    show (shiftsOf (l.map shcv)).map ((s.1, s.2) :: ·) = _
    rw [shiftsOf_cv l]; rfl
def maxI (a b : Int) : Int := if a > b then a else b
def utcG (loc : Int) : Int → List Sh → Int
  | u, [] => u
  | u, s :: r => if u < s.1 then u else utcG loc (maxI (W64 (loc - s.2)) s.1) r
def utcF (off : Int) (sh : List Sh) (loc : Int) : Int := utcG loc (W64 (loc - off)) sh
def utcP (loc : Int) : Int → List (Int × Int × Int) → Int
  | u, [] => u
  | _, s :: r => if maxI (W64 (loc - s.2.2)) s.1 < s.2.1 then maxI (W64 (loc - s.2.2)) s.1 else utcP loc (maxI (W64 (loc - s.2.2)) s.1) r
theorem utcP_spans (loc : Int) : ∀ (l : List Sh) (u fr o : Int), utcP loc u (spansF fr o l) = utcG loc (maxI (W64 (loc - o)) fr) l
  | [], u, fr, o => by
    simp only [spansF, utcP, utcG]
    split <;> rfl
  | (a, o') :: r, u, fr, o => by
    simp only [spansF, utcP, utcG]
    split
    · rfl
    · exact utcP_spans loc r _ a o'
theorem maxI_min (loc o : Int) : maxI (W64 (loc - o)) (-9223372036854775808) = W64 (loc - o) := by
  have := (W64_range (loc - o)).1
  unfold maxI
  split <;> omega
theorem spans_len : ∀ (l : List Sh) (fr o : Int), (spansF fr o l).length = l.length + 1
  | [], _, _ => rfl
  | (a, o') :: r, fr, o => by simp [spansF, spans_len r]
theorem zone_spans_ret (off : Int) (sn : Bool) (sh : List Sh) (h : sh.length ≤ 1000000000000) : Ret lb F_zone_spans [.agg [.int .i64 off, .list sn (sh.map shcv)]] (.list false ((spansF (-9223372036854775808) off sh).map span3c)) :=
  .lib (s := lib_spans) rfl (by
    show (match shiftsOf (sh.map shcv) with | some s => if s.length ≤ 1000000000000 then some (CV.list false ((spansF (-9223372036854775808) off s).map span3c)) else none | none => none) = _
    rw [shiftsOf_cv]
    simp only
    rw [if_pos h])
theorem zone_UTC_ret (off : Int) (sn : Bool) (sh : List Sh) (loc : Int) (h : sh.length ≤ 1000000000000) : Ret lb F_zone_UTC [.agg [.int .i64 off, .list sn (sh.map shcv)], .int .i64 loc] (.int .i64 (utcF off sh loc)) := by
  refine .top rfl (.eq (fun n => by rw [zone_UTC_eq]) ?_)
  refine .call (zone_spans_ret lb off sn sh h) ?_
  simp only [asL_l, optO_s]
  obtain ⟨sp, hsp⟩ : ∃ sp, spansF (-9223372036854775808) off sh = sp := ⟨_, rfl⟩
  have hl : sp.length ≤ 281474976710656 := by rw [← hsp, spans_len]; omega
  have key := loopL (enc := span3c) (l := sp) hl (P := fun q t n k => ∀ u, zone_UTC_L1 lb n k off sn (sh.map shcv) loc (.list false (sp.map span3c)) (false, sp.map span3c) u (q.length : Int) = some (.int .i64 (utcP loc u t))) (by
    refine .all fun n k u => ?_
    rw [zone_UTC_L1_succ, decF (by simp), cond_false, zone_UTC_J3_eq]
    rfl) (by
    intro q x t hq hlt hat hw hev
    refine hev.mono fun n hn k hk u => ?_
    have hn := hn k hk
    rw [zone_UTC_L1_succ, decT hlt, cond_true]
    simp only [hat, span3c, optO_s, asI_i, asB_b, asS_s, asL_l, asA_a, asT_t, get0, get1, get2, get3, chkO_t, cond_true, cond_false, List.length_cons, List.length_nil, Nat.zero_add, Nat.reduceAdd, Nat.reduceBEq, beq_self_eq_true, isCell_str, isCell_int, hw]
    unfold utcP maxI
    by_cases h : (if W64 (loc - x.2.2) > x.1 then W64 (loc - x.2.2) else x.1) < x.2.1
    · rw [decT h, cond_true, if_pos h, zone_UTC_J2_eq]
    · rw [decF h, cond_false, if_neg h]
      exact hn _) sp [] rfl
  refine (Evt.diag key).mono fun n hn => ?_
  rw [hsp]
  have := hn 0
  rw [← hsp, utcP_spans, maxI_min] at this
  rw [← hsp]
  exact this
theorem r05_UTC_ret (off : Int) (sn : Bool) (sh : List Sh) (loc : Int) (h : sh.length ≤ 281474976710656) : Ret lb F_r05_UTC [.agg [.int .i64 off, .list sn (sh.map shcv)], .int .i64 loc] (.int .i64 (utcF off sh loc)) := by
  refine .top rfl (.eq (fun n => by rw [r05_UTC_eq]) ?_)
  have key := loopL (enc := shcv) (l := sh) h (P := fun q t n k => ∀ u, r05_UTC_L1 lb n k off sn (sh.map shcv) loc u (q.length : Int) = some (.int .i64 (utcG loc u t))) (by
    refine .all fun n k u => ?_
    rw [r05_UTC_L1_succ, decF (by simp), cond_false, r05_UTC_J2_eq]
    rfl) (by
    intro q x t hq hlt hat hw hev
    refine hev.mono fun n hn k hk u => ?_
    have hn := hn k hk
    rw [r05_UTC_L1_succ, decT hlt, cond_true]
    simp only [hat, shcv, optO_s, asI_i, asB_b, asS_s, asL_l, asA_a, asT_t, get0, get1, get2, get3, chkO_t, cond_true, cond_false, List.length_cons, List.length_nil, Nat.zero_add, Nat.reduceAdd, Nat.reduceBEq, beq_self_eq_true, isCell_str, isCell_int, hw]
    unfold utcG maxI
    by_cases h : u < x.1
    · rw [decT h, cond_true, if_pos h]
    · rw [decF h, cond_false, if_neg h]
      exact hn _) sh [] rfl
  exact (Evt.diag key).mono fun n hn => hn _

/-! times of a leg -/
def apOf (p : Pc) (s : Bs) : Ap := (findA s p.aps).getD ap0
def atF (p : Pc) (s : Bs) (day m : Int) : Int := utcF (apOf p s).off (apOf p s).sh (W64 (W64 (day * 1440) + m))
/-- no zone has too many shifts -/
def Shifts (p : Pc) : Prop := p.aps.length ≤ 281474976710656 ∧ ∀ a ∈ p.aps, a.sh.length ≤ 256
theorem findA_mem {s : Bs} {a : Ap} : ∀ {l : List Ap}, findA s l = some a → a ∈ l ∧ a.code = s
  | x :: l, h => by
    unfold findA at h
    split at h
    · rename_i e
      cases h
      exact ⟨List.mem_cons_self .., e⟩
    · exact ⟨List.mem_cons_of_mem _ (findA_mem h).1, (findA_mem h).2⟩
theorem apOf_sh {p : Pc} (hp : Shifts p) (s : Bs) : (apOf p s).sh.length ≤ 256 := by
  unfold apOf
  cases h : findA s p.aps with
  | none => simp [ap0]
  | some a => exact hp.2 a (findA_mem h).1
theorem flight_times_ret (p : Pc) (hp : Shifts p) (x : Lg) (day : Int) : Ret lb F_flight_times [pcv p, .agg (lgcv x), .int .i64 day] (.tup [.int .i64 (atF p x.fro day x.dep), .int .i64 (atF p x.to day x.arr)]) := by
  refine .top rfl (.eq (fun n => by rw [lgcv, flight_times_eq]) ?_)
  refine .call (places_Find_ret lb p x.fro hp.1) ?_
  simp only [findR, apcv, optO_s, asI_i, asB_b, asS_s, asL_l, asA_a, asT_t, get0, get1, get2, get3, chkO_t, cond_true, cond_false, List.length_cons, List.length_nil, Nat.zero_add, Nat.reduceAdd, Nat.reduceBEq, beq_self_eq_true, isCell_str, isCell_int, get4]
  refine .call (places_Find_ret lb p x.to hp.1) ?_
  simp only [findR, apcv, optO_s, asI_i, asB_b, asS_s, asL_l, asA_a, asT_t, get0, get1, get2, get3, chkO_t, cond_true, cond_false, List.length_cons, List.length_nil, Nat.zero_add, Nat.reduceAdd, Nat.reduceBEq, beq_self_eq_true, isCell_str, isCell_int, get4]
  refine .call (zone_UTC_ret lb _ _ _ _ (by have := apOf_sh hp x.fro; unfold apOf at this; omega)) ?_
  refine .call (zone_UTC_ret lb _ _ _ _ (by have := apOf_sh hp x.to; unfold apOf at this; omega)) ?_
  exact .of rfl
theorem r07_utc_ret (p : Pc) (hp : Shifts p) (s : Bs) (day m : Int) : Ret lb F_r07_utc [pcv p, .str s, .int .i64 day, .int .i64 m] (.int .i64 (atF p s day m)) := by
  refine .top rfl (.eq (fun n => by rw [r07_utc_eq]) ?_)
  refine .call (r06_Find_ret lb p s hp.1) ?_
  simp only [findR, apcv, optO_s, asI_i, asB_b, asS_s, asL_l, asA_a, asT_t, get0, get1, get2, get3, chkO_t, cond_true, cond_false, List.length_cons, List.length_nil, Nat.zero_add, Nat.reduceAdd, Nat.reduceBEq, beq_self_eq_true, isCell_str, isCell_int, get4]
  refine .call (r05_UTC_ret lb _ _ _ _ (by have := apOf_sh hp s; unfold apOf at this; omega)) ?_
  exact .of rfl
end Go.Proofs
