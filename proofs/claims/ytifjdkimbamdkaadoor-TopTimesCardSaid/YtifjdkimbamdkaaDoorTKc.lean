/- Chapter 7 on plain data: the legs of a flight on a day, and whether they are in order. Conditions: as each says. -/
import Derived.Test.YtifjdkimbamdkaaDoorTKb
set_option linter.unusedSimpArgs false
namespace Go.Proofs
open Go.Am
variable (lb : Bool)
theorem snoc_cases {α : Type} (l : List α) : l = [] ∨ ∃ a x, l = a ++ [x] := by
  rcases List.eq_nil_or_concat l with h | ⟨a, x, h⟩
  · exact .inl h
  · exact .inr ⟨a, x, by rw [h, List.concat_eq_append]⟩
structure Dt where
  car : Bs
  num : Int
  day : Int
  fro : Bs
  to : Bs
  dep : Int
  arr : Int
  eq : Bs
def dtcv (d : Dt) : List CV := [.str d.car, .int .i64 d.num, .int .i64 d.day, .str d.fro, .str d.to, .int .i64 d.dep, .int .i64 d.arr, .str d.eq]
def legF (p : Pc) (f : Fl) (day : Int) (x : Lg) : Dt := ⟨f.car, f.num, day, x.fro, x.to, atF p x.fro day x.dep, atF p x.to day x.arr, x.eq⟩
def legsF (p : Pc) (f : Fl) (day : Int) : List Dt := f.legs.map (legF p f day)
/-- the first: is there none before?; when the one before arrives -/
def ordG : Bool → Int → List (Int × Int) → Bool
  | _, _, [] => true
  | first, b, x :: r => if x.1 ≥ x.2 then false else bif first then ordG false x.2 r else if x.1 < b then false else ordG false x.2 r
def ordF (p : Pc) (l : List Lg) (day : Int) : Bool := ordG true 0 (l.map fun x => (atF p x.fro day x.dep, atF p x.to day x.arr))
theorem r07_out_ret (m : Int) : Ret lb F_r07_out [.int .i64 m] (.bool (!decide (-1440 ≤ m ∧ m < 5760))) := by
  refine .top rfl (.eq (fun n => by rw [r07_out_eq]) (.of ?_))
  by_cases h : m < -1440
  · rw [decT h, cond_true, decF (by omega)]
    rfl
  · rw [decF h, cond_false, ← decide_not]
    congr 2
    exact decide_eq_decide.2 (by omega)
theorem r07_ordered_ret (an : Bool) (l : List Dt) (hl : l.length ≤ 1000) : Ret lb F_r07_ordered [.list an (l.map dtcv)] (.bool (ordG true 0 (l.map fun x => (x.dep, x.arr)))) := by
  refine .top rfl (.eq (fun n => by rw [r07_ordered_eq]) ?_)
  have key := loopL (enc := dtcv) (l := l) (by omega) (P := fun q t n k => r07_ordered_L1 lb n k an (l.map dtcv) (q.length : Int) = some (.bool (ordG q.isEmpty ((q.getLast?.map (·.arr)).getD 0) (t.map fun x => (x.dep, x.arr))))) (by
    refine .all fun n k => ?_
    rw [r07_ordered_L1_succ, decF (by simp), cond_false, r07_ordered_J2_eq]
    rfl) (by
    intro q x t hq hlt hat hw hev
    refine hev.mono fun n hn k hk => ?_
    have hn := hn k hk
    rw [r07_ordered_L1_succ, decT hlt, cond_true]
    simp only [hat, dtcv, optO_s, asI_i, asB_b, asS_s, asL_l, asA_a, asT_t, get0, get1, get2, get3, chkO_t, cond_true, cond_false, List.length_cons, List.length_nil, Nat.zero_add, Nat.reduceAdd, Nat.reduceBEq, beq_self_eq_true, isCell_str, isCell_int, get4, get5, get6, hw]
    rw [show (q ++ [x]).isEmpty = false by simp, List.getLast?_append] at hn
    simp only [List.getLast?_singleton, Option.some_or, Option.map_some, Option.getD_some] at hn
    obtain ⟨b0, hb0⟩ : ∃ b, ((q.getLast?.map (·.arr)).getD 0) = b := ⟨_, rfl⟩
    rw [hb0]
    simp only [List.map_cons, ordG]
    by_cases h : x.dep ≥ x.arr
    · rw [decT h, cond_true, if_pos h]
    · rw [decF h, cond_false, if_neg h]
      rcases snoc_cases q with rfl | ⟨q', y, rfl⟩
      · rw [decF (by simp), cond_false]
        exact hn
      · have hlen : l.length = q'.length + (t.length + 2) := by rw [← hq]; simp only [List.length_append, List.length_cons, List.length_nil]; omega
        have hwl : IntKind.wrap .i64 (((q' ++ [y]).length : Int) - 1) = (q'.length : Int) := by
          rw [List.length_append, List.length_singleton, wrap64 (by omega) (by omega)]
          omega
        have hpre : atL (l.map dtcv) (q'.length : Int) = some (dtcv y) := atL_ok (by rw [← hq]; simp)
        rw [decT (by rw [List.length_append, List.length_singleton]; omega), cond_true, hwl, hpre]
        simp only [dtcv, optO_s, asI_i, asB_b, asS_s, asL_l, asA_a, asT_t, get0, get1, get2, get3, chkO_t, cond_true, cond_false, List.length_cons, List.length_nil, Nat.zero_add, Nat.reduceAdd, Nat.reduceBEq, beq_self_eq_true, isCell_str, isCell_int, get4, get5, get6]
        rw [List.getLast?_append] at hb0
        simp only [List.getLast?_singleton, Option.some_or, Option.map_some, Option.getD_some] at hb0
        subst hb0
        rw [show (q' ++ [y]).isEmpty = false by simp]
        by_cases h3 : x.dep < y.arr
        · rw [decT h3, cond_true, cond_false, if_pos h3]
        · rw [decF h3, cond_false, cond_false, if_neg h3]
          exact hn) l [] rfl
  exact Evt.diag key
theorem flight_Legs_ret (p : Pc) (hp : Shifts p) (f : Fl) (hl : f.legs.length ≤ 1000) (day : Int) : Ret lb F_flight_Legs [pcv p, flcv f, .int .i64 day]
    (if hasF f.fr f.to f.days day then .tup [.list false ((legsF p f day).map dtcv), .int .i64 0] else .tup [.list true [], .int .i64 12]) := by
  refine .top rfl (.eq (fun n => by rw [flight_Legs_eq]) ?_)
  refine .call (period_Has_ret lb f.fr f.to f.days day) ?_
  simp only [optO_s, asI_i, asB_b, asS_s, asL_l, asA_a, asT_t, get0, get1, get2, get3, chkO_t, cond_true, cond_false, List.length_cons, List.length_nil, Nat.zero_add, Nat.reduceAdd, Nat.reduceBEq, beq_self_eq_true, isCell_str, isCell_int]
  cases hh : hasF f.fr f.to f.days day with
  | false => exact .of rfl
  | true =>
    simp only [Bool.not_true, cond_false, if_true]
    refine .chk (by simp only [List.length_map, Bool.and_eq_true, decide_eq_true_eq]; omega) ?_
    have key := loopL (enc := lgcv) (l := f.legs) (by omega) (P := fun q t n k => flight_Legs_L1 lb n k p.an (p.aps.map apcv) p.dn (p.dis.map dicv) f.car f.num f.fr f.to f.days f.ln (f.legs.map lgcv) day ((q.map (legF p f day)).map dtcv) (q.length : Int) =
        some (.tup [.list false ((legsF p f day).map dtcv), .int .i64 0])) (by
      refine .all fun n k => ?_
      rw [flight_Legs_L1_succ, decF (by simp), cond_false, flight_Legs_J2_eq]
      rfl) (by
      intro q x t hq hlt hat hw hev
      refine Evt.imp2 hev (flight_times_ret lb p hp x day) fun n hn h2 k hk => ?_
      have hn := hn k hk
      rw [lgcv] at h2
      have hql : q.length ≤ 1000 := by have : f.legs.length = q.length + (t.length + 1) := by rw [← hq]; simp
                                       omega
      rw [flight_Legs_L1_succ, decT hlt, cond_true]
      simp only [hat, lgcv, optO_s, asI_i, asB_b, asS_s, asL_l, asA_a, asT_t, get0, get1, get2, get3, chkO_t, cond_true, cond_false, List.length_cons, List.length_nil, Nat.zero_add, Nat.reduceAdd, Nat.reduceBEq, beq_self_eq_true, isCell_str, isCell_int, get4, hw, h2]
      rw [room_le (by simp; omega) (by omega), chkO_t]
      simpa [List.map_append, legF, dtcv] using hn) f.legs [] rfl
    exact Evt.diag key
theorem r07_legs_ret (p : Pc) (hp : Shifts p) (f : Fl) (hl : f.legs.length ≤ 1000) (day : Int) : Ret lb F_r07_legs [pcv p, flcv f, .int .i64 day] (.list f.legs.isEmpty ((legsF p f day).map dtcv)) := by
  refine .top rfl (.eq (fun n => by rw [r07_legs_eq]) ?_)
  have key := loopL (enc := lgcv) (l := f.legs) (by omega) (P := fun q t n k => r07_legs_L1 lb n k p.an (p.aps.map apcv) p.dn (p.dis.map dicv) f.car f.num f.fr f.to f.days f.ln (f.legs.map lgcv) day q.isEmpty ((q.map (legF p f day)).map dtcv) (q.length : Int) =
      some (.list f.legs.isEmpty ((legsF p f day).map dtcv))) (by
    refine .all fun n k => ?_
    rw [r07_legs_L1_succ, decF (by simp), cond_false, r07_legs_J2_eq]
    rfl) (by
    intro q x t hq hlt hat hw hev
    refine Evt.imp2 hev (Evt.imp2 (r07_utc_ret lb p hp x.fro day x.dep) (r07_utc_ret lb p hp x.to day x.arr) fun n h1 h2 => And.intro h1 h2) fun n hn h2 k hk => ?_
    have hn := hn k hk
    have hql : q.length ≤ 1000 := by have : f.legs.length = q.length + (t.length + 1) := by rw [← hq]; simp
                                     omega
    rw [r07_legs_L1_succ, decT hlt, cond_true]
    simp only [hat, lgcv, optO_s, asI_i, asB_b, asS_s, asL_l, asA_a, asT_t, get0, get1, get2, get3, chkO_t, cond_true, cond_false, List.length_cons, List.length_nil, Nat.zero_add, Nat.reduceAdd, Nat.reduceBEq, beq_self_eq_true, isCell_str, isCell_int, get4, hw, h2.1, h2.2]
    rw [room_le (by simp; omega) (by omega), chkO_t, snoc_nil q x]
    simpa [List.map_append, legF, dtcv] using hn) f.legs [] rfl
  exact Evt.diag key
end Go.Proofs
