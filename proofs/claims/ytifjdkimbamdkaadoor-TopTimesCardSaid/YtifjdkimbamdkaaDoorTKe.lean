/- Chapter 7 on plain data: the faults of a flight, by the program and by its reference. Conditions: as each says. -/
import Derived.Test.YtifjdkimbamdkaaDoorTKd
set_option linter.unusedSimpArgs false
namespace Go.Proofs
open Go.Am
variable (lb : Bool)
/-! lists that grow -/
theorem acc_if {α : Type} {enc : α → List CV} (c : Bool) (F : List α) (x : α) (m : Nat) (hm : m ≤ 1000) (hF : F.length ≤ 100000) (J : Bool → List (List CV) → Option CV) :
    (bif !c then chkO (room ((F.map enc).length + 1) m) (J (F.isEmpty && false) (F.map enc ++ [enc x])) else J F.isEmpty (F.map enc)) = J (F ++ if c then [] else [x]).isEmpty ((F ++ if c then [] else [x]).map enc) := by
  cases c with
  | false => simp only [Bool.not_false, cond_true, room_le (n := (F.map enc).length + 1) (b := m) (by simp; omega) hm, chkO_t, Bool.false_eq_true, if_false, List.map_append, List.map_cons, List.map_nil, snoc_nil F x]
  | true => simp only [Bool.not_true, cond_false, if_true, List.append_nil]
theorem acc_ift {α : Type} {enc : α → List CV} (c : Bool) (F : List α) (x : α) (m : Nat) (hm : m ≤ 1000) (hF : F.length ≤ 100000) (J : Bool → List (List CV) → Option CV) :
    (bif c then chkO (room ((F.map enc).length + 1) m) (J (F.isEmpty && false) (F.map enc ++ [enc x])) else J F.isEmpty (F.map enc)) = J (F ++ if c then [x] else []).isEmpty ((F ++ if c then [x] else []).map enc) := by
  cases c with
  | true => simp only [cond_true, room_le (n := (F.map enc).length + 1) (b := m) (by simp; omega) hm, chkO_t, if_true, List.map_append, List.map_cons, List.map_nil, snoc_nil F x]
  | false => simp only [cond_false, Bool.false_eq_true, if_false, List.append_nil]
theorem bif_or {β : Type} (c d : Bool) (x y : β) : (bif c then x else bif d then x else y) = (bif c || d then x else y) := by cases c <;> rfl
theorem bif_nand {β : Type} (c d : Bool) (x y : β) : (bif !c then x else bif !d then x else y) = (bif !(c && d) then x else y) := by cases c <;> rfl
theorem acc_if0 {α : Type} {enc : α → List CV} (c : Bool) (x : α) (J : Bool → List (List CV) → Option CV) :
    (bif !c then J false [enc x] else J true []) = J (if c then ([] : List α) else [x]).isEmpty ((if c then [] else [x]).map enc) := by cases c <;> rfl

/-! a leg's -/
def icv (E : List Int) : List (List CV) := E.map fun e => [CV.int .i64 e]
def ienc (e : Int) : List CV := [CV.int .i64 e]
abbrev Ft := Int × Bs
def ftenc (x : Ft) : List CV := [.int .i64 x.1, .str x.2]
def brk (q : List Lg) (x : Lg) : Bool := (match q.getLast? with | some y => !(x.fro == y.to) | none => false) || (q ++ [x]).any (fun z => z.fro == x.to)
theorem broken_ret (an : Bool) (l q t : List Lg) (x : Lg) (h : q ++ x :: t = l) (hl : l.length ≤ 1000) : Ret lb F_r07_broken [.list an (l.map lgcv), .int .i64 (q.length : Int)] (.bool (brk q x)) := by
  have hll : l.length = q.length + (t.length + 1) := by rw [← h]; simp
  have hlast : atL (l.map lgcv) (q.length : Int) = some (lgcv x) := atL_ok (by rw [← h]; simp)
  have key : Evt fun n => r07_broken_L1 lb n n an (l.map lgcv) (q.length : Int) 0 = some (.bool ((q ++ [x]).any (fun z => z.fro == x.to))) := by
    refine Evt.diag (m := (q ++ [x]).length) (loopL (enc := lgcv) (l := q ++ [x]) (by simp; omega) (P := fun r s n k => r07_broken_L1 lb n k an (l.map lgcv) (q.length : Int) (r.length : Int) = some (.bool (s.any (fun z => z.fro == x.to)))) ?_ ?_ (q ++ [x]) [] rfl)
    · refine .all fun n k => ?_
      rw [r07_broken_L1_succ, decF (by simp; omega), cond_false, r07_broken_J2_eq]
      rfl
    · intro r z s hrs hlt hat hw2 hev
      refine hev.mono fun n hn k hk => ?_
      have hn := hn k hk
      have hlz : l = r ++ z :: (s ++ t) := by
        rw [← h, show q ++ x :: t = (q ++ [x]) ++ t by simp, ← hrs]; simp
      have hat : atL (l.map lgcv) (r.length : Int) = some (lgcv z) := atL_ok (by rw [hlz]; simp)
      rw [r07_broken_L1_succ, decT (by simp at hlt; omega), cond_true]
      simp only [hat, hlast, lgcv, optO_s, asI_i, asB_b, asS_s, asL_l, asA_a, asT_t, get0, get1, get2, get3, chkO_t, cond_true, cond_false, List.length_cons, List.length_nil, Nat.zero_add, Nat.reduceAdd, Nat.reduceBEq, beq_self_eq_true, isCell_str, isCell_int, get4, hw2]
      by_cases e : z.fro = x.to
      · rw [show (z.fro == x.to) = true by simpa using e, cond_true]
        simp [e]
      · have e' : (z.fro == x.to) = false := by simpa using e
        rw [e', cond_false, hn]
        simp [e']
  refine .top rfl (key.mono fun n hn => ?_)
  rw [r07_broken_eq, hn]
  unfold brk
  rcases snoc_cases q with rfl | ⟨q', y, rfl⟩
  · rw [decF (by simp), cond_false]
    rfl
  · have hwl : IntKind.wrap .i64 (((q' ++ [y]).length : Int) - 1) = (q'.length : Int) := by
      rw [List.length_append, List.length_singleton] at hll ⊢
      rw [wrap64 (by omega) (by omega)]
      omega
    have hpre : atL (l.map lgcv) (q'.length : Int) = some (lgcv y) := atL_ok (by rw [← h]; simp)
    rw [decT (by rw [List.length_append, List.length_singleton]; omega), cond_true, hlast, hwl, hpre]
    simp only [lgcv, optO_s, asI_i, asB_b, asS_s, asL_l, asA_a, asT_t, get0, get1, get2, get3, chkO_t, cond_true, cond_false, List.length_cons, List.length_nil, Nat.zero_add, Nat.reduceAdd, Nat.reduceBEq, beq_self_eq_true, isCell_str, isCell_int, get4, List.getLast?_append, List.getLast?_singleton, Option.some_or]
    cases (x.fro == y.to) <;> rfl
def okM (m : Int) : Bool := decide (-1440 ≤ m ∧ m < 5760)
def knownB (p : Pc) (s : Bs) : Bool := (findA s p.aps).isSome
/-- the faults of a leg behind others -/
def legE (p : Pc) (q : List Lg) (x : Lg) : List Int :=
  (((if codeB x.eq 3 3 then [] else [5]) ++ (if knownB p x.fro && knownB p x.to then [] else [14])) ++ (if !brk q x then [] else [15])) ++ (if okM x.dep && okM x.arr then [] else [2])
theorem legE_len (p : Pc) (q : List Lg) (x : Lg) : (legE p q x).length ≤ 4 := by
  unfold legE
  simp only [List.length_append]
  have h : ∀ (c : Bool) (e : Int), (if c then [] else [e] : List Int).length ≤ 1 := fun c e => by cases c <;> simp
  have := h (codeB x.eq 3 3) 5
  have := h (knownB p x.fro && knownB p x.to) 14
  have := h (!brk q x) 15
  have := h (okM x.dep && okM x.arr) 2
  omega
theorem one_le (c : Bool) (e : Int) : (if c then [] else [e] : List Int).length ≤ 1 := by cases c <;> simp
/-! a flight's -/
def wCarrier : Bs := [99, 97, 114, 114, 105, 101, 114]
def wNumber : Bs := [110, 117, 109, 98, 101, 114]
def wPeriod : Bs := [112, 101, 114, 105, 111, 100]
def wLegs : Bs := [108, 101, 103, 115]
def wLeg : Bs := [108, 101, 103, 32]
def wDay : Bs := [100, 97, 121, 32]
def headG (f : Fl) : List Ft := ((if carrierB f.car then [] else [(5, wCarrier)]) ++ (if !(decide (f.num < 1) || decide (f.num > 9999)) then [] else [(2, wNumber)])) ++ (if perE f.fr f.to f.days != 0 then [(perE f.fr f.to f.days, wPeriod)] else [])
def headF (f : Fl) : List Ft := headG f ++ (if decide ((f.legs.length : Int) < 1) || decide ((f.legs.length : Int) > 6) then [(4, wLegs)] else [])
def legsFt (p : Pc) : List Lg → List Lg → List Ft
  | _, [] => []
  | q, x :: t => (legE p q x).map (fun e => (e, wLeg ++ Lib.itoa (q.length : Int))) ++ legsFt p (q ++ [x]) t
def dayFt (p : Pc) (l : List Lg) : List Int → List Ft
  | [] => []
  | d :: r => if ordF p l d then dayFt p l r else [(13, wDay ++ dateS d)]
def checkF (p : Pc) (f : Fl) : List Ft :=
  if f.legs.length < 1 ∨ f.legs.length > 6 then headF f else
  if headG f ++ legsFt p [] f.legs = [] then dayFt p f.legs (daysF f.fr f.to f.days) else headG f ++ legsFt p [] f.legs
theorem headG_len (f : Fl) : (headG f).length ≤ 3 := by
  have h : ∀ (c : Bool) (e : Ft), (if c then [] else [e] : List Ft).length ≤ 1 := fun c e => by cases c <;> simp
  have h' : ∀ (c : Bool) (e : Ft), (if c then [e] else [] : List Ft).length ≤ 1 := fun c e => by cases c <;> simp
  unfold headG
  rw [List.length_append, List.length_append]
  have := h (carrierB f.car) (5, wCarrier)
  have := h (!(decide (f.num < 1) || decide (f.num > 9999))) (2, wNumber)
  have := h' (perE f.fr f.to f.days != 0) (perE f.fr f.to f.days, wPeriod)
  omega
theorem r07_head_ret (f : Fl) (hc : f.car.length ≤ 281474976710656) : Ret lb F_r07_head [flcv f] (.list (headF f).isEmpty ((headF f).map ftenc)) := by
  have h1' : ∀ (c : Bool) (e : Ft), (if c then [] else [e] : List Ft).length ≤ 1 := fun c e => by cases c <;> simp
  refine .top rfl (Evt.imp2 (r01_Carrier_ret lb f.car (by omega)) (r04_Check_ret lb f.fr f.to f.days) fun n a1 a2 => ?_)
  rw [r07_head_eq, a1]
  simp only [optO_s, asI_i, asB_b, asS_s, asL_l, asA_a, asT_t, get0, get1, get2, get3, chkO_t, cond_true, cond_false, List.length_cons, List.length_nil, Nat.zero_add, Nat.reduceAdd, Nat.reduceBEq, beq_self_eq_true, isCell_str, isCell_int]
  refine (acc_if0 (enc := ftenc) (carrierB f.car) (5, wCarrier) _).trans ?_
  rw [r07_head_J1_eq, bif_or]
  refine (acc_ift (enc := ftenc) _ _ (2, wNumber) 24 (by decide) (by have := h1' (carrierB f.car) (5, wCarrier); omega) _).trans ?_
  rw [r07_head_J2_eq, a2]
  simp only [optO_s, asI_i, asB_b, asS_s, asL_l, asA_a, asT_t, get0, get1, get2, get3, chkO_t, cond_true, cond_false, List.length_cons, List.length_nil, Nat.zero_add, Nat.reduceAdd, Nat.reduceBEq, beq_self_eq_true, isCell_str, isCell_int]
  have e2 : (if decide (f.num < 1) || decide (f.num > 9999) then [(2, wNumber)] else []) = (if !(decide (f.num < 1) || decide (f.num > 9999)) then [] else [((2, wNumber) : Ft)]) := by
    cases (decide (f.num < 1) || decide (f.num > 9999)) <;> rfl
  rw [e2]
  refine (acc_ift (enc := ftenc) _ _ (perE f.fr f.to f.days, wPeriod) 24 (by decide) (by
    have := h1' (carrierB f.car) (5, wCarrier)
    have := h1' (!(decide (f.num < 1) || decide (f.num > 9999))) (2, wNumber)
    rw [List.length_append]; omega) _).trans ?_
  rw [r07_head_J3_eq, bif_or, List.length_map]
  exact (acc_ift (enc := ftenc) _ _ (4, wLegs) 24 (by decide) (by have := headG_len f; unfold headG at this; omega) (fun b l => some (.list b l)))
end Go.Proofs
