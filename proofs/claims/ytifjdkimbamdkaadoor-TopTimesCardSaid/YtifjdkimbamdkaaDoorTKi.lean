/- Chapter 6 on plain data: the faults of distances and of places; chapter 7: which flights are big. Conditions: as each says. -/
import Derived.Test.YtifjdkimbamdkaaDoorTKh
set_option linter.unusedSimpArgs false
namespace Go.Proofs
open Go.Am
variable (lb : Bool)
def townA (s : Bs) : List Ap → Option Ap
  | [] => none
  | a :: t => if a.city = s then some a else townA s t
def townR (s : Bs) (l : List Ap) : CV := .tup [.agg (apcv ((townA s l).getD ap0)), .bool (townA s l).isSome]
theorem r06_town_ret (p : Pc) (s : Bs) (hp : p.aps.length ≤ 281474976710656) : Ret lb F_r06_town [pcv p, .str s] (townR s p.aps) := by
  refine .top rfl (.eq (fun n => by rw [r06_town_eq]) ?_)
  refine Evt.diag (m := p.aps.length) (loopL (enc := apcv) (l := p.aps) hp (P := fun q t n k => r06_town_L1 lb n k p.an (p.aps.map apcv) p.dn (p.dis.map dicv) s (q.length : Int) = some (townR s t)) ?_ ?_ p.aps [] rfl)
  · refine .all fun n k => ?_
    rw [r06_town_L1_succ, decF (by simp), cond_false, r06_town_J2_eq]
    rfl
  · intro q x t hq hlt hat hw hev
    refine hev.mono fun n hn k hk => ?_
    have hn := hn k hk
    rw [r06_town_L1_succ, decT hlt, cond_true]
    simp only [hat, apcv, optO_s, asI_i, asB_b, asS_s, asL_l, asA_a, asT_t, get0, get1, get2, get3, chkO_t, cond_true, cond_false, List.length_cons, List.length_nil, Nat.zero_add, Nat.reduceAdd, Nat.reduceBEq, beq_self_eq_true, isCell_str, isCell_int, get4, hw]
    unfold townR townA
    by_cases h : x.city = s
    · rw [show (x.city == s) = true by simpa using h, cond_true, if_pos h]
      rfl
    · rw [show (x.city == s) = false by simpa using h, cond_false, if_neg h]
      exact hn
def miB (m : Int) : Bool := decide (1 ≤ m ∧ m ≤ 20000)
theorem r06_Usable_ret (d : Di) : Ret lb F_r06_Usable [.agg (dicv d)] (.bool (miB d.mi)) := by
  refine .top rfl (.all fun n => ?_)
  rw [dicv, r06_Usable_eq]
  unfold miB
  by_cases h : d.mi ≥ 1
  · rw [decT h, cond_true]
    congr 2
    exact decide_eq_decide.2 ⟨fun q => ⟨h, q⟩, fun q => q.2⟩
  · rw [decF h, cond_false, decF (by omega)]
def sameD (x y : Di) : Bool := (y.fro == x.fro && y.to == x.to) || (y.fro == x.to && y.to == x.fro)
def disE (aps : List Ap) (q : List Di) (x : Di) : List Int :=
  ((if (townA x.fro aps).isSome && (townA x.to aps).isSome then [] else [14]) ++ (if q.any (sameD x) then [6] else [])) ++ (if !miB x.mi || x.fro == x.to then [2] else [])
theorem disE_len (aps : List Ap) (q : List Di) (x : Di) : (disE aps q x).length ≤ 3 := by
  have h : ∀ (c : Bool) (e : Int), (if c then [e] else [] : List Int).length ≤ 1 := fun c e => by cases c <;> simp
  unfold disE
  rw [List.length_append, List.length_append]
  have := one_le ((townA x.fro aps).isSome && (townA x.to aps).isSome) 14
  have := h (q.any (sameD x)) 6
  have := h (!miB x.mi || x.fro == x.to) 2
  omega
theorem dis_J4 (n : Nat) (aairn1 : Bool) (aair2 : List (List CV)) (adisn3 : Bool) (adis4 : List (List CV)) (b5 : Int) (x15 : CV) (x27 : CV) (b98 : Bool) (i99 : Int) (c6 : List CV) (x7 : CV) (x9 : CV) (x10 : CV) (r11 : CV) (x13 : CV) (r23 : CV) (x25 : CV) (x18 : CV) (x19 : CV) (x20 : CV) (x21 : CV) (x22 : CV) (x29 : CV) (x30 : CV) (x31 : CV) (x33 : CV) (x34 : CV) (E : List Int) (hE : E.length ≤ 1000) (d : Di) (h7 : x7 = .str d.fro) (h9 : x9 = .str d.to) (h10 : x10 = .int .i64 d.mi) (h : C lb n F_r06_Usable [.agg (dicv d)] = some (.bool (miB d.mi))) :
    r06_distance_J4 lb n aairn1 aair2 adisn3 adis4 b5 x15 x27 b98 i99 c6 x7 x9 x10 r11 x13 r23 x25 x18 x19 x20 x21 x22 x29 x30 x31 x33 x34 E.isEmpty (E.map ienc) = some (.list (E ++ if !miB d.mi || d.fro == d.to then [2] else []).isEmpty ((E ++ if !miB d.mi || d.fro == d.to then [2] else []).map ienc)) := by
  subst h7; subst h9; subst h10
  rw [r06_distance_J4_eq]
  refine stO _ h (stO _ rfl ?_)
  have e : ∀ x y : Option CV, (bif !miB d.mi then x else optO (CV.asS (.str d.fro)) fun s104 => optO (CV.asS (.str d.to)) fun s105 => bif s104 == s105 then x else y) = (bif !miB d.mi || d.fro == d.to then x else y) := fun x y => by
    cases miB d.mi <;> rfl
  refine (e _ _).trans ?_
  exact acc_ift (enc := ienc) (!miB d.mi || d.fro == d.to) E 2 8 (by decide) (by omega) (fun b l => some (.list b l))
theorem dis_J3 (n : Nat) (aairn1 : Bool) (aair2 : List (List CV)) (adisn3 : Bool) (adis4 : List (List CV)) (b5 : Int) (b36 : Bool) (l37 : List (List CV)) (x15 : CV) (x27 : CV) (c6 : List CV) (x7 : CV) (x9 : CV) (x10 : CV) (r11 : CV) (x13 : CV) (r23 : CV) (x25 : CV) (x18 : CV) (x19 : CV) (x20 : CV) (x21 : CV) (x22 : CV) (x29 : CV) (x30 : CV) (x31 : CV) (x33 : CV) (x34 : CV) (b98 : Bool) (i99 : Int) (E : List Int) (hE : E.length ≤ 100) (hb : b36 = E.isEmpty) (hl : l37 = E.map ienc) (d : Di) (h7 : x7 = .str d.fro) (h9 : x9 = .str d.to) (h10 : x10 = .int .i64 d.mi) (h : C lb n F_r06_Usable [.agg (dicv d)] = some (.bool (miB d.mi))) :
    r06_distance_J3 lb n aairn1 aair2 adisn3 adis4 b5 b36 l37 x15 x27 c6 x7 x9 x10 r11 x13 r23 x25 x18 x19 x20 x21 x22 x29 x30 x31 x33 x34 b98 i99 = some (.list ((E ++ if b98 then [6] else []) ++ if !miB d.mi || d.fro == d.to then [2] else []).isEmpty (((E ++ if b98 then [6] else []) ++ if !miB d.mi || d.fro == d.to then [2] else []).map ienc)) := by
  subst hb; subst hl
  have o : ∀ (c : Bool) (e : Int), (if c then [e] else [] : List Int).length ≤ 1 := fun c e => by cases c <;> simp
  rw [r06_distance_J3_eq]
  refine (acc_ift (enc := ienc) b98 E 6 8 (by decide) (by omega) _).trans ?_
  have hl1 : (E ++ if b98 then [6] else []).length ≤ 101 := by rw [List.length_append]; have := o b98 6; omega
  generalize (E ++ if b98 then [6] else []) = E1 at hl1
  exact dis_J4 lb (hE := by omega) (d := d) (h7 := h7) (h9 := h9) (h10 := h10) (h := h) ..
theorem dis_L2 (p : Pc) (q t : List Di) (x : Di) (h : q ++ x :: t = p.dis) (hl : p.dis.length ≤ 1000) (n : Nat) (aairn1 : Bool) (aair2 : List (List CV)) (adisn3 : Bool) (adis4 : List (List CV)) (b5 : Int) (b36 : Bool) (l37 : List (List CV)) (x15 : CV) (x27 : CV) (c6 : List CV) (x7 : CV) (x9 : CV) (x10 : CV) (r11 : CV) (x13 : CV) (r23 : CV) (x25 : CV) (x18 : CV) (x19 : CV) (x20 : CV) (x21 : CV) (x22 : CV) (x29 : CV) (x30 : CV) (x31 : CV) (x33 : CV) (x34 : CV) (ha : adis4 = p.dis.map dicv) (hb : b5 = (q.length : Int)) (h7 : x7 = .str x.fro) (h9 : x9 = .str x.to) :
    ∀ (s r : List Di) (tw : Bool) (k : Nat), r ++ s = q → s.length < k →
      r06_distance_L2 lb n k aairn1 aair2 adisn3 adis4 b5 b36 l37 x15 x27 c6 x7 x9 x10 r11 x13 r23 x25 x18 x19 x20 x21 x22 x29 x30 x31 x33 x34 tw (r.length : Int) = r06_distance_J3 lb n aairn1 aair2 adisn3 adis4 b5 b36 l37 x15 x27 c6 x7 x9 x10 r11 x13 r23 x25 x18 x19 x20 x21 x22 x29 x30 x31 x33 x34 (tw || s.any (sameD x)) (q.length : Int) := by
  subst h7; subst h9; subst hb; subst ha
  intro s
  induction s with
  | nil =>
    intro r tw k hr hk
    obtain ⟨k, rfl⟩ : ∃ m, k = m + 1 := ⟨k - 1, by simp at hk; omega⟩
    have hr : r = q := by simpa using hr
    subst hr
    rw [r06_distance_L2_succ, decF (by omega), cond_false]
    simp
  | cons y s ih =>
    intro r tw k hr hk
    obtain ⟨k, rfl⟩ : ∃ m, k = m + 1 := ⟨k - 1, by simp at hk; omega⟩
    have hql : q.length = r.length + (s.length + 1) := by rw [← hr]; simp
    have hpl : p.dis.length = q.length + (t.length + 1) := by rw [← h]; simp
    have hat : atL (p.dis.map dicv) (r.length : Int) = some (dicv y) := atL_ok (by rw [← h, ← hr]; simp)
    have hw : IntKind.wrap .i64 ((r.length : Int) + 1) = ((r ++ [y]).length : Int) := by rw [wrap64 (by omega) (by omega)]; simp
    have ih := fun tw => ih (r ++ [y]) tw k (by rw [← hr]; simp) (by simp at hk; omega)
    rw [r06_distance_L2_succ]
    refine stT (decT (by omega)) ?_
    rw [hw]
    simp only [hat, dicv, optO_s, asI_i, asB_b, asS_s, asL_l, asA_a, asT_t, get0, get1, get2, get3, chkO_t, cond_true, cond_false, List.length_cons, List.length_nil, Nat.zero_add, Nat.reduceAdd, Nat.reduceBEq, beq_self_eq_true, isCell_str, isCell_int, List.any_cons]
    unfold sameD at ih ⊢
    cases tw with
    | true =>
      simp only [cond_true, Bool.true_or]
      rw [ih]; simp
    | false =>
      simp only [cond_false, Bool.false_or]
      cases (y.fro == x.fro) with
      | true =>
        simp only [cond_true, Bool.true_and]
        cases (y.to == x.to) with
        | true =>
          simp only [cond_true, Bool.true_or]
          rw [ih]; simp
        | false =>
          simp only [cond_false, Bool.false_or]
          cases (y.fro == x.to) with
          | true =>
            simp only [cond_true, Bool.true_and]
            rw [ih]
          | false =>
            simp only [cond_false, Bool.false_and, Bool.false_or]
            rw [ih]; simp
      | false =>
        simp only [cond_false, Bool.false_and, Bool.false_or]
        cases (y.fro == x.to) with
        | true =>
          simp only [cond_true, Bool.true_and]
          rw [ih]
        | false =>
          simp only [cond_false, Bool.false_and, Bool.false_or]
          rw [ih]; simp
theorem r06_distance_ret (p : Pc) (q t : List Di) (x : Di) (h : q ++ x :: t = p.dis) (hl : p.dis.length ≤ 1000) (hp : p.aps.length ≤ 281474976710656) :
    Ret lb F_r06_distance [pcv p, .int .i64 (q.length : Int)] (.list (disE p.aps q x).isEmpty ((disE p.aps q x).map ienc)) := by
  have hat : atL (p.dis.map dicv) (q.length : Int) = some (dicv x) := atL_ok (by rw [← h]; simp)
  have hpl : p.dis.length = q.length + (t.length + 1) := by rw [← h]; simp
  refine .top rfl (Evt.imp2 (Evt.imp2 (r06_town_ret lb p x.fro hp) (r06_town_ret lb p x.to hp) fun n a b => And.intro a b) (Evt.and (r06_Usable_ret lb x) (Evt.ge (q.length + 1))) fun n hc hz => ?_)
  obtain ⟨a1, a2⟩ := hc
  obtain ⟨hz, hn⟩ := hz
  rw [r06_distance_eq]
  refine stO _ hat (stC rfl (stO _ rfl (stO _ rfl (stO _ rfl (stO _ a1 (stO _ rfl (stO _ rfl (stO _ rfl (stO _ rfl (stO _ rfl (stC rfl (stO _ rfl (stO _ rfl (stO _ rfl (stO _ rfl (stO _ rfl (stO _ a2 (stO _ rfl (stO _ rfl (stO _ rfl (stO _ rfl (stO _ rfl (stC rfl (stO _ rfl (stO _ rfl (stO _ rfl (stO _ rfl (stO _ rfl (stO _ rfl ?_)))))))))))))))))))))))))))))
  have fin : ∀ (E : List Int), E.length ≤ 10 → ∀ x15 x27 r11 x13 r23 x25 x18 x19 x20 x21 x22 x29 x30 x31 x33 x34, r06_distance_J1 lb n p.an (p.aps.map apcv) p.dn (p.dis.map dicv) (q.length : Int) x15 x27 (dicv x) (.str x.fro) (.str x.to) (.int .i64 x.mi) r11 x13 r23 x25 x18 x19 x20 x21 x22 x29 x30 x31 x33 x34 E.isEmpty (E.map ienc) =
      some (.list ((E ++ if q.any (sameD x) then [6] else []) ++ if !miB x.mi || x.fro == x.to then [2] else []).isEmpty (((E ++ if q.any (sameD x) then [6] else []) ++ if !miB x.mi || x.fro == x.to then [2] else []).map ienc)) := by
    intro E hE x15 x27 r11 x13 r23 x25 x18 x19 x20 x21 x22 x29 x30 x31 x33 x34
    rw [r06_distance_J1_eq]
    refine (dis_L2 lb p q t x h hl _ _ _ _ _ _ _ _ _ _ _ _ _ _ _ _ _ _ _ _ _ _ _ _ _ _ _ _ rfl rfl rfl rfl q [] false n rfl (by omega)).trans ?_
    rw [Bool.false_or]
    exact dis_J3 lb (hE := by omega) (hb := rfl) (hl := rfl) (d := x) (h7 := rfl) (h9 := rfl) (h10 := rfl) (h := hz) ..
  unfold disE
  cases (townA x.fro p.aps).isSome with
  | false => exact stT rfl (fin [14] (by simp) ..)
  | true =>
    refine stF rfl (stO _ rfl ?_)
    cases (townA x.to p.aps).isSome with
    | false => exact stT rfl (fin [14] (by simp) ..)
    | true => exact stF rfl (fin [] (by simp) ..)

/-! places -/
def wAirport : Bs := [97, 105, 114, 112, 111, 114, 116, 32]
def wDistance : Bs := [100, 105, 115, 116, 97, 110, 99, 101, 32]
def airsFt : List Ap → List Ap → List Ft
  | _, [] => []
  | q, x :: t => (airE q x).map (fun e => (e, wAirport ++ Lib.itoa (q.length : Int))) ++ airsFt (q ++ [x]) t
def dissFt (aps : List Ap) : List Di → List Di → List Ft
  | _, [] => []
  | q, x :: t => (disE aps q x).map (fun e => (e, wDistance ++ Lib.itoa (q.length : Int))) ++ dissFt aps (q ++ [x]) t
def placesF (p : Pc) : List Ft := airsFt [] p.aps ++ dissFt p.aps [] p.dis
theorem airsFt_app : ∀ (a r t : List Ap), airsFt r (a ++ t) = airsFt r a ++ airsFt (r ++ a) t
  | [], r, t => by simp [airsFt]
  | x :: a, r, t => by simp only [List.cons_append, airsFt, airsFt_app a (r ++ [x]) t, List.append_assoc, List.nil_append]
theorem airsFt_len : ∀ (t r : List Ap), (airsFt r t).length ≤ 4 * t.length
  | [], r => by simp [airsFt]
  | x :: t, r => by
    have := airsFt_len t (r ++ [x])
    have := airE_len r x
    simp only [airsFt, List.length_append, List.length_map, List.length_cons]
    omega
theorem airsFt_snoc (q : List Ap) (x : Ap) : airsFt [] (q ++ [x]) = airsFt [] q ++ (airE q x).map (fun e => (e, wAirport ++ Lib.itoa (q.length : Int))) := by
  rw [airsFt_app]; simp [airsFt]
theorem dissFt_app (aps : List Ap) : ∀ (a r t : List Di), dissFt aps r (a ++ t) = dissFt aps r a ++ dissFt aps (r ++ a) t
  | [], r, t => by simp [dissFt]
  | x :: a, r, t => by simp only [List.cons_append, dissFt, dissFt_app aps a (r ++ [x]) t, List.append_assoc, List.nil_append]
theorem dissFt_len (aps : List Ap) : ∀ (t r : List Di), (dissFt aps r t).length ≤ 3 * t.length
  | [], r => by simp [dissFt]
  | x :: t, r => by
    have := dissFt_len aps t (r ++ [x])
    have := disE_len aps r x
    simp only [dissFt, List.length_append, List.length_map, List.length_cons]
    omega
theorem dissFt_snoc (aps : List Ap) (q : List Di) (x : Di) : dissFt aps [] (q ++ [x]) = dissFt aps [] q ++ (disE aps q x).map (fun e => (e, wDistance ++ Lib.itoa (q.length : Int))) := by
  rw [dissFt_app]; simp [dissFt]
theorem pl_in6 (p : Pc) (i86 : Int) (i : Nat) (hi : i ≤ 1000) (E : List Int) (hE : E.length ≤ 1000) (F : List Ft) (hF : F.length ≤ 10000) (r : CV) :
    ∀ u q, q ++ u = E → Evt fun n => ∀ j k, u.length < j →
      r06_Check_L5 lb n k p.an (p.aps.map apcv) p.dn (p.dis.map dicv) i86 (F ++ E.map fun e => (e, wDistance ++ Lib.itoa (i : Int))).isEmpty ((F ++ E.map fun e => (e, wDistance ++ Lib.itoa (i : Int))).map ftenc) (IntKind.wrap .i64 ((i : Int) + 1)) = some r →
      r06_Check_L6 lb n j k p.an (p.aps.map apcv) p.dn (p.dis.map dicv) i86 (i : Int) (.list E.isEmpty (E.map ienc)) (F ++ q.map fun e => (e, wDistance ++ Lib.itoa (i : Int))).isEmpty ((F ++ q.map fun e => (e, wDistance ++ Lib.itoa (i : Int))).map ftenc) (q.length : Int) = some r
  | [], q, h => .all fun n j k hj hr => by
    obtain ⟨j, rfl⟩ : ∃ m, j = m + 1 := ⟨j - 1, by simp at hj; omega⟩
    have h : q = E := by simpa using h
    subst h
    rw [r06_Check_L6_succ]
    refine stO _ rfl (stF (decF (by simp)) ?_)
    rw [r06_Check_J7_eq]
    exact hr
  | e :: u, q, h => by
    have hq : E.length = q.length + (u.length + 1) := by rw [← h]; simp
    have hat : atL (E.map ienc) (q.length : Int) = some (ienc e) := atL_ok (by rw [← h]; simp)
    have hil := itoa_len (z := (i : Int)) (by omega) (by omega)
    refine (Evt.imp2 (pl_in6 p i86 i hi E hE F hF r u (q ++ [e]) (by rw [← h]; simp)) (r01_Decimal_ret lb (i : Int) (by omega) (by omega)) fun n h1 h2 => ?_)
    intro j k hj hr
    obtain ⟨j, rfl⟩ : ∃ m, j = m + 1 := ⟨j - 1, by simp at hj; omega⟩
    have h1 := h1 j k (by simp at hj; omega) hr
    rw [r06_Check_L6_succ]
    refine stO _ rfl (stT (decT (by simp; omega)) (stO _ rfl (stO _ hat (stC rfl (stO _ rfl (stO _ h2 (stO _ rfl (stC (decT (by simp; omega)) (stC rfl (stC (room_le (by simp; omega) (by omega)) ?_))))))))))
    rw [wrap64 (by omega) (by omega), show (q.length : Int) + 1 = ((q ++ [e]).length : Int) by simp, snoc_nil (F ++ q.map fun e => (e, wDistance ++ Lib.itoa (i : Int))) (e, wDistance ++ Lib.itoa (i : Int))]
    simpa [List.map_append, List.append_assoc, ftenc, wDistance] using h1
theorem pl_in2 (p : Pc) (i : Nat) (hi : i ≤ 1000) (E : List Int) (hE : E.length ≤ 1000) (F : List Ft) (hF : F.length ≤ 10000) (r : CV) :
    ∀ u q, q ++ u = E → Evt fun n => ∀ j k, u.length < j →
      r06_Check_L1 lb n k p.an (p.aps.map apcv) p.dn (p.dis.map dicv) (F ++ E.map fun e => (e, wAirport ++ Lib.itoa (i : Int))).isEmpty ((F ++ E.map fun e => (e, wAirport ++ Lib.itoa (i : Int))).map ftenc) (IntKind.wrap .i64 ((i : Int) + 1)) = some r →
      r06_Check_L2 lb n j k p.an (p.aps.map apcv) p.dn (p.dis.map dicv) (i : Int) (.list E.isEmpty (E.map ienc)) (F ++ q.map fun e => (e, wAirport ++ Lib.itoa (i : Int))).isEmpty ((F ++ q.map fun e => (e, wAirport ++ Lib.itoa (i : Int))).map ftenc) (q.length : Int) = some r
  | [], q, h => .all fun n j k hj hr => by
    obtain ⟨j, rfl⟩ : ∃ m, j = m + 1 := ⟨j - 1, by simp at hj; omega⟩
    have h : q = E := by simpa using h
    subst h
    rw [r06_Check_L2_succ]
    refine stO _ rfl (stF (decF (by simp)) ?_)
    rw [r06_Check_J3_eq]
    exact hr
  | e :: u, q, h => by
    have hq : E.length = q.length + (u.length + 1) := by rw [← h]; simp
    have hat : atL (E.map ienc) (q.length : Int) = some (ienc e) := atL_ok (by rw [← h]; simp)
    have hil := itoa_len (z := (i : Int)) (by omega) (by omega)
    refine (Evt.imp2 (pl_in2 p i hi E hE F hF r u (q ++ [e]) (by rw [← h]; simp)) (r01_Decimal_ret lb (i : Int) (by omega) (by omega)) fun n h1 h2 => ?_)
    intro j k hj hr
    obtain ⟨j, rfl⟩ : ∃ m, j = m + 1 := ⟨j - 1, by simp at hj; omega⟩
    have h1 := h1 j k (by simp at hj; omega) hr
    rw [r06_Check_L2_succ]
    refine stO _ rfl (stT (decT (by simp; omega)) (stO _ rfl (stO _ hat (stC rfl (stO _ rfl (stO _ h2 (stO _ rfl (stC (decT (by simp; omega)) (stC rfl (stC (room_le (by simp; omega) (by omega)) ?_))))))))))
    rw [wrap64 (by omega) (by omega), show (q.length : Int) + 1 = ((q ++ [e]).length : Int) by simp, snoc_nil (F ++ q.map fun e => (e, wAirport ++ Lib.itoa (i : Int))) (e, wAirport ++ Lib.itoa (i : Int))]
    simpa [List.map_append, List.append_assoc, ftenc, wAirport] using h1
theorem pl_dis (p : Pc) (h1 : p.aps.length ≤ 1000) (h2 : p.dis.length ≤ 1000) (i86 : Int) (F : List Ft) (hF : F.length ≤ 5000) : Evt fun n => r06_Check_L5 lb n n p.an (p.aps.map apcv) p.dn (p.dis.map dicv) i86 F.isEmpty (F.map ftenc) 0 = some (lstFt (F ++ dissFt p.aps [] p.dis)) := by
  have key := loopL (enc := dicv) (l := p.dis) (by omega) (P := fun q t n k => r06_Check_L5 lb n k p.an (p.aps.map apcv) p.dn (p.dis.map dicv) i86 (F ++ dissFt p.aps [] q).isEmpty ((F ++ dissFt p.aps [] q).map ftenc) (q.length : Int) = some (lstFt (F ++ dissFt p.aps [] p.dis))) (by
    refine .all fun n k => ?_
    rw [r06_Check_L5_succ]
    refine stF (decF (by simp)) ?_
    rw [r06_Check_J8_eq]
    rfl) (by
    intro q x t hq hlt hat hw hev
    have hll : p.dis.length = q.length + (t.length + 1) := by rw [← hq]; simp
    have hFl : (F ++ dissFt p.aps [] q).length ≤ 10000 := by rw [List.length_append]; have := dissFt_len p.aps q []; omega
    have hlE := disE_len p.aps q x
    have inner := pl_in6 lb p i86 q.length (by omega) (disE p.aps q x) (by omega) (F ++ dissFt p.aps [] q) hFl (lstFt (F ++ dissFt p.aps [] p.dis)) (disE p.aps q x) [] rfl
    refine Evt.imp2 hev (Evt.imp2 (inner.and (Evt.ge 5)) (r06_distance_ret lb p q t x hq h2 (by omega)) fun n a b => And.intro a b) fun n hn hc k hk => ?_
    obtain ⟨⟨a1, a2⟩, a3⟩ := hc
    have hn := hn k hk
    rw [r06_Check_L5_succ]
    refine stT (decT hlt) (stO _ a3 ?_)
    rw [dissFt_snoc, ← List.append_assoc] at hn
    have a1 := a1 n k (by omega) (by rw [hw]; exact hn)
    simpa using a1) p.dis [] rfl
  refine (Evt.diag key).mono fun n hn => ?_
  simpa [dissFt] using hn
theorem r06_Check_ret (p : Pc) (h1 : p.aps.length ≤ 1000) (h2 : p.dis.length ≤ 1000) (hs : ∀ a ∈ p.aps, a.code.length ≤ 281474976710656 ∧ a.city.length ≤ 281474976710656 ∧ a.ctry.length ≤ 281474976710656) : Ret lb F_r06_Check [pcv p] (lstFt (placesF p)) := by
  refine .top rfl (.eq (fun n => by rw [r06_Check_eq]) ?_)
  have key := loopL (enc := apcv) (l := p.aps) (by omega) (P := fun q t n k => r06_Check_L1 lb n k p.an (p.aps.map apcv) p.dn (p.dis.map dicv) (airsFt [] q).isEmpty ((airsFt [] q).map ftenc) (q.length : Int) = some (lstFt (placesF p))) (by
    have hF := airsFt_len p.aps []
    refine (pl_dis lb p h1 h2 (p.aps.length : Int) (airsFt [] p.aps) (by omega)).mono fun n hn k => ?_
    rw [r06_Check_L1_succ]
    refine stF (decF (by simp)) ?_
    rw [r06_Check_J4_eq]
    exact hn) (by
    intro q x t hq hlt hat hw hev
    have hll : p.aps.length = q.length + (t.length + 1) := by rw [← hq]; simp
    have hFl : (airsFt [] q).length ≤ 10000 := by have := airsFt_len q []; omega
    have hlE := airE_len q x
    obtain ⟨b1, b2, b3⟩ := hs x (by rw [← hq]; simp)
    have inner := pl_in2 lb p q.length (by omega) (airE q x) (by omega) (airsFt [] q) hFl (lstFt (placesF p)) (airE q x) [] rfl
    refine Evt.imp2 hev (Evt.imp2 (inner.and (Evt.ge 5)) (r06_airport_ret lb p q t x hq h1 b1 b2 b3) fun n a b => And.intro a b) fun n hn hc k hk => ?_
    obtain ⟨⟨a1, a2⟩, a3⟩ := hc
    have hn := hn k hk
    rw [r06_Check_L1_succ]
    refine stT (decT hlt) (stO _ a3 ?_)
    rw [airsFt_snoc] at hn
    have a1 := a1 n k (by omega) (by rw [hw]; exact hn)
    simpa using a1) p.aps [] rfl
  exact Evt.diag key
/-- valid places -/
theorem placesF_zone {p : Pc} (h : placesF p = []) : ∀ a ∈ p.aps, zoneE a.off a.sh = 0 := by
  have h1 : airsFt [] p.aps = [] := (List.append_eq_nil_iff.1 h).1
  have gen : ∀ (t r : List Ap), airsFt r t = [] → ∀ a ∈ t, zoneE a.off a.sh = 0 := by
    intro t
    induction t with
    | nil => intro r _ a ha; cases ha
    | cons x t ih =>
      intro r hr a ha
      simp only [airsFt] at hr
      obtain ⟨h2, h3⟩ := List.append_eq_nil_iff.1 hr
      rcases List.mem_cons.1 ha with rfl | ha
      · have : airE r a = [] := by simpa using h2
        unfold airE at this
        have := (List.append_eq_nil_iff.1 this).2
        by_cases hz : zoneE a.off a.sh = 0
        · exact hz
        · rw [if_pos (bneT hz)] at this
          cases this
      · exact ih _ h3 a ha
  exact gen _ _ h1
theorem placesF_shifts {p : Pc} (h1 : p.aps.length ≤ 1000) (h : placesF p = []) : Shifts p := ⟨by omega, fun a ha => by
  have := placesF_zone h a ha
  unfold zoneE at this
  split at this
  · omega
  · omega⟩

/-! which flights are big -/
def lgLen (x : Lg) : Nat := x.fro.length + x.to.length + x.eq.length
def bigB (p : Pc) (f : Fl) : Bool := decide (f.car.length + ((f.legs.take 20).map lgLen).sum > 400) || (decide (f.legs.length > 12) || (decide (p.aps.length > 20) || decide (p.dis.length > 40)))
theorem sum_ge : ∀ {l : List Nat} {x : Nat}, x ∈ l → x ≤ l.sum
  | y :: l, x, h => by
    rw [List.sum_cons]
    rcases List.mem_cons.1 h with rfl | h
    · omega
    · have := sum_ge h; omega
theorem bigB_false {p : Pc} {f : Fl} (h : bigB p f = false) : f.car.length ≤ 400 ∧ (∀ x ∈ f.legs, x.fro.length ≤ 400 ∧ x.to.length ≤ 400 ∧ x.eq.length ≤ 400) ∧ f.legs.length ≤ 12 ∧ p.aps.length ≤ 20 ∧ p.dis.length ≤ 40 := by
  unfold bigB at h
  simp only [Bool.or_eq_false_iff, decide_eq_false_iff_not] at h
  obtain ⟨h1, h2, h3, h4⟩ := h
  rw [List.take_of_length_le (by omega)] at h1
  refine ⟨by omega, fun x hx => ?_, by omega, by omega, by omega⟩
  have : lgLen x ≤ (f.legs.map lgLen).sum := sum_ge (List.mem_map_of_mem hx)
  have e : lgLen x = x.fro.length + x.to.length + x.eq.length := rfl
  omega
end Go.Proofs
