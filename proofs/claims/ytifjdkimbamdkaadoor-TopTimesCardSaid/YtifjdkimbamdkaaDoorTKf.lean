/- Chapter 7 on plain data: Check, by the program and by its reference. Conditions: as each says. -/
import Derived.Test.YtifjdkimbamdkaaDoorTKe
import Derived.Test.YtifjdkimbamdkaaDoorTRn
set_option linter.unusedSimpArgs false
namespace Go.Proofs
open Go.Am
variable (lb : Bool)
theorem ft_le (c : Bool) (e : Ft) : (if c then [e] else [] : List Ft).length ≤ 1 := by cases c <;> simp
theorem ft_le' (c : Bool) (e : Ft) : (if c then [] else [e] : List Ft).length ≤ 1 := by cases c <;> simp
def lstFt (F : List Ft) : CV := .list F.isEmpty (F.map ftenc)
theorem legsFt_app (p : Pc) : ∀ (a r t : List Lg), legsFt p r (a ++ t) = legsFt p r a ++ legsFt p (r ++ a) t
  | [], r, t => by simp [legsFt]
  | x :: a, r, t => by
    simp only [List.cons_append, legsFt, legsFt_app p a (r ++ [x]) t, List.append_assoc, List.nil_append]
theorem legsFt_len (p : Pc) : ∀ (t r : List Lg), (legsFt p r t).length ≤ 4 * t.length
  | [], r => by simp [legsFt]
  | x :: t, r => by
    have := legsFt_len p t (r ++ [x])
    have := legE_len p r x
    simp only [legsFt, List.length_append, List.length_map, List.length_cons]
    omega
theorem legsFt_snoc (p : Pc) (q : List Lg) (x : Lg) : legsFt p [] (q ++ [x]) = legsFt p [] q ++ (legE p q x).map (fun e => (e, wLeg ++ Lib.itoa (q.length : Int))) := by
  rw [legsFt_app]
  simp [legsFt]
theorem upto_mem {fr days d : Int} : ∀ {k : Nat}, d ∈ upto fr days k → fr ≤ d ∧ d < fr + k
  | 0, h => by cases h
  | k + 1, h => by
    simp only [upto, List.mem_append] at h
    rcases h with h | h
    · have := upto_mem h; omega
    · split at h
      · have : d = fr + k := by simpa using h
        omega
      · cases h
theorem daysF_mem {fr to days d : Int} (h : d ∈ daysF fr to days) : 0 ≤ d ∧ d < 36525 ∧ hasF fr to days d = true := by
  unfold daysF at h
  split at h
  · rename_i h0
    obtain ⟨a0, a1, a2, a3, a4, a5⟩ := perE_0 h0
    have hm := upto_mem h
    refine ⟨by omega, by omega, ?_⟩
    have on : ∀ {k : Nat}, d ∈ upto fr days k → onF days d = true := by
      intro k
      induction k with
      | zero => intro h; cases h
      | succ k ih =>
        intro h
        simp only [upto, List.mem_append] at h
        rcases h with h | h
        · exact ih h
        · split at h
          · have : d = fr + k := by simpa using h
            rw [this]; assumption
          · cases h
    unfold hasF
    rw [decT h0, decT (by omega), decT (by omega), on h]
    rfl
  · cases h
theorem daysF_len (fr to days : Int) : (daysF fr to days).length ≤ 800 := by
  unfold daysF
  split
  · rename_i h0
    obtain ⟨a0, a1, a2, a3, a4, a5⟩ := perE_0 h0
    have := upto_le fr days (to + 1 - fr).toNat
    omega
  · simp
theorem ordF_legs (p : Pc) (f : Fl) (d : Int) : ordG true 0 ((legsF p f d).map fun x => (x.dep, x.arr)) = ordF p f.legs d := by
  unfold ordF legsF
  rw [List.map_map]
  rfl

/-! the reference's -/
theorem rc_J4 (n : Nat) (k362 : Nat) (aairn1 : Bool) (aair2 : List (List CV)) (adisn3 : Bool) (adis4 : List (List CV)) (bcar5 : List UInt8) (bnum6 : Int) (bperfro7 : Int) (bperto9 : Int) (bperday10 : Int) (blegn11 : Bool) (bleg12 : List (List CV)) (i243 : Int) (s370 : List UInt8) (x379 : CV) (x390 : CV) (p14 : Bool × List (List CV)) (c363 : List CV) (x364 : CV) (x365 : CV) (x366 : CV) (x367 : CV) (x368 : CV) (r369 : CV) (r375 : CV) (x377 : CV) (r386 : CV) (x388 : CV) (x381 : CV) (x382 : CV) (x383 : CV) (x384 : CV) (x385 : CV) (x392 : CV) (x393 : CV) (x394 : CV) (x395 : CV) (x396 : CV) (F : List Ft) (hF : F.length ≤ 1000) (d a : Bool) (h1 : C lb n F_r07_out [x366] = some (.bool d)) (h2 : C lb n F_r07_out [x367] = some (.bool a)) :
    r07_Check_J4 lb n k362 aairn1 aair2 adisn3 adis4 bcar5 bnum6 bperfro7 bperto9 bperday10 blegn11 bleg12 i243 s370 x379 x390 p14 c363 x364 x365 x366 x367 x368 r369 r375 x377 r386 x388 x381 x382 x383 x384 x385 x392 x393 x394 x395 x396 F.isEmpty (F.map ftenc) = r07_Check_L1 lb n k362 aairn1 aair2 adisn3 adis4 bcar5 bnum6 bperfro7 bperto9 bperday10 blegn11 bleg12 p14 (F ++ if d || a then [(2, wLeg ++ s370)] else []).isEmpty ((F ++ if d || a then [(2, wLeg ++ s370)] else []).map ftenc) (IntKind.wrap .i64 (i243 + 1)) := by
  rw [r07_Check_J4_eq, h1, h2]
  simp only [optO_s, asI_i, asB_b, asS_s, asL_l, asA_a, asT_t, get0, get1, get2, get3, chkO_t, cond_true, cond_false, List.length_cons, List.length_nil, Nat.zero_add, Nat.reduceAdd, Nat.reduceBEq, beq_self_eq_true, isCell_str, isCell_int]
  rw [bif_or]
  exact acc_ift (enc := ftenc) (d || a) F (2, wLeg ++ s370) 24 (by decide) (by omega) (fun b l => r07_Check_L1 lb n k362 aairn1 aair2 adisn3 adis4 bcar5 bnum6 bperfro7 bperto9 bperday10 blegn11 bleg12 p14 b l (IntKind.wrap .i64 (i243 + 1)))
theorem rc_J3 (n : Nat) (k362 : Nat) (aairn1 : Bool) (aair2 : List (List CV)) (adisn3 : Bool) (adis4 : List (List CV)) (bcar5 : List UInt8) (bnum6 : Int) (bperfro7 : Int) (bperto9 : Int) (bperday10 : Int) (blegn11 : Bool) (bleg12 : List (List CV)) (i243 : Int) (s370 : List UInt8) (x379 : CV) (x390 : CV) (p14 : Bool × List (List CV)) (c363 : List CV) (x364 : CV) (x365 : CV) (x366 : CV) (x367 : CV) (x368 : CV) (r369 : CV) (r375 : CV) (x377 : CV) (r386 : CV) (x388 : CV) (x381 : CV) (x382 : CV) (x383 : CV) (x384 : CV) (x385 : CV) (x392 : CV) (x393 : CV) (x394 : CV) (x395 : CV) (x396 : CV) (F : List Ft) (hF : F.length ≤ 900) (b d a : Bool) (h0 : C lb n F_r07_broken [.list blegn11 bleg12, .int .i64 i243] = some (.bool b)) (h1 : C lb n F_r07_out [x366] = some (.bool d)) (h2 : C lb n F_r07_out [x367] = some (.bool a)) :
    r07_Check_J3 lb n k362 aairn1 aair2 adisn3 adis4 bcar5 bnum6 bperfro7 bperto9 bperday10 blegn11 bleg12 i243 s370 x379 x390 p14 c363 x364 x365 x366 x367 x368 r369 r375 x377 r386 x388 x381 x382 x383 x384 x385 x392 x393 x394 x395 x396 F.isEmpty (F.map ftenc) = r07_Check_L1 lb n k362 aairn1 aair2 adisn3 adis4 bcar5 bnum6 bperfro7 bperto9 bperday10 blegn11 bleg12 p14 ((F ++ if b then [(15, wLeg ++ s370)] else []) ++ if d || a then [(2, wLeg ++ s370)] else []).isEmpty
      (((F ++ if b then [(15, wLeg ++ s370)] else []) ++ if d || a then [(2, wLeg ++ s370)] else []).map ftenc) (IntKind.wrap .i64 (i243 + 1)) := by
  rw [r07_Check_J3_eq, h0]
  simp only [optO_s, asI_i, asB_b, asS_s, asL_l, asA_a, asT_t, get0, get1, get2, get3, chkO_t, cond_true, cond_false, List.length_cons, List.length_nil, Nat.zero_add, Nat.reduceAdd, Nat.reduceBEq, beq_self_eq_true, isCell_str, isCell_int]
  refine (acc_ift (enc := ftenc) b F (15, wLeg ++ s370) 24 (by decide) (by omega) _).trans ?_
  have hl : (F ++ if b then [(15, wLeg ++ s370)] else []).length ≤ 1000 := by rw [List.length_append]; have := ft_le b (15, wLeg ++ s370); omega
  generalize (F ++ if b then [(15, wLeg ++ s370)] else []) = F1 at hl
  apply rc_J4
  · exact hl
  · exact h1
  · exact h2
theorem rc_J2 (n : Nat) (k362 : Nat) (aairn1 : Bool) (aair2 : List (List CV)) (adisn3 : Bool) (adis4 : List (List CV)) (bcar5 : List UInt8) (bnum6 : Int) (bperfro7 : Int) (bperto9 : Int) (bperday10 : Int) (blegn11 : Bool) (bleg12 : List (List CV)) (i243 : Int) (s370 : List UInt8) (p14 : Bool × List (List CV)) (c363 : List CV) (x364 : CV) (x365 : CV) (x366 : CV) (x367 : CV) (x368 : CV) (r369 : CV) (F : List Ft) (hF : F.length ≤ 800) (sa sb : Bs) (aps : List Ap) (b d a : Bool)
    (h3 : C lb n F_r06_Find [.agg [.list aairn1 aair2, .list adisn3 adis4], x364] = some (findR sa aps)) (h4 : C lb n F_r06_Find [.agg [.list aairn1 aair2, .list adisn3 adis4], x365] = some (findR sb aps))
    (h0 : C lb n F_r07_broken [.list blegn11 bleg12, .int .i64 i243] = some (.bool b)) (h1 : C lb n F_r07_out [x366] = some (.bool d)) (h2 : C lb n F_r07_out [x367] = some (.bool a)) :
    r07_Check_J2 lb n k362 aairn1 aair2 adisn3 adis4 bcar5 bnum6 bperfro7 bperto9 bperday10 blegn11 bleg12 i243 s370 p14 c363 x364 x365 x366 x367 x368 r369 F.isEmpty (F.map ftenc) = r07_Check_L1 lb n k362 aairn1 aair2 adisn3 adis4 bcar5 bnum6 bperfro7 bperto9 bperday10 blegn11 bleg12 p14
      (((F ++ if (findA sa aps).isSome && (findA sb aps).isSome then [] else [(14, wLeg ++ s370)]) ++ if b then [(15, wLeg ++ s370)] else []) ++ if d || a then [(2, wLeg ++ s370)] else []).isEmpty
      ((((F ++ if (findA sa aps).isSome && (findA sb aps).isSome then [] else [(14, wLeg ++ s370)]) ++ if b then [(15, wLeg ++ s370)] else []) ++ if d || a then [(2, wLeg ++ s370)] else []).map ftenc) (IntKind.wrap .i64 (i243 + 1)) := by
  rw [r07_Check_J2_eq]
  refine stO _ h3 (stO _ rfl (stO _ rfl (stO _ rfl (stO _ rfl (stO _ rfl (stC rfl (stO _ rfl (stO _ rfl (stO _ rfl (stO _ rfl (stO _ rfl (stO _ h4 (stO _ rfl (stO _ rfl (stO _ rfl (stO _ rfl (stO _ rfl (stC rfl (stO _ rfl (stO _ rfl (stO _ rfl (stO _ rfl (stO _ rfl (stO _ rfl ?_))))))))))))))))))))))))
  refine (bif_nand _ _ _ _).trans ?_
  refine (acc_if (enc := ftenc) ((findA sa aps).isSome && (findA sb aps).isSome) F (14, wLeg ++ s370) 24 (by decide) (by omega) _).trans ?_
  have hl : (F ++ if (findA sa aps).isSome && (findA sb aps).isSome then [] else [(14, wLeg ++ s370)]).length ≤ 900 := by rw [List.length_append]; have := ft_le' ((findA sa aps).isSome && (findA sb aps).isSome) (14, wLeg ++ s370); omega
  generalize (F ++ if (findA sa aps).isSome && (findA sb aps).isSome then [] else [(14, wLeg ++ s370)]) = F1 at hl
  apply rc_J3
  · exact hl
  · exact h0
  · exact h1
  · exact h2
theorem legE_map (p : Pc) (q : List Lg) (x : Lg) (s : Bs) : (legE p q x).map (fun e => (e, s)) =
    (((if codeB x.eq 3 3 then [] else [(5, s)]) ++ (if (findA x.fro p.aps).isSome && (findA x.to p.aps).isSome then [] else [(14, s)])) ++ (if brk q x then [(15, s)] else [])) ++ (if !okM x.dep || !okM x.arr then [((2, s) : Ft)] else []) := by
  unfold legE knownB
  cases codeB x.eq 3 3 <;> cases (findA x.fro p.aps).isSome && (findA x.to p.aps).isSome <;> cases brk q x <;> cases okM x.dep <;> cases okM x.arr <;> rfl
theorem day_ret (d : Int) (f : Fl) (p : Pc) (hp : Shifts p) (hl : f.legs.length ≤ 1000) (h : 0 ≤ d ∧ d < 36525) : Evt fun n => (C lb n F_r07_legs [pcv p, flcv f, .int .i64 d] = some (.list f.legs.isEmpty ((legsF p f d).map dtcv)) ∧
    C lb n F_r07_ordered [.list f.legs.isEmpty ((legsF p f d).map dtcv)] = some (.bool (ordF p f.legs d))) ∧ C lb n F_r03_Print [.int .i64 d] = some (.str (dateS d)) := by
  refine Evt.and (Evt.and (r07_legs_ret lb p hp f hl d) ?_) (r03_Print_ret lb d h.1 h.2)
  have := r07_ordered_ret lb f.legs.isEmpty (legsF p f d) (by unfold legsF; rw [List.length_map]; exact hl)
  rw [ordF_legs] at this
  exact this
theorem dateS_len (d : Int) : (dateS d).length = 10 := rfl
theorem rc_days (p : Pc) (hp : Shifts p) (f : Fl) (hl : f.legs.length ≤ 1000) (i411 : Int) (p14 : Bool × List (List CV)) (b0 : Bool) (D : List Int) (hD : D.length ≤ 800) (hd : ∀ d ∈ D, 0 ≤ d ∧ d < 36525) :
    Evt fun n => r07_Check_L6 lb n n p.an (p.aps.map apcv) p.dn (p.dis.map dicv) f.car f.num f.fr f.to f.days f.ln (f.legs.map lgcv) i411 (.list b0 (dcv D)) p14 true [] 0 = some (lstFt (dayFt p f.legs D)) := by
  refine Evt.diag (m := D.length) (loopL (enc := ienc) (l := D) (by omega) (P := fun q t n k => r07_Check_L6 lb n k p.an (p.aps.map apcv) p.dn (p.dis.map dicv) f.car f.num f.fr f.to f.days f.ln (f.legs.map lgcv) i411 (.list b0 (dcv D)) p14 true [] (q.length : Int) = some (lstFt (dayFt p f.legs t))) ?_ ?_ D [] rfl)
  · refine .all fun n k => ?_
    rw [r07_Check_L6_succ]
    refine stT rfl (stO _ rfl (stF (decF (by simp [dcv])) ?_))
    rw [r07_Check_J7_eq]
    rfl
  · intro q d t hq hlt hat hw hev
    refine Evt.imp2 hev (day_ret lb d f p hp hl (hd d (by rw [← hq]; simp))) fun n hn hc k hk => ?_
    have hn := hn k hk
    obtain ⟨⟨c1, c2⟩, c3⟩ := hc
    have hat : atL (dcv D) (q.length : Int) = some [.int .i64 d] := hat
    have hlt : (q.length : Int) < ((dcv D).length : Int) := hlt
    rw [r07_Check_L6_succ]
    refine stT rfl (stO _ rfl (stT (decT hlt) (stO _ rfl (stO _ hat (stC rfl (stO _ rfl (stO _ c1 (stO _ c2 (stO _ rfl ?_)))))))))
    unfold dayFt
    cases ho : ordF p f.legs d with
    | true =>
      rw [hw]
      exact hn
    | false =>
      refine stT rfl (stO _ rfl (stO _ hat (stC rfl (stO _ rfl (stO _ c3 (stO _ rfl (stC (decT (by rw [dateS_len]; decide)) (stC rfl ?_))))))))
      obtain ⟨k, rfl⟩ : ∃ m, k = m + 1 := ⟨k - 1, by omega⟩
      rw [r07_Check_L6_succ]
      refine stF rfl ?_
      rw [r07_Check_J7_eq]
      rfl
theorem rc_loop (p : Pc) (hp : Shifts p) (f : Fl) (hl : f.legs.length ≤ 6) (hx : ∀ x ∈ f.legs, x.eq.length ≤ 281474976710656) (p14 : Bool × List (List CV)) (H : List Ft) (hH : H.length ≤ 10) :
    Evt fun n => r07_Check_L1 lb n n p.an (p.aps.map apcv) p.dn (p.dis.map dicv) f.car f.num f.fr f.to f.days f.ln (f.legs.map lgcv) p14 H.isEmpty (H.map ftenc) 0 = some (lstFt (if H ++ legsFt p [] f.legs = [] then dayFt p f.legs (daysF f.fr f.to f.days) else H ++ legsFt p [] f.legs)) := by
  have key := loopL (enc := lgcv) (l := f.legs) (by omega) (P := fun q t n k => r07_Check_L1 lb n k p.an (p.aps.map apcv) p.dn (p.dis.map dicv) f.car f.num f.fr f.to f.days f.ln (f.legs.map lgcv) p14 (H ++ legsFt p [] q).isEmpty ((H ++ legsFt p [] q).map ftenc) (q.length : Int) =
      some (lstFt (if H ++ legsFt p [] f.legs = [] then dayFt p f.legs (daysF f.fr f.to f.days) else H ++ legsFt p [] f.legs))) (by
    refine Evt.imp2 (Evt.and (r04_Days_ret lb f.fr f.to f.days) (Evt.ge 1)) (rc_days lb p hp f (by omega) (f.legs.length : Int) p14 (daysF f.fr f.to f.days).isEmpty (daysF f.fr f.to f.days) (daysF_len _ _ _) fun d hd => ⟨(daysF_mem hd).1, (daysF_mem hd).2.1⟩) fun n h1 h2 k => ?_
    rw [r07_Check_L1_succ]
    refine stF (decF (by simp)) ?_
    rw [r07_Check_J5_eq]
    refine stO _ h1.1 ?_
    generalize H ++ legsFt p [] f.legs = F
    cases F with
    | nil =>
      rw [if_pos rfl]
      exact h2
    | cons e F =>
      rw [if_neg (by simp)]
      obtain ⟨m, hm⟩ : ∃ m, n = m + 1 := ⟨n - 1, by omega⟩
      have : ∀ k', k' = n → r07_Check_L6 lb n k' p.an (p.aps.map apcv) p.dn (p.dis.map dicv) f.car f.num f.fr f.to f.days f.ln (f.legs.map lgcv) (f.legs.length : Int) (.list (daysF f.fr f.to f.days).isEmpty (dcv (daysF f.fr f.to f.days))) p14 (e :: F).isEmpty ((e :: F).map ftenc) 0 = some (lstFt (e :: F)) := by
        intro k' ek
        rw [show k' = m + 1 by omega, r07_Check_L6_succ]
        refine stF (beqF (by simp; omega)) ?_
        rw [r07_Check_J7_eq]
        rfl
      exact this n rfl) (by
    intro q x t hq hlt hat hw hev
    have hll : f.legs.length = q.length + (t.length + 1) := by rw [← hq]; simp
    have hil := itoa_len (z := (q.length : Int)) (by omega) (by omega)
    have hF : (H ++ legsFt p [] q).length ≤ 100 := by rw [List.length_append]; have := legsFt_len p q []; omega
    refine Evt.imp2 hev (Evt.imp2 (Evt.imp2 (Evt.imp2 (r06_Find_ret lb p x.fro hp.1) (r06_Find_ret lb p x.to hp.1) fun n a b => And.intro a b) (Evt.imp2 (r01_Code_ret lb x.eq 3 3 (by have := hx x (by rw [← hq]; simp); omega)) (broken_ret lb f.ln f.legs q t x hq (by omega)) fun n a b => And.intro a b) fun n a b => And.intro a b)
      (Evt.imp2 (Evt.imp2 (r07_out_ret lb x.dep) (r07_out_ret lb x.arr) fun n a b => And.intro a b) (r01_Decimal_ret lb (q.length : Int) (by omega) (by omega)) fun n a b => And.intro a b) fun n a b => And.intro a b) fun n hn hc k hk => ?_
    obtain ⟨⟨⟨a1, a2⟩, a3, a4⟩, ⟨a5, a6⟩, a7⟩ := hc
    have hn := hn k hk
    rw [r07_Check_L1_succ]
    refine stT (decT hlt) (stO _ hat (stC rfl (stO _ rfl (stO _ rfl (stO _ rfl (stO _ rfl (stO _ rfl (stO _ a7 (stO _ rfl (stC (decT (by simp; omega)) (stO _ a3 (stO _ rfl ?_))))))))))))
    refine (acc_if (enc := ftenc) (codeB x.eq 3 3) (H ++ legsFt p [] q) (5, wLeg ++ Lib.itoa (q.length : Int)) 24 (by decide) (by omega) _).trans ?_
    refine (rc_J2 lb (hF := by rw [List.length_append]; have := ft_le' (codeB x.eq 3 3) (5, wLeg ++ Lib.itoa (q.length : Int)); omega) (h3 := a1) (h4 := a2) (h0 := a4) (h1 := a5) (h2 := a6) ..).trans ?_
    rw [legsFt_snoc, ← List.append_assoc, legE_map, ← hw] at hn
    simp only [List.append_assoc] at hn ⊢
    exact hn) f.legs [] rfl
  refine (Evt.diag key).mono fun n hn => ?_
  simpa [legsFt] using hn
theorem headF_in (f : Fl) (h : ¬ (f.legs.length < 1 ∨ f.legs.length > 6)) : headF f = headG f := by
  unfold headF
  rw [decF (by omega), decF (by omega)]
  simp
theorem r07_Check_ret (p : Pc) (hp : Shifts p) (f : Fl) (hc : f.car.length ≤ 281474976710656) (hx : ∀ x ∈ f.legs, x.eq.length ≤ 281474976710656) : Ret lb F_r07_Check [pcv p, flcv f] (lstFt (checkF p f)) := by
  refine .top rfl (.eq (fun n => by rw [r07_Check_eq]) ?_)
  refine .call (r07_head_ret lb f hc) ?_
  simp only [asL_l, optO_s, List.length_map]
  unfold checkF
  by_cases h : f.legs.length < 1 ∨ f.legs.length > 6
  · rw [if_pos h]
    refine .all fun n => ?_
    refine (bif_or _ _ _ _).trans (stT (by rw [Bool.or_eq_true, decide_eq_true_eq, decide_eq_true_eq]; omega) rfl)
  · rw [if_neg h]
    refine (rc_loop lb p hp f (by omega) hx ((headF f).isEmpty, (headF f).map ftenc) (headG f) (by have := headG_len f; omega)).mono fun n hn => ?_
    refine stF (decF (by omega)) (stF (decF (by omega)) ?_)
    rw [headF_in f h] at hn ⊢
    exact hn
end Go.Proofs
