/- The law TopTimes on plain data. Conditions: as each says. -/
import Derived.Test.YtifjdkimbamdkaaDoorTKt
import Derived.Test.YtifjdkimbamdkaaDoorTKx
import Derived.Test.YtifjdkimbamdkaaDoorTNh
set_option linter.unusedSimpArgs false
set_option linter.unusedVariables false
set_option maxRecDepth 100000
namespace Go.Proofs
open Go.Am
variable (lb : Bool)
theorem topAwake_f (n : Nat) : callN Tryd.prog KK (L false) (n + 60) F_top_awake [] = some (.bool true) := by kernel_rfl
theorem topAwake_t (n : Nat) : callN Tryd.prog KK (L true) (n + 60) F_top_awake [] = some (.bool true) := by kernel_rfl
theorem topAwake_ok : Ret lb F_top_awake [] (.bool true) := Evt.from 60 fun n => by
  show callF Tryd.prog KK (L lb) (n + 60) F_top_awake [] = _
  rw [callN_eq]
  cases lb
  · exact topAwake_f n
  · exact topAwake_t n
def smallB (p : Pc) : Bool := decide (p.aps.length ≤ 12) && (decide (p.dis.length ≤ 20) && (placesF p).isEmpty)
theorem top_smallPlaces_ret (p : Pc) (hp : ArgP p) : Ret lb F_top_smallPlaces [pcv p] (.bool (smallB p)) := by
  unfold smallB
  by_cases h1 : p.aps.length ≤ 12
  · by_cases h2 : p.dis.length ≤ 20
    · refine .top rfl ((r06_Check_ret lb p (by omega) (by omega) hp.2.2).mono fun n hn => ?_)
      rw [top_smallPlaces_eq, decT h1, decT h2]
      refine stT (decT (by rw [List.length_map]; omega)) (stT (decT (by rw [List.length_map]; omega)) (stO _ hn (stO _ rfl ?_)))
      rw [lst_len]
      rfl
    · refine .top rfl (.all fun n => ?_)
      rw [top_smallPlaces_eq, decT h1, decF h2]
      exact stT (decT (by rw [List.length_map]; omega)) (stF (decF (by rw [List.length_map]; omega)) rfl)
  · refine .top rfl (.all fun n => ?_)
    rw [top_smallPlaces_eq, decF h1]
    exact stF (decF (by rw [List.length_map]; omega)) rfl

/-! sorting what is sorted -/
def cmpI (a b : Int) : Int := if a < b then -1 else if a > b then 1 else 0
theorem isNaN_int_ret (a : Int) : Ret lb F_cmp_isNaN_int [.int .i64 a] (.bool false) := .top rfl (.all fun n => by rw [cmp_isNaN_int_eq]; simp)
theorem isNaN_str_ret (a : Bs) : Ret lb F_cmp_isNaN_string [.str a] (.bool false) := .top rfl (.all fun n => by rw [cmp_isNaN_string_eq]; simp)
theorem compare_int_ret (a b : Int) : Ret lb F_cmp_Compare_int [.int .i64 a, .int .i64 b] (.int .i64 (cmpI a b)) := by
  refine .top rfl (Evt.imp2 (isNaN_int_ret lb a) (isNaN_int_ret lb b) fun n h1 h2 => ?_)
  rw [cmp_Compare_int_eq]
  refine stO _ h1 (stO _ h2 (stO _ rfl (stF rfl (stO _ rfl (stF rfl ?_)))))
  unfold cmpI
  by_cases c : a < b
  · rw [if_pos c]; exact stT (decT c) rfl
  · rw [if_neg c]
    by_cases d : a > b
    · rw [if_pos d]; exact stF (decF c) (stT (decT d) rfl)
    · rw [if_neg d]; exact stF (decF c) (stF (decF d) rfl)
theorem compare_str_ret (a b : Bs) : ∃ z : Int, Ret lb F_cmp_Compare_string [.str a, .str b] (.int .i64 z) := by
  cases h : Op.bytesLess a b with
  | true => exact ⟨-1, .top rfl (Evt.imp2 (isNaN_str_ret lb a) (isNaN_str_ret lb b) fun n h1 h2 => by
      rw [cmp_Compare_string_eq]
      exact stO _ h1 (stO _ h2 (stO _ rfl (stF rfl (stO _ rfl (stF rfl (stT h rfl))))))) ⟩
  | false =>
    cases h2 : (!(Op.bytesLess a b || a == b)) with
    | true => exact ⟨1, .top rfl (Evt.imp2 (isNaN_str_ret lb a) (isNaN_str_ret lb b) fun n g1 g2 => by
        rw [cmp_Compare_string_eq]
        exact stO _ g1 (stO _ g2 (stO _ rfl (stF rfl (stO _ rfl (stF rfl (stF h (stT h2 rfl)))))))) ⟩
    | false => exact ⟨0, .top rfl (Evt.imp2 (isNaN_str_ret lb a) (isNaN_str_ret lb b) fun n g1 g2 => by
        rw [cmp_Compare_string_eq]
        exact stO _ g1 (stO _ g2 (stO _ rfl (stF rfl (stO _ rfl (stF rfl (stF h (stF h2 rfl)))))))) ⟩
theorem or_ret (b : Bool) (a : Int) (r : List (List CV)) (ha : a ≠ 0) : Ret lb F_cmp_Or_int [.list b ([.int .i64 a] :: r)] (.int .i64 a) := by
  refine .top rfl ((Evt.ge 1).mono fun n h1 => ?_)
  obtain ⟨k, rfl⟩ : ∃ m, n = m + 1 := ⟨n - 1, by omega⟩
  rw [cmp_Or_int_eq, cmp_Or_int_L1_succ]
  exact stT (decT (by simp)) (stO _ rfl (stC rfl (stO _ rfl (stO _ rfl (stT (bneT ha) rfl)))))
theorem day_cmp_ret (x y : Dt) (h : x.dep > y.dep) : Ret lb F_schedule_Day_1 [.agg (dtcv x), .agg (dtcv y)] (.int .i64 1) := by
  obtain ⟨z, hz⟩ := compare_str_ret lb x.car y.car
  have hc := compare_int_ret lb x.dep y.dep
  rw [show cmpI x.dep y.dep = 1 by unfold cmpI; rw [if_neg (by omega), if_pos h]] at hc
  refine .top rfl (Evt.imp2 (Evt.imp2 hc hz fun n a b => And.intro a b) (Evt.imp2 (compare_int_ret lb x.num y.num) (or_ret lb false 1 [[.int .i64 z], [.int .i64 (cmpI x.num y.num)]] (by decide)) fun n a b => And.intro a b) fun n h1 h2 => ?_)
  rw [dtcv, dtcv, schedule_Day_1_eq]
  exact stO _ h1.1 (stO _ h1.2 (stO _ h2.1 (stC rfl (stC rfl (stC rfl (stO _ h2.2 rfl))))))
/-- departures ascend -/
def Asc (l : List Dt) : Prop := ∀ q x t y, q ++ x :: t = l → q.getLast? = some y → y.dep < x.dep
theorem insertion_ret (b : Bool) (l : List Dt) (hl : l.length ≤ 1000) (ha : Asc l) : Ret lb F_slices_insertionSortCmpFunc_api_Dated [.list b (l.map dtcv), .int .i64 0, .int .i64 (l.length : Int), .fn F_schedule_Day_1] (.tup []) := by
  refine .top rfl (.eq (fun n => by rw [slices_insertionSortCmpFunc_api_Dated_schedule_Day_1_eq, wrap64 (by omega) (by omega)]) ?_)
  have key : ∀ (t q : List Dt), q ++ t = l → 1 ≤ q.length → Evt fun n => ∀ k, t.length < k → slices_insertionSortCmpFunc_api_Dated_schedule_Day_1_L1 lb n k b (l.map dtcv) 0 (l.length : Int) (q.length : Int) = some (.tup []) := by
    intro t
    induction t with
    | nil =>
      intro q hq h1
      refine .all fun n k hk => ?_
      obtain ⟨k, rfl⟩ : ∃ m, k = m + 1 := ⟨k - 1, by simp at hk; omega⟩
      have hq : q = l := by simpa using hq
      subst hq
      rw [slices_insertionSortCmpFunc_api_Dated_schedule_Day_1_L1_succ]
      exact stF (decF (by omega)) rfl
    | cons x t ih =>
      intro q hq h1
      have hll : l.length = q.length + (t.length + 1) := by rw [← hq]; simp
      rcases snoc_cases q with rfl | ⟨q', y, rfl⟩
      · simp at h1
      · have hxy := ha (q' ++ [y]) x t y hq (by simp)
        have hat : atL (l.map dtcv) ((q' ++ [y]).length : Int) = some (dtcv x) := atL_ok (by rw [← hq]; simp)
        have hwl : IntKind.wrap .i64 (((q' ++ [y]).length : Int) - 1) = (q'.length : Int) := by
          rw [List.length_append, List.length_singleton] at hll ⊢
          rw [wrap64 (by omega) (by omega)]
          omega
        have hw : IntKind.wrap .i64 (((q' ++ [y]).length : Int) + 1) = ((q' ++ [y] ++ [x]).length : Int) := by rw [wrap64 (by omega) (by omega)]; simp; omega
        have hpre : atL (l.map dtcv) (q'.length : Int) = some (dtcv y) := atL_ok (by rw [← hq]; simp)
        refine Evt.imp2 (day_cmp_ret lb x y (by omega)) ((ih (q' ++ [y] ++ [x]) (by rw [← hq]; simp) (by simp)).and (Evt.ge 1)) fun n hc hi k hk => ?_
        obtain ⟨hi, hge⟩ := hi
        obtain ⟨k, rfl⟩ : ∃ m, k = m + 1 := ⟨k - 1, by simp at hk; omega⟩
        rw [dtcv, dtcv] at hc
        have hi := hi k (by simp at hk; omega)
        rw [slices_insertionSortCmpFunc_api_Dated_schedule_Day_1_L1_succ]
        refine stT (decT (by omega)) ?_
        obtain ⟨m, hm⟩ : ∃ m, n = m + 1 := ⟨n - 1, by omega⟩
        have : ∀ k', k' = n → slices_insertionSortCmpFunc_api_Dated_schedule_Day_1_L2 lb n k' k b (l.map dtcv) 0 (l.length : Int) ((q' ++ [y]).length : Int) = some (.tup []) := by
          intro k' ek
          rw [show k' = m + 1 by omega, slices_insertionSortCmpFunc_api_Dated_schedule_Day_1_L2_succ, hwl]
          refine stT (decT (by omega)) (stO _ hat (stC rfl (stO _ rfl (stO _ rfl (stO _ rfl (stO _ rfl (stO _ rfl (stO _ rfl (stO _ rfl (stO _ rfl (stO _ hpre (stC rfl (stO _ rfl (stO _ rfl (stO _ rfl (stO _ rfl (stO _ rfl (stO _ rfl (stO _ rfl (stO _ rfl (stO _ hc (stO _ rfl (stF rfl ?_)))))))))))))))))))))))
          rw [slices_insertionSortCmpFunc_api_Dated_schedule_Day_1_J3_eq, hw]
          exact hi
        exact this n rfl
  cases l with
  | nil =>
    refine (Evt.ge 1).mono fun n h1 => ?_
    obtain ⟨m, hm⟩ : ∃ m, n = m + 1 := ⟨n - 1, by omega⟩
    have : ∀ k', k' = n → slices_insertionSortCmpFunc_api_Dated_schedule_Day_1_L1 lb n k' b (([] : List Dt).map dtcv) 0 ((([] : List Dt).length : Nat) : Int) (0 + 1) = some (.tup []) := by
      intro k' ek
      rw [show k' = m + 1 by omega, slices_insertionSortCmpFunc_api_Dated_schedule_Day_1_L1_succ]
      exact stF rfl rfl
    exact this n rfl
  | cons x t => exact Evt.diag (key t [x] rfl (by simp))
theorem stable_ret (b : Bool) (l : List Dt) (hl : l.length ≤ 19) (ha : Asc l) : Ret lb F_slices_stableCmpFunc_api_Dated [.list b (l.map dtcv), .int .i64 (l.length : Int), .fn F_schedule_Day_1] (.tup []) := by
  refine .top rfl (Evt.imp2 (insertion_ret lb b l (by omega) ha) (Evt.ge 1) fun n h1 hge => ?_)
  obtain ⟨m, hm⟩ : ∃ m, n = m + 1 := ⟨n - 1, by omega⟩
  rw [slices_stableCmpFunc_api_Dated_schedule_Day_1_eq]
  have h3 : ∀ k', k' = n → slices_stableCmpFunc_api_Dated_schedule_Day_1_L3 lb n k' b (l.map dtcv) (l.length : Int) 0 (.tup []) 20 0 20 = some (.tup []) := by
    intro k' ek
    rw [show k' = m + 1 by omega, slices_stableCmpFunc_api_Dated_schedule_Day_1_L3_succ]
    exact stF (decF (by omega)) rfl
  have : ∀ k', k' = n → slices_stableCmpFunc_api_Dated_schedule_Day_1_L1 lb n k' b (l.map dtcv) (l.length : Int) 0 20 = some (.tup []) := by
    intro k' ek
    rw [show k' = m + 1 by omega, slices_stableCmpFunc_api_Dated_schedule_Day_1_L1_succ]
    refine stF (decF (by omega)) ?_
    rw [slices_stableCmpFunc_api_Dated_schedule_Day_1_J2_eq]
    exact stO _ h1 (h3 n rfl)
  exact this n rfl
theorem sort_ret (b : Bool) (l : List Dt) (hl : l.length ≤ 19) (ha : Asc l) : Ret lb F_slices_SortStableFunc_api_Dated [.list b (l.map dtcv), .fn F_schedule_Day_1] (.tup []) := by
  refine .top rfl ((stable_ret lb b l hl ha).mono fun n h1 => ?_)
  rw [slices_SortStableFunc_api_Dated_schedule_Day_1_eq, List.length_map]
  exact stO _ h1 rfl
theorem schedule_Day_ret (p : Pc) (hp : Shifts p) (f : Fl) (hl : f.legs.length ≤ 19) (day : Int) (hh : hasF f.fr f.to f.days day = true) (ha : Asc (legsF p f day)) :
    Ret lb F_schedule_Day [pcv p, .list false [[.str f.car, .int .i64 f.num, .int .i64 f.fr, .int .i64 f.to, .int .i64 f.days, .list f.ln (f.legs.map lgcv)]], .int .i64 day] (.list (legsF p f day).isEmpty ((legsF p f day).map dtcv)) := by
  have h1 := flight_Legs_ret lb p hp f (by omega) day
  rw [hh] at h1
  refine .top rfl (Evt.imp2 (Evt.imp2 (period_Has_ret lb f.fr f.to f.days day) h1 fun n a b => And.intro a b) ((sort_ret lb (legsF p f day).isEmpty (legsF p f day) (by rw [legsF_len]; exact hl) ha).and (Evt.ge 2)) fun n h2 h3 => ?_)
  obtain ⟨m, hm⟩ : ∃ m, n = m + 2 := ⟨n - 2, by have := h3.2; omega⟩
  rw [schedule_Day_eq]
  have hn : (true && ((legsF p f day).map dtcv).isEmpty) = (legsF p f day).isEmpty := by cases legsF p f day <;> rfl
  have s2 : ∀ k', k' = m + 1 → schedule_Day_L1 lb n k' p.an (p.aps.map apcv) p.dn (p.dis.map dicv) false [[.str f.car, .int .i64 f.num, .int .i64 f.fr, .int .i64 f.to, .int .i64 f.days, .list f.ln (f.legs.map lgcv)]] day (legsF p f day).isEmpty ((legsF p f day).map dtcv) 1 = some (.list (legsF p f day).isEmpty ((legsF p f day).map dtcv)) := by
    intro k' ek
    rw [ek, schedule_Day_L1_succ]
    refine stF rfl ?_
    rw [schedule_Day_J2_eq]
    exact stO _ h3.1 rfl
  have s1 : ∀ k', k' = n → schedule_Day_L1 lb n k' p.an (p.aps.map apcv) p.dn (p.dis.map dicv) false [[.str f.car, .int .i64 f.num, .int .i64 f.fr, .int .i64 f.to, .int .i64 f.days, .list f.ln (f.legs.map lgcv)]] day true [] 0 = some (.list (legsF p f day).isEmpty ((legsF p f day).map dtcv)) := by
    intro k' ek
    rw [show k' = (m + 1) + 1 by omega, schedule_Day_L1_succ]
    refine stT rfl (stO _ rfl (stC rfl (stO _ rfl (stO _ rfl (stO _ rfl (stO _ rfl (stO _ rfl (stO _ rfl (stO _ h2.1 (stO _ rfl (stT hh (stO _ h2.2 (stO _ rfl (stO _ rfl (stO _ rfl (stO _ rfl (stO _ rfl (stC (by simp [dtcv]) (stC (room_le (by simp [legsF]; omega) (by decide)) ?_)))))))))))))))))))
    simp only
    rw [hn, List.nil_append]
    exact s2 _ rfl
  exact s1 n rfl

/-! the law -/
theorem tt_loop (p : Pc) (hp : Shifts p) (hz : ∀ a ∈ p.aps, zoneE a.off a.sh = 0) (f : Fl) (hl : f.legs.length ≤ 19) (day : Int) (hday : 0 ≤ day ∧ day < 36525)
    (hx : ∀ x ∈ f.legs, knownB p x.fro = true ∧ okM x.dep = true) (b0 b1 : Bool) (x29 r25 : CV) (ho : ordG true 0 ((legsF p f day).map fun x => (x.dep, x.arr)) = true) :
    Evt fun n => top_TopTimes_L1 lb n n p.an (p.aps.map apcv) p.dn (p.dis.map dicv) f.car f.num f.fr f.to f.days f.ln (f.legs.map lgcv) day (.list b0 ((legsF p f day).map dtcv)) x29 (.list b1 ((legsF p f day).map dtcv)) r25 0 = some (.bool true) := by
  obtain ⟨l, hle⟩ : ∃ l, legsF p f day = l := ⟨_, rfl⟩
  have hlen : l.length = f.legs.length := by rw [← hle, legsF_len]
  rw [hle] at ho ⊢
  have key := loopL (enc := dtcv) (l := l) (by omega) (P := fun q t n k => ordG q.isEmpty ((q.getLast?.map (·.arr)).getD 0) (t.map fun x => (x.dep, x.arr)) = true →
      top_TopTimes_L1 lb n k p.an (p.aps.map apcv) p.dn (p.dis.map dicv) f.car f.num f.fr f.to f.days f.ln (f.legs.map lgcv) day (.list b0 (l.map dtcv)) x29 (.list b1 (l.map dtcv)) r25 (q.length : Int) = some (.bool true)) (by
    refine (topAwake_ok lb).mono fun n hn k _ => ?_
    rw [top_TopTimes_L1_succ]
    refine stO _ rfl (stF (decF (by simp)) ?_)
    rw [top_TopTimes_J2_eq]
    exact stO _ hn rfl) (by
    intro q x t hq hlt hat hw hev
    have hll : l.length = q.length + (t.length + 1) := by rw [← hq]; simp
    have hlx : l[q.length]? = some x := by rw [← hq]; simp
    obtain ⟨xl, hxl, ex⟩ : ∃ y, f.legs[q.length]? = some y ∧ legF p f day y = x := by rw [← hle] at hlx; unfold legsF at hlx; rw [List.getElem?_map] at hlx; exact Option.map_eq_some_iff.1 hlx
    have hatl : atL (f.legs.map lgcv) (q.length : Int) = some (lgcv xl) := atL_ok (by simp [hxl])
    obtain ⟨hk1, hk2⟩ := hx xl (List.mem_of_getElem? hxl)
    unfold okM at hk2
    rw [decide_eq_true_eq] at hk2
    have exf : x.fro = xl.fro := by rw [← ex]; rfl
    have hmem : apOf p x.fro ∈ p.aps := by
      rw [exf]
      unfold knownB at hk1
      obtain ⟨a, ha⟩ := Option.isSome_iff_exists.1 hk1
      unfold apOf
      rw [ha]
      exact (findA_mem ha).1
    have hzone := hz _ hmem
    unfold zoneE at hzone
    have hsh : (apOf p x.fro).sh.length ≤ 256 := apOf_sh hp x.fro
    rw [if_neg (by omega)] at hzone
    have hoff : okO (apOf p x.fro).off = true := by
      cases e : okO (apOf p x.fro).off with
      | true => rfl
      | false => rw [e] at hzone; simp at hzone
    rw [hoff, if_pos rfl] at hzone
    unfold okO at hoff
    rw [decide_eq_true_eq] at hoff
    have hdw : IntKind.wrap .i64 (day * 1440) = day * 1440 := wrap64 (by omega) (by omega)
    have hlw : IntKind.wrap .i64 (day * 1440 + xl.dep) = day * 1440 + xl.dep := wrap64 (by omega) (by omega)
    have hW : (IntKind.wrap .i64 (IntKind.wrap .i64 (day * 1440) + xl.dep)) = day * 1440 + xl.dep := by rw [hdw, hlw]
    have hu := utc_local (IntKind.wrap .i64 (IntKind.wrap .i64 (day * 1440) + xl.dep)) (by rw [hW]; omega) (apOf p x.fro).sh (apOf p x.fro).off (-9223372036854775808) none (apart_of _ _ hzone) hoff (.inl rfl)
    have edep : x.dep = utcG (IntKind.wrap .i64 (IntKind.wrap .i64 (day * 1440) + xl.dep)) (maxI (W64 ((IntKind.wrap .i64 (IntKind.wrap .i64 (day * 1440) + xl.dep)) - (apOf p x.fro).off)) (-9223372036854775808)) (apOf p x.fro).sh := by
      rw [maxI_min, exf, ← ex]
      rfl
    rw [← edep] at hu
    obtain ⟨u1, u2, u3, u4, u5, u6⟩ := hu
    have hloc := zone_Local_ret lb (apOf p x.fro).off (apOf p x.fro).sn (apOf p x.fro).sh x.dep (by omega)
    have hex := zone_Exists_ret lb (apOf p x.fro).off (apOf p x.fro).sn (apOf p x.fro).sh (IntKind.wrap .i64 (IntKind.wrap .i64 (day * 1440) + xl.dep)) (by omega)
    rw [wrap64 (by omega) (by omega)] at hloc
    refine Evt.imp2 hev (Evt.imp2 (places_Find_ret lb p x.fro hp.1) (Evt.imp2 hloc hex fun n a b => And.intro a b) fun n a b => And.intro a b) fun n hn hc k hk hg => ?_
    obtain ⟨a1, a2, a3⟩ := hc
    have hn := hn k hk
    rw [List.getLast?_append, show (q ++ [x]).isEmpty = false by simp] at hn
    simp only [List.getLast?_singleton, Option.some_or, Option.map_some, Option.getD_some] at hn
    obtain ⟨b, hb0⟩ : ∃ b, ((q.getLast?.map (·.arr)).getD 0) = b := ⟨_, rfl⟩
    rw [hb0] at hg
    simp only [List.map_cons, ordG] at hg
    by_cases h : x.dep ≥ x.arr
    · rw [if_pos h] at hg; cases hg
    rw [if_neg h] at hg
    have hfound : (findA x.fro p.aps).isSome = true := by rw [exf]; exact hk1
    rw [top_TopTimes_L1_succ]
    refine stO _ rfl (stT (decT hlt) (stO _ rfl (stO _ hat (stC rfl (stO _ rfl (stO _ a1 (stO _ rfl (stO _ rfl (stO _ rfl (stO _ rfl (stO _ rfl (stC rfl (stO _ rfl (stO _ rfl (stO _ rfl (stO _ rfl (stO _ rfl (stO _ hatl (stC rfl (stO _ rfl (stO _ rfl (stO _ rfl (stF (by rw [hfound]; rfl) (stO _ rfl (stO _ hat (stC rfl (stO _ rfl (stO _ rfl (stO _ hat (stC rfl (stO _ rfl (stO _ rfl (stO _ rfl (stF (decF h) ?_))))))))))))))))))))))))))))))))))
    rcases snoc_cases q with rfl | ⟨q', y, rfl⟩
    · refine stF (decF (by simp)) (stO _ rfl (stO _ hat (stC rfl (stO _ rfl (stO _ rfl (stO _ rfl (stO _ rfl (stO _ rfl (stO _ rfl (stO _ rfl (stO _ rfl (stO _ rfl (stO _ hat (stC rfl (stO _ rfl (stO _ rfl (stO _ rfl (stO _ rfl (stO _ rfl (stO _ rfl (stO _ rfl (stO _ rfl
        (stO _ rfl (stO _ rfl (stO _ rfl (stO _ rfl (stO _ rfl (stO _ rfl (stO _ rfl (stO _ rfl (stO _ rfl (stO _ rfl (stO _ rfl (stO _ rfl (stO _ rfl (stO _ rfl (stO _ rfl (stO _ rfl (stF (by simp) (stO _ rfl (stO _ hat (stC rfl (stO _ rfl (stO _ a2 (stO _ a3 (stO _ rfl ?_))))))))))))))))))))))))))))))))))))))))))))))
      cases e : (spansF (-9223372036854775808) (apOf p x.fro).off (apOf p x.fro).sh).any (hitS (IntKind.wrap .i64 (IntKind.wrap .i64 (day * 1440) + xl.dep))) with
      | true => exact stT rfl (stO _ rfl (stF (bneF (u6 e)) (stO _ rfl (stF (decF (by omega)) (by rw [hw]; exact hn hg)))))
      | false => exact stF rfl (stO _ rfl (stF (decF (by omega)) (by rw [hw]; exact hn hg)))
    · have hwl : IntKind.wrap .i64 (((q' ++ [y]).length : Int) - 1) = (q'.length : Int) := by
        rw [List.length_append, List.length_singleton] at hll ⊢
        rw [wrap64 (by omega) (by omega)]
        omega
      have hpre : atL (l.map dtcv) (q'.length : Int) = some (dtcv y) := atL_ok (by rw [← hq]; simp)
      rw [List.getLast?_append] at hb0
      simp only [List.getLast?_singleton, Option.some_or, Option.map_some, Option.getD_some] at hb0
      subst hb0
      rw [show (q' ++ [y]).isEmpty = false by simp, cond_false] at hg
      by_cases h3 : x.dep < y.arr
      · rw [if_pos h3] at hg; cases hg
      rw [if_neg h3] at hg
      rw [hwl]
      refine stT (decT (by rw [List.length_append, List.length_singleton]; omega)) (stO _ rfl (stO _ hat (stC rfl (stO _ rfl (stO _ rfl (stO _ hpre (stC rfl (stO _ rfl (stO _ rfl (stO _ rfl (stF (decF h3) ?_)))))))))))
      refine (stO _ rfl (stO _ hat (stC rfl (stO _ rfl (stO _ rfl (stO _ rfl (stO _ rfl (stO _ rfl (stO _ rfl (stO _ rfl (stO _ rfl (stO _ rfl (stO _ hat (stC rfl (stO _ rfl (stO _ rfl (stO _ rfl (stO _ rfl (stO _ rfl (stO _ rfl (stO _ rfl (stO _ rfl
        (stO _ rfl (stO _ rfl (stO _ rfl (stO _ rfl (stO _ rfl (stO _ rfl (stO _ rfl (stO _ rfl (stO _ rfl (stO _ rfl (stO _ rfl (stO _ rfl (stO _ rfl (stO _ rfl (stO _ rfl (stO _ rfl (stF (by simp) (stO _ rfl (stO _ hat (stC rfl (stO _ rfl (stO _ a2 (stO _ a3 (stO _ rfl ?_))))))))))))))))))))))))))))))))))))))))))))))
      cases e : (spansF (-9223372036854775808) (apOf p x.fro).off (apOf p x.fro).sh).any (hitS (IntKind.wrap .i64 (IntKind.wrap .i64 (day * 1440) + xl.dep))) with
      | true => exact stT rfl (stO _ rfl (stF (bneF (u6 e)) (stO _ rfl (stF (decF (by omega)) (by rw [hw]; exact hn hg)))))
      | false => exact stF rfl (stO _ rfl (stF (decF (by omega)) (by rw [hw]; exact hn hg)))) l [] rfl
  exact (Evt.diag key).mono fun n hn => hn ho
theorem asc_of {l : List Dt} (ho : ordG true 0 (l.map fun x => (x.dep, x.arr)) = true) : Asc l := by
  have gen : ∀ (l : List Dt) (f : Bool) (b : Int), ordG f b (l.map fun x => (x.dep, x.arr)) = true → (∀ x ∈ l.head?, f = false → b ≤ x.dep) ∧ Asc l := by
    intro l
    induction l with
    | nil => intro f b _; exact ⟨fun x h => by simp at h, fun q x t y h => by simp at h⟩
    | cons z l ih =>
      intro f b h
      simp only [List.map_cons, ordG] at h
      by_cases h1 : z.dep ≥ z.arr
      · rw [if_pos h1] at h; cases h
      rw [if_neg h1] at h
      have hrest : ordG false z.arr (l.map fun x => (x.dep, x.arr)) = true ∧ (f = false → b ≤ z.dep) := by
        cases f with
        | true => exact ⟨h, fun q => by cases q⟩
        | false =>
          rw [cond_false] at h
          by_cases h3 : z.dep < b
          · rw [if_pos h3] at h; cases h
          · rw [if_neg h3] at h; exact ⟨h, fun _ => by omega⟩
      obtain ⟨i1, i2⟩ := ih false z.arr hrest.1
      refine ⟨fun x hx hf => ?_, fun q x t y hq hy => ?_⟩
      · simp only [List.head?_cons, Option.mem_def, Option.some.injEq] at hx
        subst hx
        exact hrest.2 hf
      · cases q with
        | nil => simp at hy
        | cons w q =>
          simp only [List.cons_append, List.cons.injEq] at hq
          obtain ⟨rfl, hq⟩ := hq
          cases q with
          | nil =>
            have : w = y := by simpa using hy
            subst this
            have := i1 x (by rw [← hq]; simp) rfl
            omega
          | cons v q => exact i2 (v :: q) x t y hq (by simpa [List.getLast?_cons_cons] using hy)
  exact (gen l true 0 ho).2
theorem topTimes_ok (p : Pc) (f : Fl) (day : Int) (hp : ArgP p) (hf : ArgF f) (hq : ∀ x ∈ f.legs, x.eq.length ≤ 281474976710656) : Ret lb F_top_TopTimes [pcv p, flcv f, .int .i64 day] (.bool true) := by
  cases hS : smallB p with
  | false =>
    refine .top rfl (Evt.imp2 (top_smallPlaces_ret lb p hp) (topAwake_ok lb) fun n h1 h2 => ?_)
    rw [top_TopTimes_eq]
    exact stO _ h1 (stO _ rfl (stT (by rw [hS]; rfl) (stO _ h2 rfl)))
  | true =>
    have hS' := hS
    unfold smallB at hS'
    simp only [Bool.and_eq_true, decide_eq_true_eq, List.isEmpty_iff] at hS'
    obtain ⟨s1, s2, s3⟩ := hS'
    by_cases h8 : f.legs.length > 8
    · refine .top rfl (Evt.imp2 (top_smallPlaces_ret lb p hp) (topAwake_ok lb) fun n h1 h2 => ?_)
      rw [top_TopTimes_eq]
      exact stO _ h1 (stO _ rfl (stF (by rw [hS]; rfl) (stT (decT (by rw [List.length_map]; omega)) (stO _ h2 rfl))))
    have hSh := placesF_shifts (p := p) (by omega) s3
    have c1 := r07_Check_ret lb p hSh f hf.1 hq
    cases hC : (checkF p f).isEmpty with
    | false =>
      refine .top rfl (Evt.imp2 (Evt.imp2 (top_smallPlaces_ret lb p hp) c1 fun n a b => And.intro a b) (topAwake_ok lb) fun n h1 h2 => ?_)
      rw [top_TopTimes_eq]
      exact stO _ h1.1 (stO _ rfl (stF (by rw [hS]; rfl) (stF (decF (by rw [List.length_map]; omega)) (stO _ h1.2 (stO _ rfl (stT (by rw [lst_pos, hC]; rfl) (stO _ h2 rfl)))))))
    | true =>
      have c2 := period_Has_ret lb f.fr f.to f.days day
      cases hh : hasF f.fr f.to f.days day with
      | false =>
        rw [hh] at c2
        refine .top rfl (Evt.imp2 (Evt.imp2 (Evt.imp2 (top_smallPlaces_ret lb p hp) c1 fun n a b => And.intro a b) c2 fun n a b => And.intro a b) (topAwake_ok lb) fun n h1 h2 => ?_)
        obtain ⟨⟨a1, a2⟩, a3⟩ := h1
        rw [top_TopTimes_eq]
        exact stO _ a1 (stO _ rfl (stF (by rw [hS]; rfl) (stF (decF (by rw [List.length_map]; omega)) (stO _ a2 (stO _ rfl (stF (by rw [lst_pos, hC]; rfl) (stO _ a3 (stO _ rfl (stT rfl (stO _ h2 rfl))))))))))
      | true =>
        rw [hh] at c2
        obtain ⟨n1, n2, n3, n4, n5⟩ := checkF_nil (p := p) (f := f) (by simpa using hC)
        have ho : ordG true 0 ((legsF p f day).map fun x => (x.dep, x.arr)) = true := by rw [ordF_legs]; exact n5 day hh
        have hday := daysF_mem (daysF_has hh)
        have c3 := flight_Legs_ret lb p hSh f (by omega) day
        rw [hh] at c3
        have c4 := schedule_Day_ret lb p hSh f (by omega) day hh (asc_of ho)
        have hx : ∀ x ∈ f.legs, knownB p x.fro = true ∧ okM x.dep = true := by
          intro x hx
          obtain ⟨q, t, hqt⟩ := List.append_of_mem hx
          have := legE_nil (legsFt_nil n4 q x t hqt.symm)
          exact ⟨this.2.1.1, this.2.2.2.1⟩
        have c5 := tt_loop lb p hSh (placesF_zone s3) f (by omega) day ⟨hday.1, hday.2.1⟩ hx false (legsF p f day).isEmpty (.int .i64 0) (.tup [.list false ((legsF p f day).map dtcv), .int .i64 0]) ho
        refine .top rfl (Evt.imp2 (Evt.imp2 (Evt.imp2 (top_smallPlaces_ret lb p hp) c1 fun n a b => And.intro a b) c2 fun n a b => And.intro a b) (Evt.imp2 (Evt.imp2 c3 c4 fun n a b => And.intro a b) c5 fun n a b => And.intro a b) fun n h1 h2 => ?_)
        obtain ⟨⟨a1, a2⟩, a3⟩ := h1
        obtain ⟨⟨a4, a5⟩, a6⟩ := h2
        rw [top_TopTimes_eq]
        refine stO _ a1 (stO _ rfl (stF (by rw [hS]; rfl) (stF (decF (by rw [List.length_map]; omega)) (stO _ a2 (stO _ rfl (stF (by rw [lst_pos, hC]; rfl) (stO _ a3 (stO _ rfl (stF rfl (stO _ a4 (stO _ rfl (stO _ rfl (stO _ rfl (stO _ rfl (stO _ a5 (stO _ rfl (stF rfl (stO _ rfl (stF ?_ (stO _ rfl (stO _ rfl (stF (bneF rfl) a6))))))))))))))))))))))
        exact bneF (by simp [legsF])
end Go.Proofs
