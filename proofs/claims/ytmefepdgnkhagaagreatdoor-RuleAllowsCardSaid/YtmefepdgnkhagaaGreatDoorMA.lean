/- Chapter 21 on plain data: how many parts a condition has, as the laws count. Conditions: as each says. -/
import Derived.Test.YtmefepdgnkhagaaGreatDoorCA
import Derived.Test.YtmefepdgnkhagaaGreatDoorHm
import Derived.Test.YtmefepdgnkhagaaGreatDoorHn
import Derived.Test.YtmefepdgnkhagaaGreatDoorRn
set_option linter.unusedVariables false
namespace Go.Proofs
open Go.Am
/- the parts of a condition and its texts, 300 at most -/
mutual
def prtC : Int → Cd → Int
  | d, .mk k ln l a b fr to days tn t => if d > 20 then 300 else if (l.length : Int) > 300 then 300 else
    if 300 < prtsC (d + 1) (1 + (if 300 < (t.length : Int) then 300 else (t.length : Int))) l then 300 else prtsC (d + 1) (1 + (if 300 < (t.length : Int) then 300 else (t.length : Int))) l
def prtsC : Int → Int → List Cd → Int
  | _, n, [] => n
  | d, n, c :: r => if n < 300 then prtsC d (n + prtC d c) r else n
end
theorem prtC_eq (d : Int) (c : Cd) : prtC d c = if d > 20 then 300 else if (c.l.length : Int) > 300 then 300 else
    if 300 < prtsC (d + 1) (1 + (if 300 < (c.t.length : Int) then 300 else (c.t.length : Int))) c.l then 300 else prtsC (d + 1) (1 + (if 300 < (c.t.length : Int) then 300 else (c.t.length : Int))) c.l := by
  cases c
  rw [prtC]
  rfl
theorem prt_pos : ∀ (c : Cd) (d : Int), 1 ≤ prtC d c ∧ prtC d c ≤ 300 := by
  refine Cd.ind fun c ih d => ?_
  have ge : ∀ (l : List Cd) (d n : Int), (∀ x ∈ l, ∀ d, 1 ≤ prtC d x) → n ≤ prtsC d n l := by
    intro l
    induction l with
    | nil => intro d n _; rw [prtsC]; omega
    | cons x l ihl =>
      intro d n h
      rw [prtsC]
      split
      · have h1 := h x (by simp) d
        have h2 := ihl d (n + prtC d x) fun y hy => h y (by simp [hy])
        omega
      · omega
  obtain ⟨m, hm, ht⟩ : ∃ m, (if 300 < (c.t.length : Int) then 300 else (c.t.length : Int)) = m ∧ 0 ≤ m := ⟨_, rfl, by split <;> omega⟩
  have hg := ge c.l (d + 1) (1 + m) fun x hx d => (ih x hx d).1
  rw [prtC_eq, hm]
  split
  · omega
  · split
    · omega
    · split <;> omega
theorem prts_ge : ∀ (l : List Cd) (d n : Int), n ≤ prtsC d n l
  | [], d, n => by rw [prtsC]; omega
  | x :: l, d, n => by
    rw [prtsC]
    split
    · have h1 := (prt_pos x d).1
      have h2 := prts_ge l d (n + prtC d x)
      omega
    · omega
theorem prt_tsz : ∀ (c : Cd) (d : Int), prtC d c ≤ 200 → (tsz c : Int) ≤ prtC d c := by
  refine Cd.ind fun c ih d h => ?_
  have sum : ∀ (l : List Cd) (d n : Int), (∀ x ∈ l, ∀ d, prtC d x ≤ 200 → (tsz x : Int) ≤ prtC d x) → prtsC d n l ≤ 200 → 0 ≤ n → (tszs l : Int) + n ≤ prtsC d n l := by
    intro l
    induction l with
    | nil => intro d n _ _ _; rw [prtsC, tszs]; omega
    | cons x l ihl =>
      intro d n hx h hn
      rw [prtsC] at h ⊢
      split at h
      · rename_i hlt
        rw [if_pos hlt, tszs]
        have h1 := prts_ge l d (n + prtC d x)
        have h2 := prt_pos x d
        have h3 := hx x (by simp) d (by omega)
        have h4 := ihl d (n + prtC d x) (fun y hy => hx y (by simp [hy])) h (by omega)
        omega
      · omega
  have ht : (0 : Int) ≤ (if 300 < (c.t.length : Int) then 300 else (c.t.length : Int)) := by split <;> omega
  rw [prtC_eq] at h ⊢
  by_cases h1 : d > 20
  · rw [if_pos h1] at h; omega
  rw [if_neg h1] at h ⊢
  by_cases h2 : (c.l.length : Int) > 300
  · rw [if_pos h2] at h; omega
  rw [if_neg h2] at h ⊢
  by_cases h3 : 300 < prtsC (d + 1) (1 + (if 300 < (c.t.length : Int) then 300 else (c.t.length : Int))) c.l
  · rw [if_pos h3] at h; omega
  · rw [if_neg h3] at h ⊢
    have := sum c.l (d + 1) _ ih h (by omega)
    rw [tsz_eq]
    omega
end Go.Proofs
/- Chapter 21 on plain data: which rules combine. Conditions: as each says. -/
set_option linter.unusedVariables false
set_option linter.unusedSimpArgs false
namespace Go.Proofs
open Go.Am
variable (lb : Nat)
/-- a rule -/
structure Ru where
  num : Int
  w : Cd
  cn : Bool
  com : List Int
  mn : Int
  mx : Int
  cf : Int
  rf : Int
  pn : Bool
  pc : List (Bs × Int)
abbrev nums1 (l : List Int) : List (List CV) := l.map fun z => [CV.int .i64 z]
abbrev pcs (l : List (Bs × Int)) : List (List CV) := l.map fun p => [CV.str p.1, CV.int .i64 p.2]
abbrev ruv (r : Ru) : CV := .agg [.int .i64 r.num, .int .i64 r.w.k, .list r.w.ln (r.w.l.map ccv), .int .i64 r.w.a, .int .i64 r.w.b, .int .i64 r.w.fr, .int .i64 r.w.to, .int .i64 r.w.days, .list r.w.tn (scv r.w.t),
  .list r.cn (nums1 r.com), .int .i64 r.mn, .int .i64 r.mx, .int .i64 r.cf, .int .i64 r.rf, .list r.pn (pcs r.pc)]
/-- lists and texts are as long as memory allows -/
def RFits (r : Ru) : Prop := Fits r.w ∧ r.com.length ≤ 281474976710656 ∧ r.pc.length ≤ 281474976710656 ∧ ∀ p ∈ r.pc, p.1.length ≤ 281474976710656
def intAt (i : Nat) (x : Int) : List Int → Int
  | [] => -1
  | y :: t => if x = y then (i : Int) else intAt (i + 1) x t
theorem intAt_ge (x : Int) : ∀ (l : List Int) (i : Nat), (0 ≤ intAt i x l) ↔ x ∈ l
  | [], i => by simp [intAt]
  | y :: t, i => by
    unfold intAt
    by_cases h : x = y
    · simp [h]
    · rw [if_neg h, intAt_ge x t (i + 1)]
      simp [h]
theorem index_int_ret (an : Bool) (l : List Int) (x : Int) (hl : l.length ≤ 281474976710656) : Ret lb F_slices_Index_int [.list an (nums1 l), .int .i64 x] (.int .i64 (intAt 0 x l)) := by
  refine .top rfl (.eq (fun n => by rw [slices_Index_int_eq]) ?_)
  refine Evt.diag (m := l.length) (loopL (enc := fun s => [CV.int .i64 s]) (l := l) (by omega) (P := fun p t n k => slices_Index_int_L1 lb n k an (nums1 l) x (p.length : Int) = some (.int .i64 (intAt p.length x t))) ?_ ?_ l [] rfl)
  · refine .all fun n k => ?_
    rw [slices_Index_int_L1_succ]
    refine stF (decF (by rw [List.length_map]; omega)) ?_
    rw [slices_Index_int_J2_eq]
    rfl
  · intro p y t hp hlt hat hw hev
    refine hev.mono fun n hn k hk => ?_
    rw [slices_Index_int_L1_succ]
    refine stT (decT hlt) (stO _ hat (stC rfl (stO _ rfl (stO _ (asI_i ..) ?_))))
    unfold intAt
    by_cases h : x = y
    · refine stT (beqT h) ?_
      rw [if_pos h]
    · refine stF (beqF h) ?_
      rw [if_neg h, hw, hn k hk]
      simp
theorem contains_int_ret (an : Bool) (l : List Int) (x : Int) (hl : l.length ≤ 281474976710656) : Ret lb F_slices_Contains_int [.list an (nums1 l), .int .i64 x] (.bool (decide (x ∈ l))) := by
  refine .top rfl (.eq (fun n => by rw [slices_Contains_int_eq]) ?_)
  refine .call (index_int_ret lb an l x hl) (.all fun n => stO _ (asI_i ..) ?_)
  rw [show decide (intAt 0 x l ≥ 0) = decide (x ∈ l) from decide_eq_decide.2 (intAt_ge x l 0)]
/-- does a rule combine with a number? -/
def mixB (l : List Int) (x : Int) : Bool := decide (l = []) || decide (x ∈ l)
theorem len0 (l : List Int) : (((nums1 l).length : Int) == 0) = decide (l = []) := by
  rw [List.length_map]
  cases l with
  | nil => rfl
  | cons x l => simp; omega
theorem mix1_ret (a b : Ru) (ha : a.com.length ≤ 281474976710656) : Ret lb F_rule_Mix_1 [ruv a, ruv b] (.bool (mixB a.com b.num)) := by
  refine .top rfl (.eq (fun n => by rw [rule_Mix_1_eq, len0]) ?_)
  unfold mixB
  by_cases h : a.com = []
  · rw [decT h]
    exact .all fun n => rfl
  · rw [decF h]
    exact (contains_int_ret lb a.cn a.com b.num ha).mono fun n x => stF rfl (stO _ x rfl)
theorem rule_Mix_ret (a b : Ru) (ha : a.com.length ≤ 281474976710656) (hb : b.com.length ≤ 281474976710656) : Ret lb F_rule_Mix [ruv a, ruv b] (.bool (mixB a.com b.num && mixB b.com a.num)) := by
  refine .top rfl (.eq (fun n => by rw [rule_Mix_eq]) ?_)
  have e1 := mix1_ret lb a b ha
  have e2 := mix1_ret lb b a hb
  cases h : mixB a.com b.num with
  | true =>
    rw [h] at e1
    exact Evt.imp2 e1 e2 fun n x y => stO _ x (stO _ rfl (stT rfl (stO _ y rfl)))
  | false =>
    rw [h] at e1
    exact e1.mono fun n x => stO _ x (stO _ rfl (stF rfl rfl))
theorem mixes_ret (r : Ru) (x : Int) (hl : r.com.length ≤ 281474976710656) : Ret lb F_r21_mixes [ruv r, .int .i64 x] (.bool (mixB r.com x)) := by
  refine .top rfl (.eq (fun n => by rw [r21_mixes_eq]) ?_)
  refine Evt.diag (m := r.com.length) (loopL (enc := fun s => [CV.int .i64 s]) (l := r.com) (by omega) (P := fun p t n k => r21_mixes_L1 lb n k r.num r.w.k r.w.ln (r.w.l.map ccv) r.w.a r.w.b r.w.fr r.w.to r.w.days r.w.tn (scv r.w.t) r.cn (nums1 r.com) r.mn r.mx r.cf r.rf r.pn (pcs r.pc) x (p.length : Int) = some (.bool (decide (r.com = []) || decide (x ∈ t)))) ?_ ?_ r.com [] rfl)
  · refine .all fun n k => ?_
    rw [r21_mixes_L1_succ]
    refine stF (decF (by rw [List.length_map]; omega)) ?_
    rw [r21_mixes_J2_eq, len0]
    simp
  · intro p y t hp hlt hat hw hev
    refine hev.mono fun n hn k hk => ?_
    rw [r21_mixes_L1_succ]
    refine stT (decT hlt) (stO _ hat (stC rfl (stO _ rfl (stO _ (asI_i ..) ?_))))
    by_cases h : y = x
    · refine stT (beqT h) ?_
      simp [h]
    · refine stF (beqF h) ?_
      rw [hw, hn k hk, show decide (x ∈ y :: t) = decide (x ∈ t) from decide_eq_decide.2 (by simp [Ne.symm h])]
theorem r21_Mix_ret (a b : Ru) (ha : a.com.length ≤ 281474976710656) (hb : b.com.length ≤ 281474976710656) : Ret lb F_r21_Mix [ruv a, ruv b] (.bool (mixB a.com b.num && mixB b.com a.num)) := by
  refine .top rfl (.eq (fun n => by rw [r21_Mix_eq]) ?_)
  have e1 := mixes_ret lb a b.num ha
  have e2 := mixes_ret lb b a.num hb
  cases h : mixB a.com b.num with
  | true =>
    rw [h] at e1
    exact Evt.imp2 e1 e2 fun n x y => stO _ x (stO _ rfl (stT rfl (stO _ y rfl)))
  | false =>
    rw [h] at e1
    exact e1.mono fun n x => stO _ x (stO _ rfl (stF rfl rfl))
end Go.Proofs
/- Chapter 21 on plain data: which rules are small; stays. Conditions: as each says. -/
set_option linter.unusedVariables false
set_option linter.unusedSimpArgs false
namespace Go.Proofs
open Go.Am
variable (lb : Nat)
theorem parts_ret : ∀ c : Cd, Fits c → ∀ d : Int, 0 ≤ d → d ≤ 21 → Ret lb F_l21_parts [cdv c, .int .i64 d] (.int .i64 (prtC d c)) := by
  refine Cd.ind fun c ih hf d h0 h1 => .top rfl (.eq (fun n => by rw [l21_parts_eq]) ?_)
  obtain ⟨m, hm, hm0, hm1⟩ : ∃ m : Int, (if 300 < (c.t.length : Int) then 300 else (c.t.length : Int)) = m ∧ 0 ≤ m ∧ m ≤ 300 := ⟨_, rfl, by split <;> omega, by split <;> omega⟩
  rw [prtC_eq, scv_len, hm]
  by_cases k1 : d > 20
  · rw [if_pos k1]
    exact .all fun n => stT (decT k1) rfl
  rw [if_neg k1]
  by_cases k2 : (c.l.length : Int) > 300
  · rw [if_pos k2]
    exact .all fun n => stF (decF k1) (stT (decT (by rw [List.length_map]; exact k2)) rfl)
  rw [if_neg k2]
  have hs : Evt fun n => ∀ x ∈ c.l, C lb n F_l21_parts [cdv x, .int .i64 (d + 1)] = some (.int .i64 (prtC (d + 1) x)) := Evt.fin _ fun x hx => ih x hx (fits_sub c hf x hx) (d + 1) (by omega) (by omega)
  have loop : ∀ n, (∀ x ∈ c.l, C lb n F_l21_parts [cdv x, .int .i64 (d + 1)] = some (.int .i64 (prtC (d + 1) x))) → ∀ u p, p ++ u = c.l → ∀ k, u.length < k → ∀ acc : Int, 0 ≤ acc → acc ≤ 700 →
      l21_parts_L1 lb n k c.k c.ln (c.l.map ccv) c.a c.b c.fr c.to c.days c.tn (scv c.t) d acc (p.length : Int) = some (.int .i64 (if 300 < prtsC (d + 1) acc u then 300 else prtsC (d + 1) acc u)) := by
    intro n a u
    induction u with
    | nil =>
      intro p hp k hk acc q0 q1
      obtain ⟨k, rfl⟩ : ∃ j, k = j + 1 := ⟨k - 1, by simp at hk; omega⟩
      have hpl : p = c.l := by simpa using hp
      rw [l21_parts_L1_succ]
      refine stF (decF (by rw [hpl, List.length_map]; omega)) ?_
      rw [l21_parts_J2_eq, prtsC]
    | cons x u ih2 =>
      intro p hp k hk acc q0 q1
      obtain ⟨k, rfl⟩ : ∃ j, k = j + 1 := ⟨k - 1, by simp at hk; omega⟩
      have hpl : c.l.length = p.length + (u.length + 1) := by rw [← hp]; simp
      have hx : x ∈ c.l := by rw [← hp]; simp
      have hat := cd_at (l := c.l) (i := p.length) (x := x) (by rw [← hp]; simp)
      rw [l21_parts_L1_succ]
      refine stT (decT (by rw [List.length_map]; omega)) ?_
      by_cases k3 : acc < 300
      · have hq := prt_pos x (d + 1)
        refine stT (decT k3) (stO _ hat (stC rfl (stO _ rfl (stO _ rfl (stO _ rfl (stO _ rfl (stO _ rfl (stO _ rfl (stO _ rfl (stO _ rfl ?_))))))))))
        rw [wrap64 (x := d + 1) (by omega) (by omega)]
        refine stO _ (a x hx) (stO _ (asI_i ..) ?_)
        rw [wrap64 (x := acc + prtC (d + 1) x) (by omega) (by omega), wrap64 (x := (p.length : Int) + 1) (by omega) (by omega), show (p.length : Int) + 1 = ((p ++ [x]).length : Int) by simp]
        rw [ih2 (p ++ [x]) (by rw [← hp]; simp) k (by simp at hk; omega) (acc + prtC (d + 1) x) (by omega) (by omega)]
        rw [show prtsC (d + 1) acc (x :: u) = prtsC (d + 1) (acc + prtC (d + 1) x) u by rw [prtsC, if_pos k3]]
      · refine stF (decF k3) ?_
        rw [l21_parts_J2_eq, show prtsC (d + 1) acc (x :: u) = acc by rw [prtsC, if_neg k3]]
  refine Evt.imp2 hs (Evt.ge (c.l.length + 1)) fun n a hn => stF (decF k1) (stF (decF (by rw [List.length_map]; exact k2)) ?_)
  rw [wrap64 (x := 1 + m) (by omega) (by omega)]
  exact loop n a c.l [] rfl n (by omega) (1 + m) (by omega) (by omega)
def smB (r : Ru) : Bool := decide (prtC 0 r.w ≤ 200) && (decide ((r.com.length : Int) ≤ 100) && decide ((r.pc.length : Int) ≤ 100))
theorem small21_ret (r : Ru) (h : Fits r.w) : Ret lb F_l21_Small [ruv r] (.bool (smB r)) := by
  refine .top rfl (.eq (fun n => by rw [l21_Small_eq, List.length_map, List.length_map]) ?_)
  refine (parts_ret lb r.w h 0 (by omega) (by omega)).mono fun n a => stO _ a (stO _ (asI_i ..) ?_)
  unfold smB
  by_cases k1 : prtC 0 r.w ≤ 200
  · rw [decT k1]
    by_cases k2 : (r.com.length : Int) ≤ 100
    · rw [decT k2]; rfl
    · rw [decF k2]; rfl
  · rw [decF k1]; rfl
theorem small21_is {r : Ru} (h : smB r = true) : tsz r.w ≤ 200 ∧ r.com.length ≤ 100 ∧ r.pc.length ≤ 100 := by
  unfold smB at h
  simp only [Bool.and_eq_true, decide_eq_true_eq] at h
  have := prt_tsz r.w 0 h.1
  exact ⟨by omega, by omega, by omega⟩
/-- the error of a stay -/
def stayE (r : Ru) (o b : Int) : Int :=
  if o < 0 then 12 else if o ≥ 36525 then 12 else if b < 0 then 12 else if b ≥ 36525 then 12 else if IntKind.wrap .i64 (b - o) < r.mn then 24 else if r.mx > 0 then (if IntKind.wrap .i64 (b - o) > r.mx then 24 else 0) else 0
theorem stay_go (r : Ru) (o b : Int) : (bif (decide (o < 0)) then some (CV.int .i64 12) else (bif (decide (o ≥ 36525)) then some (.int .i64 12) else (bif (decide (b < 0)) then some (.int .i64 12) else (bif (decide (b ≥ 36525)) then some (.int .i64 12) else
    (bif (decide ((IntKind.wrap .i64 (b - o)) < r.mn)) then some (.int .i64 24) else (bif (decide (r.mx > 0)) then (bif (decide ((IntKind.wrap .i64 (b - o)) > r.mx)) then some (.int .i64 24) else some (.int .i64 0)) else some (.int .i64 0))))))) = some (.int .i64 (stayE r o b)) := by
  unfold stayE
  by_cases k1 : o < 0
  · rw [decT k1, if_pos k1]; rfl
  rw [decF k1, if_neg k1]
  by_cases k2 : o ≥ 36525
  · rw [decT k2, if_pos k2]; rfl
  rw [decF k2, if_neg k2]
  by_cases k3 : b < 0
  · rw [decT k3, if_pos k3]; rfl
  rw [decF k3, if_neg k3]
  by_cases k4 : b ≥ 36525
  · rw [decT k4, if_pos k4]; rfl
  rw [decF k4, if_neg k4]
  by_cases k5 : IntKind.wrap .i64 (b - o) < r.mn
  · rw [decT k5, if_pos k5]; rfl
  rw [decF k5, if_neg k5]
  by_cases k6 : r.mx > 0
  · rw [decT k6, if_pos k6]
    by_cases k7 : IntKind.wrap .i64 (b - o) > r.mx
    · rw [decT k7, if_pos k7]; rfl
    · rw [decF k7, if_neg k7]; rfl
  · rw [decF k6, if_neg k6]; rfl
theorem rule_Stay_ret (r : Ru) (o b : Int) : Ret lb F_rule_Stay [ruv r, .int .i64 o, .int .i64 b] (.int .i64 (stayE r o b)) := .top rfl (.eq (fun n => by rw [rule_Stay_eq]) (.all fun n => stay_go r o b))
theorem r21_Stay_ret (r : Ru) (o b : Int) : Ret lb F_r21_Stay [ruv r, .int .i64 o, .int .i64 b] (.int .i64 (stayE r o b)) := .top rfl (.eq (fun n => by rw [r21_Stay_eq]) (.all fun n => stay_go r o b))
end Go.Proofs
/- Chapter 21 on plain data: the faults of a rule, by the reference. Conditions: as each says. -/
set_option linter.unusedVariables false
set_option linter.unusedSimpArgs false
namespace Go.Proofs
open Go.Am
variable (lb : Nat)
/-- faults: what is wrong, and where -/
abbrev Ft := Int × Bs
def ftenc (x : Ft) : List CV := [.int .i64 x.1, .str x.2]
def lstFt (F : List Ft) : CV := .list F.isEmpty (F.map ftenc)
theorem sn1 (F : List Ft) (x : Ft) : (F.isEmpty && false) = (F ++ [x]).isEmpty := by cases F <;> rfl
theorem sn2 (F : List Ft) (e : Int) (s : Bs) : F.map ftenc ++ [[CV.int .i64 e, CV.str s]] = (F ++ [(e, s)]).map ftenc := by simp [ftenc]
theorem ap1 (F G : List Ft) : (F.isEmpty && (G.map ftenc).isEmpty) = (F ++ G).isEmpty := by cases F <;> cases G <;> rfl
theorem ap2 (F G : List Ft) : F.map ftenc ++ G.map ftenc = (F ++ G).map ftenc := by simp
theorem all2 (F : List Ft) : (F.map ftenc).all (·.length == 2) = true := by simp [ftenc]
theorem rm1 {F : List Ft} (h : F.length ≤ 100000) : room ((F.map ftenc).length + 1) 24 = true := room_ok (by rw [List.length_map]; omega)
theorem rm2 {F G : List Ft} (h : F.length ≤ 100000) (g : G.length ≤ 100000) : room ((F.map ftenc).length + (G.map ftenc).length) 24 = true := room_ok (by rw [List.length_map, List.length_map]; omega)
def wCombine : Bs := [99, 111, 109, 98, 105, 110, 101, 32]
def wPercent : Bs := [112, 101, 114, 99, 101, 110, 116, 32]
def wNumber : Bs := [110, 117, 109, 98, 101, 114]
def wWhen : Bs := [119, 104, 101, 110]
def wStay : Bs := [115, 116, 97, 121]
def wFees : Bs := [102, 101, 101, 115]
def comT (p : List Int) (z : Int) : List Ft := (if z < 1 ∨ z > 9999 then [(2, wCombine ++ Lib.itoa (p.length : Int))] else []) ++ (if z ∈ p then [(6, wCombine ++ Lib.itoa (p.length : Int))] else [])
def comFt : List Int → List Int → List Ft
  | _, [] => []
  | p, z :: t => comT p z ++ comFt (p ++ [z]) t
theorem comT_len (p : List Int) (z : Int) : (comT p z).length ≤ 2 := by
  unfold comT
  rw [List.length_append]
  split <;> split <;> simp
theorem comFt_len : ∀ (t p : List Int), (comFt p t).length ≤ 2 * t.length
  | [], p => by simp [comFt]
  | z :: t, p => by
    have h1 := comT_len p z
    have h2 := comFt_len t (p ++ [z])
    rw [comFt, List.length_append, List.length_cons]
    omega
theorem num_at {l : List Int} {i : Nat} {z : Int} (h : l[i]? = some z) : atL (nums1 l) (i : Int) = some [.int .i64 z] := atL_ok (by simp [h])
theorem list_inner (an : Bool) (com p t : List Int) (z : Int) (h : p ++ z :: t = com) (hl : com.length ≤ 100) (k51 : Nat) (b19 : Bool) (l20 : List (List CV)) (s : Bs) (r : CV) (n : Nat) : ∀ u q, q ++ u = p → ∀ k, u.length < k →
    r21_list_L2 lb n k k51 an (nums1 com) b19 l20 (p.length : Int) s r (decide (z ∈ q)) (q.length : Int) = r21_list_J3 lb n k51 an (nums1 com) b19 l20 (p.length : Int) s r (decide (z ∈ p)) (p.length : Int)
  | [], q, hq, k, hk => by
    obtain ⟨k, rfl⟩ : ∃ j, k = j + 1 := ⟨k - 1, by simp at hk; omega⟩
    obtain rfl : q = p := by simpa using hq
    rw [r21_list_L2_succ]
    exact stF (decF (by omega)) rfl
  | y :: u, q, hq, k, hk => by
    obtain ⟨k, rfl⟩ : ∃ j, k = j + 1 := ⟨k - 1, by simp at hk; omega⟩
    have hpl : p.length = q.length + (u.length + 1) := by rw [← hq]; simp
    have hcl : com.length = p.length + (t.length + 1) := by rw [← h]; simp
    have hy := num_at (l := com) (i := q.length) (z := y) (by rw [← h, ← hq]; simp)
    have hz := num_at (l := com) (i := p.length) (z := z) (by rw [← h]; simp)
    have ih := list_inner an com p t z h hl k51 b19 l20 s r n u (q ++ [y]) (by rw [← hq]; simp) k (by simp at hk; omega)
    rw [show (((q ++ [y]).length : Nat) : Int) = (q.length : Int) + 1 by simp] at ih
    rw [r21_list_L2_succ]
    refine stT (decT (by omega)) ?_
    by_cases hm : z ∈ q
    · refine stT (decT hm) ?_
      rw [wrap64 (by omega) (by omega)]
      rw [decT (by simp [hm])] at ih
      exact ih
    · refine stF (decF hm) (stO _ hy (stC rfl (stO _ rfl (stO _ hz (stC rfl (stO _ rfl (stO _ (asI_i ..) (stO _ (asI_i ..) ?_))))))))
      rw [wrap64 (by omega) (by omega)]
      rw [show decide (z ∈ q ++ [y]) = (y == z) by
        by_cases e : y = z
        · rw [decT (by simp [e]), beqT e]
        · rw [decF (by simp [hm, Ne.symm e]), beqF e]] at ih
      exact ih
theorem r21_list_ret (an : Bool) (com : List Int) (hl : com.length ≤ 100) : Ret lb F_r21_list [.list an (nums1 com)] (lstFt (comFt [] com)) := by
  refine .top rfl (.eq (fun n => by rw [r21_list_eq]) ?_)
  have loop : ∀ t p, p ++ t = com → Evt fun n => ∀ k, t.length < k → ∀ F : List Ft, F.length ≤ 2 * p.length → r21_list_L1 lb n k an (nums1 com) F.isEmpty (F.map ftenc) (p.length : Int) = some (lstFt (F ++ comFt p t)) := by
    intro t
    induction t with
    | nil =>
      intro p hp
      refine .all fun n k hk F hF => ?_
      obtain ⟨k, rfl⟩ : ∃ j, k = j + 1 := ⟨k - 1, by simp at hk; omega⟩
      obtain rfl : p = com := by simpa using hp
      rw [r21_list_L1_succ]
      refine stF (decF (by rw [List.length_map]; omega)) ?_
      rw [r21_list_J5_eq, comFt, List.append_nil]
      rfl
    | cons z t ih =>
      intro p hp
      have hcl : com.length = p.length + (t.length + 1) := by rw [← hp]; simp
      have hz := num_at (l := com) (i := p.length) (z := z) (by rw [← hp]; simp)
      have hil := itoa_len (z := (p.length : Int)) (by omega) (by omega)
      refine Evt.imp2 (r01_Decimal_ret lb (p.length : Int) (by omega) (by omega)) (Evt.and (ih (p ++ [z]) (by rw [← hp]; simp)) (Evt.ge 200)) fun n d ⟨g, hn⟩ k hk F hF => ?_
      obtain ⟨k, rfl⟩ : ∃ j, k = j + 1 := ⟨k - 1, by simp at hk; omega⟩
      have g : ∀ F : List Ft, F.length ≤ 2 * p.length + 2 → r21_list_L1 lb n k an (nums1 com) F.isEmpty (F.map ftenc) (IntKind.wrap .i64 ((p.length : Int) + 1)) = some (lstFt (F ++ comFt (p ++ [z]) t)) := fun F hF => by
        rw [wrap64 (by omega) (by omega), show (p.length : Int) + 1 = ((p ++ [z]).length : Int) by simp]
        exact g k (by simp at hk; omega) F (by simp; omega)
      have fin : ∀ (G : List Ft) (b i), comT p z = G → r21_list_J4 lb n k an (nums1 com) (p.length : Int) (F ++ G).isEmpty ((F ++ G).map ftenc) (wCombine ++ Lib.itoa (p.length : Int)) b i = some (lstFt (F ++ comFt p (z :: t))) := fun G b i hG => by
        have := comT_len p z
        rw [hG] at this
        rw [r21_list_J4_eq, comFt, hG, g (F ++ G) (by rw [List.length_append]; omega), List.append_assoc]
      rw [r21_list_L1_succ]
      refine stT (decT (by rw [List.length_map]; omega)) (stO _ d (stO _ rfl (stC (decT (by simp; omega)) ?_)))
      refine (list_inner lb an com p t z hp hl k F.isEmpty (F.map ftenc) (Lib.itoa (p.length : Int)) (.str (Lib.itoa (p.length : Int))) n p [] rfl n (by omega)).trans ?_
      rw [r21_list_J3_eq]
      refine stO _ hz (stC rfl (stO _ rfl (stO _ (asI_i ..) ?_)))
      have two : ∀ (h : z < 1 ∨ z > 9999), (bif decide (z ∈ p) then
          (chkO (room ((F.map ftenc ++ [[CV.int .i64 2, CV.str (([99, 111, 109, 98, 105, 110, 101, 32] : List UInt8) ++ Lib.itoa (p.length : Int))]]).length + 1) 24) (
          r21_list_J4 lb n k an (nums1 com) (p.length : Int) ((F.isEmpty && false) && false) ((F.map ftenc ++ [[CV.int .i64 2, CV.str (([99, 111, 109, 98, 105, 110, 101, 32] : List UInt8) ++ Lib.itoa (p.length : Int))]]) ++ [[CV.int .i64 6, CV.str (([99, 111, 109, 98, 105, 110, 101, 32] : List UInt8) ++ Lib.itoa (p.length : Int))]]) (([99, 111, 109, 98, 105, 110, 101, 32] : List UInt8) ++ Lib.itoa (p.length : Int)) (decide (z ∈ p)) (p.length : Int)))
          else (r21_list_J4 lb n k an (nums1 com) (p.length : Int) (F.isEmpty && false) (F.map ftenc ++ [[CV.int .i64 2, CV.str (([99, 111, 109, 98, 105, 110, 101, 32] : List UInt8) ++ Lib.itoa (p.length : Int))]]) (([99, 111, 109, 98, 105, 110, 101, 32] : List UInt8) ++ Lib.itoa (p.length : Int)) (decide (z ∈ p)) (p.length : Int)))
          = some (lstFt (F ++ comFt p (z :: t))) := fun h => by
        rw [sn1 F (2, wCombine ++ Lib.itoa (p.length : Int)), show ([99, 111, 109, 98, 105, 110, 101, 32] : List UInt8) = wCombine from rfl, sn2 F]
        by_cases hm : z ∈ p
        · refine stT (decT hm) (stC (rm1 (by rw [List.length_append]; simp; omega)) ?_)
          rw [sn1 (F ++ [(2, wCombine ++ Lib.itoa (p.length : Int))]) (6, wCombine ++ Lib.itoa (p.length : Int)), sn2 (F ++ [(2, wCombine ++ Lib.itoa (p.length : Int))]), List.append_assoc]
          exact fin _ _ _ (by unfold comT; rw [if_pos h, if_pos hm])
        · refine stF (decF hm) ?_
          exact fin _ _ _ (by unfold comT; rw [if_pos h, if_neg hm, List.append_nil])
      by_cases k1 : z < 1
      · exact stT (decT k1) (stC (rm1 (by omega)) (two (.inl k1)))
      refine stF (decF k1) (stO _ hz (stC rfl (stO _ rfl (stO _ (asI_i ..) ?_))))
      by_cases k2 : z > 9999
      · exact stT (decT k2) (stC (rm1 (by omega)) (two (.inr k2)))
      refine stF (decF k2) ?_
      rw [show ([99, 111, 109, 98, 105, 110, 101, 32] : List UInt8) = wCombine from rfl]
      by_cases hm : z ∈ p
      · refine stT (decT hm) (stC (rm1 (by omega)) ?_)
        rw [sn1 F (6, wCombine ++ Lib.itoa (p.length : Int)), sn2 F]
        exact fin _ _ _ (by unfold comT; rw [if_neg (by omega), if_pos hm, List.nil_append])
      · refine stF (decF hm) ?_
        have := fin [] (decide (z ∈ p)) (p.length : Int) (by unfold comT; rw [if_neg (by omega), if_neg hm, List.nil_append])
        rw [List.append_nil] at this
        exact this
  exact (Evt.diag (P := fun n k => ∀ F : List Ft, F.length ≤ 0 → r21_list_L1 lb n k an (nums1 com) F.isEmpty (F.map ftenc) 0 = some (lstFt (F ++ comFt [] com))) (loop com [] rfl)).mono fun n h => h [] (by simp)
end Go.Proofs
/- Chapter 21 on plain data: the faults of a rule's percentages, and of a rule, by the reference. Conditions: as each says. -/
set_option linter.unusedVariables false
set_option linter.unusedSimpArgs false
namespace Go.Proofs
open Go.Am
variable (lb : Nat)
abbrev pAt (p : List (Bs × Int)) : Bs := wPercent ++ Lib.itoa (p.length : Int)
def had (p : List (Bs × Int)) (s : Bs) : Bool := decide (s ∈ p.map (·.1))
def pctT (p : List (Bs × Int)) (x : Bs × Int) : List Ft := (if codeB x.1 3 3 then [] else [(5, pAt p)]) ++ ((if had p x.1 then [(6, pAt p)] else []) ++ (if x.2 < 0 ∨ x.2 > 1000 then [(2, pAt p)] else []))
def pctFt : List (Bs × Int) → List (Bs × Int) → List Ft
  | _, [] => []
  | p, x :: t => pctT p x ++ pctFt (p ++ [x]) t
theorem pctT_len (p : List (Bs × Int)) (x : Bs × Int) : (pctT p x).length ≤ 3 := by
  unfold pctT
  rw [List.length_append, List.length_append]
  split <;> split <;> split <;> simp
theorem pctFt_len : ∀ (t p : List (Bs × Int)), (pctFt p t).length ≤ 3 * t.length
  | [], p => by simp [pctFt]
  | x :: t, p => by
    have h1 := pctT_len p x
    have h2 := pctFt_len t (p ++ [x])
    rw [pctFt, List.length_append, List.length_cons]
    omega
theorem pc_at {l : List (Bs × Int)} {i : Nat} {x : Bs × Int} (h : l[i]? = some x) : atL (pcs l) (i : Int) = some [.str x.1, .int .i64 x.2] := atL_ok (by simp [h])
theorem pct_inner (an : Bool) (pc p t : List (Bs × Int)) (x : Bs × Int) (h : p ++ x :: t = pc) (hl : pc.length ≤ 100) (k93 : Nat) (b39 : Bool) (l40 : List (List CV)) (s : Bs) (r : CV) (n : Nat) : ∀ u q, q ++ u = p → ∀ k, u.length < k →
    r21_percents_L2 lb n k k93 an (pcs pc) b39 l40 (p.length : Int) s r (had q x.1) (q.length : Int) = r21_percents_J3 lb n k93 an (pcs pc) b39 l40 (p.length : Int) s r (had p x.1) (p.length : Int)
  | [], q, hq, k, hk => by
    obtain ⟨k, rfl⟩ : ∃ j, k = j + 1 := ⟨k - 1, by simp at hk; omega⟩
    obtain rfl : q = p := by simpa using hq
    rw [r21_percents_L2_succ]
    exact stF (decF (by omega)) rfl
  | y :: u, q, hq, k, hk => by
    obtain ⟨k, rfl⟩ : ∃ j, k = j + 1 := ⟨k - 1, by simp at hk; omega⟩
    have hpl : p.length = q.length + (u.length + 1) := by rw [← hq]; simp
    have hcl : pc.length = p.length + (t.length + 1) := by rw [← h]; simp
    have hy := pc_at (l := pc) (i := q.length) (x := y) (by rw [← h, ← hq]; simp)
    have hz := pc_at (l := pc) (i := p.length) (x := x) (by rw [← h]; simp)
    have ih := pct_inner an pc p t x h hl k93 b39 l40 s r n u (q ++ [y]) (by rw [← hq]; simp) k (by simp at hk; omega)
    rw [show (((q ++ [y]).length : Nat) : Int) = (q.length : Int) + 1 by simp] at ih
    rw [r21_percents_L2_succ]
    refine stT (decT (by omega)) ?_
    cases hm : had q x.1 with
    | true =>
      refine stT rfl ?_
      rw [wrap64 (by omega) (by omega)]
      rw [show had (q ++ [y]) x.1 = true by
        unfold had at hm ⊢
        rw [List.map_append]
        exact decT (List.mem_append_left _ (of_decide_eq_true hm))] at ih
      exact ih
    | false =>
      refine stF rfl (stO _ hy (stC rfl (stO _ rfl (stO _ hz (stC rfl (stO _ rfl (stO _ rfl (stO _ rfl ?_))))))))
      rw [wrap64 (by omega) (by omega)]
      rw [show had (q ++ [y]) x.1 = (y.1 == x.1) by
        unfold had at hm ⊢
        have hm := of_decide_eq_false hm
        rw [List.map_append]
        by_cases e : y.1 = x.1
        · rw [decT (by simp [e]), e]; simp
        · rw [decF (by
            intro hh
            rcases List.mem_append.1 hh with hh | hh
            · exact hm hh
            · simp at hh; exact e hh.symm)]
          exact (beq_eq_false_iff_ne.2 e).symm] at ih
      exact ih
theorem r21_percents_ret (an : Bool) (pc : List (Bs × Int)) (hl : pc.length ≤ 100) (hs : ∀ x ∈ pc, x.1.length ≤ 281474976710656) : Ret lb F_r21_percents [.list an (pcs pc)] (lstFt (pctFt [] pc)) := by
  refine .top rfl (.eq (fun n => by rw [r21_percents_eq]) ?_)
  have loop : ∀ t p, p ++ t = pc → Evt fun n => ∀ k, t.length < k → ∀ F : List Ft, F.length ≤ 3 * p.length → r21_percents_L1 lb n k an (pcs pc) F.isEmpty (F.map ftenc) (p.length : Int) = some (lstFt (F ++ pctFt p t)) := by
    intro t
    induction t with
    | nil =>
      intro p hp
      refine .all fun n k hk F hF => ?_
      obtain ⟨k, rfl⟩ : ∃ j, k = j + 1 := ⟨k - 1, by simp at hk; omega⟩
      obtain rfl : p = pc := by simpa using hp
      rw [r21_percents_L1_succ]
      refine stF (decF (by rw [List.length_map]; omega)) ?_
      rw [r21_percents_J7_eq, pctFt, List.append_nil]
      rfl
    | cons x t ih =>
      intro p hp
      have hcl : pc.length = p.length + (t.length + 1) := by rw [← hp]; simp
      have hx := pc_at (l := pc) (i := p.length) (x := x) (by rw [← hp]; simp)
      have hxs := hs x (by rw [← hp]; simp)
      have hil := itoa_len (z := (p.length : Int)) (by omega) (by omega)
      refine Evt.imp2 (r01_Decimal_ret lb (p.length : Int) (by omega) (by omega)) (Evt.and (ih (p ++ [x]) (by rw [← hp]; simp)) (Evt.and (Evt.ge 200) (r01_Code_ret lb x.1 3 3 hxs))) fun n d ⟨g, hn, cd⟩ k hk F hF => ?_
      obtain ⟨k, rfl⟩ : ∃ j, k = j + 1 := ⟨k - 1, by simp at hk; omega⟩
      have g : ∀ F : List Ft, F.length ≤ 3 * p.length + 3 → r21_percents_L1 lb n k an (pcs pc) F.isEmpty (F.map ftenc) (IntKind.wrap .i64 ((p.length : Int) + 1)) = some (lstFt (F ++ pctFt (p ++ [x]) t)) := fun F hF => by
        rw [wrap64 (by omega) (by omega), show (p.length : Int) + 1 = ((p ++ [x]).length : Int) by simp]
        exact g k (by simp at hk; omega) F (by simp; omega)
      have j6 : ∀ (F : List Ft) (b i), F.length ≤ 3 * p.length + 3 → r21_percents_J6 lb n k an (pcs pc) (p.length : Int) F.isEmpty (F.map ftenc) (pAt p) b i = some (lstFt (F ++ pctFt (p ++ [x]) t)) := fun F b i hF => by
        rw [r21_percents_J6_eq, g F hF]
      have j5 : ∀ (F : List Ft) (b i r), F.length ≤ 3 * p.length + 2 → r21_percents_J5 lb n k an (pcs pc) (p.length : Int) (Lib.itoa (p.length : Int)) b i r F.isEmpty (F.map ftenc) = some (lstFt (F ++ ((if x.2 < 0 ∨ x.2 > 1000 then [(2, pAt p)] else []) ++ pctFt (p ++ [x]) t))) := fun F b i r hF => by
        rw [r21_percents_J5_eq, show ([112, 101, 114, 99, 101, 110, 116, 32] : List UInt8) ++ Lib.itoa (p.length : Int) = pAt p from rfl]
        refine stO _ hx (stC rfl (stO _ rfl (stO _ (asI_i ..) ?_)))
        by_cases k1 : x.2 < 0
        · refine stT (decT k1) (stC (rm1 (by omega)) ?_)
          rw [sn1 F (2, pAt p), sn2 F, j6 _ _ _ (by rw [List.length_append]; simp; omega), if_pos (.inl k1), List.append_assoc]
        refine stF (decF k1) (stO _ hx (stC rfl (stO _ rfl (stO _ (asI_i ..) ?_))))
        by_cases k2 : x.2 > 1000
        · refine stT (decT k2) (stC (rm1 (by omega)) ?_)
          rw [sn1 F (2, pAt p), sn2 F, j6 _ _ _ (by rw [List.length_append]; simp; omega), if_pos (.inr k2), List.append_assoc]
        refine stF (decF k2) ?_
        rw [j6 _ _ _ (by omega), if_neg (by omega), List.nil_append]
      have j4 : ∀ (F : List Ft) (i r), F.length ≤ 3 * p.length + 1 → r21_percents_J4 lb n k an (pcs pc) (p.length : Int) (Lib.itoa (p.length : Int)) (had p x.1) i r F.isEmpty (F.map ftenc) = some (lstFt (F ++ ((if had p x.1 then [(6, pAt p)] else []) ++ ((if x.2 < 0 ∨ x.2 > 1000 then [(2, pAt p)] else []) ++ pctFt (p ++ [x]) t)))) := fun F i r hF => by
        rw [r21_percents_J4_eq, show ([112, 101, 114, 99, 101, 110, 116, 32] : List UInt8) ++ Lib.itoa (p.length : Int) = pAt p from rfl]
        cases hh : had p x.1 with
        | true =>
          refine stT rfl (stC (rm1 (by omega)) ?_)
          rw [sn1 F (6, pAt p), sn2 F, j5 _ _ _ _ (by rw [List.length_append]; simp; omega), if_pos rfl, List.append_assoc]
        | false =>
          refine stF rfl ?_
          rw [j5 _ _ _ _ (by omega), if_neg Bool.false_ne_true, List.nil_append]
      rw [r21_percents_L1_succ]
      refine stT (decT (by rw [List.length_map]; omega)) (stO _ d (stO _ rfl (stC (decT (by simp; omega)) ?_)))
      refine (pct_inner lb an pc p t x hp hl k F.isEmpty (F.map ftenc) (Lib.itoa (p.length : Int)) (.str (Lib.itoa (p.length : Int))) n p [] rfl n (by omega)).trans ?_
      rw [r21_percents_J3_eq, show ([112, 101, 114, 99, 101, 110, 116, 32] : List UInt8) ++ Lib.itoa (p.length : Int) = pAt p from rfl]
      refine stO _ hx (stC rfl (stO _ rfl (stO _ cd (stO _ rfl ?_))))
      rw [pctFt, pctT, List.append_assoc, List.append_assoc]
      cases hc : codeB x.1 3 3 with
      | true =>
        refine stF rfl ?_
        rw [j4 _ _ _ (by omega), if_pos rfl, List.nil_append]
      | false =>
        refine stT rfl (stC (rm1 (by omega)) ?_)
        rw [sn1 F (5, pAt p), sn2 F, j4 _ _ _ (by rw [List.length_append]; simp; omega), if_neg Bool.false_ne_true, List.append_assoc]
  exact (Evt.diag (P := fun n k => ∀ F : List Ft, F.length ≤ 0 → r21_percents_L1 lb n k an (pcs pc) F.isEmpty (F.map ftenc) 0 = some (lstFt (F ++ pctFt [] pc))) (loop pc [] rfl)).mono fun n h => h [] (by simp)
end Go.Proofs
/- Chapter 21 on plain data: the faults of a rule, by the reference. Conditions: as each says. -/
set_option linter.unusedVariables false
set_option linter.unusedSimpArgs false
namespace Go.Proofs
open Go.Am
variable (lb : Nat)
def numT (r : Ru) : List Ft := if r.num < 1 ∨ r.num > 9999 then [(2, wNumber)] else []
def whenT (r : Ru) : List Ft := if checkE r.w ≠ 0 then [(checkE r.w, wWhen)] else []
def st1T (r : Ru) : List Ft := if r.mn < 0 ∨ r.mn > 400 ∨ r.mx < 0 ∨ r.mx > 400 then [(2, wStay)] else []
def st2T (r : Ru) : List Ft := if r.mx > 0 ∧ r.mx < r.mn then [(24, wStay)] else []
def feT (r : Ru) : List Ft := if r.cf < -1 ∨ r.cf > 1099511627776 ∨ r.rf < -1 ∨ r.rf > 1099511627776 then [(2, wFees)] else []
/-- the faults of a rule -/
def chkR (r : Ru) : List Ft := numT r ++ (whenT r ++ (comFt [] r.com ++ (st1T r ++ (st2T r ++ (feT r ++ pctFt [] r.pc)))))
theorem r21_Check_ret (r : Ru) (hf : RFits r) (hw : tsz r.w ≤ 300) (hc : r.com.length ≤ 100) (hp : r.pc.length ≤ 100) : Ret lb F_r21_Check [ruv r] (lstFt (chkR r)) := by
  refine .top rfl (.eq (fun n => by rw [r21_Check_eq]) ?_)
  have e1 := r20_Check_ret lb r.w hf.1 hw
  have e2 := r21_list_ret lb r.cn r.com hc
  have e3 := r21_percents_ret lb r.pn r.pc hp hf.2.2.2
  have cl := comFt_len r.com []
  have pl := pctFt_len r.pc []
  refine Evt.imp2 e1 (Evt.and e2 e3) fun n a1 ⟨a2, a3⟩ => ?_
  have fin : ∀ F : List Ft, F.length ≤ 1000 → (optO (C lb n F_r21_percents [.list r.pn (pcs r.pc)]) fun r35 => optO (CV.asL r35) fun p36 => chkO (p36.2.all (·.length == 2)) (chkO (room ((F.map ftenc).length + p36.2.length) 24) (some (CV.list (F.isEmpty && p36.2.isEmpty) (F.map ftenc ++ p36.2))))) = some (lstFt (F ++ pctFt [] r.pc)) := fun F hF =>
    stO _ a3 (stO _ rfl (stC (all2 _) (stC (rm2 (by omega) (by omega)) (by rw [ap1, ap2]; rfl))))
  have j4 : ∀ (F : List Ft) (r24 : CV) (b26 l27 r28 p29), F.length ≤ 900 → r21_Check_J4 lb n r.num r.w.k r.w.ln (r.w.l.map ccv) r.w.a r.w.b r.w.fr r.w.to r.w.days r.w.tn (scv r.w.t) r.cn (nums1 r.com) r.mn r.mx r.cf r.rf r.pn (pcs r.pc) r24 b26 l27 r28 p29 F.isEmpty (F.map ftenc) = some (lstFt (F ++ (feT r ++ pctFt [] r.pc))) := fun F r24 b26 l27 r28 p29 hF => by
    rw [r21_Check_J4_eq, show ([102, 101, 101, 115] : List UInt8) = wFees from rfl, sn1 F (2, wFees), sn2 F]
    have hit : (r.cf < -1 ∨ r.cf > 1099511627776 ∨ r.rf < -1 ∨ r.rf > 1099511627776) → (optO (C lb n F_r21_percents [.list r.pn (pcs r.pc)]) fun r35 => optO (CV.asL r35) fun p36 => chkO (p36.2.all (·.length == 2)) (chkO (room (((F ++ [(2, wFees)]).map ftenc).length + p36.2.length) 24) (some (CV.list ((F ++ [(2, wFees)]).isEmpty && p36.2.isEmpty) ((F ++ [(2, wFees)]).map ftenc ++ p36.2))))) = some (lstFt (F ++ (feT r ++ pctFt [] r.pc))) := fun h => by
      rw [fin (F ++ [(2, wFees)]) (by rw [List.length_append]; simp; omega), feT, if_pos h, List.append_assoc]
    by_cases k1 : r.cf < -1
    · exact stT (decT k1) (stC (rm1 (by omega)) (hit (.inl k1)))
    refine stF (decF k1) ?_
    by_cases k2 : r.cf > 1099511627776
    · exact stT (decT k2) (stC (rm1 (by omega)) (hit (.inr (.inl k2))))
    refine stF (decF k2) ?_
    by_cases k3 : r.rf < -1
    · exact stT (decT k3) (stC (rm1 (by omega)) (hit (.inr (.inr (.inl k3)))))
    refine stF (decF k3) ?_
    by_cases k4 : r.rf > 1099511627776
    · exact stT (decT k4) (stC (rm1 (by omega)) (hit (.inr (.inr (.inr k4)))))
    refine stF (decF k4) ?_
    rw [feT, if_neg (by omega), List.nil_append]
    exact fin F (by omega)
  have j3 : ∀ (F : List Ft) (r24 : CV) (b26 l27 r28 p29), F.length ≤ 800 → r21_Check_J3 lb n r.num r.w.k r.w.ln (r.w.l.map ccv) r.w.a r.w.b r.w.fr r.w.to r.w.days r.w.tn (scv r.w.t) r.cn (nums1 r.com) r.mn r.mx r.cf r.rf r.pn (pcs r.pc) r24 b26 l27 r28 p29 F.isEmpty (F.map ftenc) = some (lstFt (F ++ (st2T r ++ (feT r ++ pctFt [] r.pc)))) := fun F r24 b26 l27 r28 p29 hF => by
    rw [r21_Check_J3_eq]
    by_cases k1 : r.mx > 0
    · refine stT (decT k1) ?_
      by_cases k2 : r.mx < r.mn
      · refine stT (decT k2) (stC (rm1 (by omega)) ?_)
        rw [show ([115, 116, 97, 121] : List UInt8) = wStay from rfl, sn1 F (24, wStay), sn2 F, j4 _ _ _ _ _ _ (by rw [List.length_append]; simp; omega), st2T, if_pos ⟨k1, k2⟩, List.append_assoc]
      · refine stF (decF k2) ?_
        rw [j4 _ _ _ _ _ _ (by omega), st2T, if_neg (fun h => k2 h.2), List.nil_append]
    · refine stF (decF k1) ?_
      rw [j4 _ _ _ _ _ _ (by omega), st2T, if_neg (fun h => k1 h.1), List.nil_append]
  have j2 : ∀ (F : List Ft) (r24 : CV), F.length ≤ 10 → r21_Check_J2 lb n r.num r.w.k r.w.ln (r.w.l.map ccv) r.w.a r.w.b r.w.fr r.w.to r.w.days r.w.tn (scv r.w.t) r.cn (nums1 r.com) r.mn r.mx r.cf r.rf r.pn (pcs r.pc) r24 F.isEmpty (F.map ftenc) = some (lstFt (F ++ (comFt [] r.com ++ (st1T r ++ (st2T r ++ (feT r ++ pctFt [] r.pc)))))) := fun F r24 hF => by
    rw [r21_Check_J2_eq]
    refine stO _ a2 (stO _ rfl (stC (all2 _) (stC (rm2 (by omega) (by omega)) ?_)))
    show (bif (decide (r.mn < 0)) then _ else _) = _
    rw [show ((F.isEmpty && ((comFt [] r.com).map ftenc).isEmpty) = (F ++ comFt [] r.com).isEmpty) from ap1 _ _, show (F.map ftenc ++ (comFt [] r.com).map ftenc = (F ++ comFt [] r.com).map ftenc) from ap2 _ _]
    obtain ⟨G, hG⟩ : ∃ G, G = F ++ comFt [] r.com := ⟨_, rfl⟩
    have hGl : G.length ≤ 300 := by rw [hG, List.length_append]; omega
    rw [← List.append_assoc F, ← hG, show ([115, 116, 97, 121] : List UInt8) = wStay from rfl, sn1 G (2, wStay), sn2 G]
    have hit : ∀ (b26 l27 r28 p29), (r.mn < 0 ∨ r.mn > 400 ∨ r.mx < 0 ∨ r.mx > 400) → r21_Check_J3 lb n r.num r.w.k r.w.ln (r.w.l.map ccv) r.w.a r.w.b r.w.fr r.w.to r.w.days r.w.tn (scv r.w.t) r.cn (nums1 r.com) r.mn r.mx r.cf r.rf r.pn (pcs r.pc) r24 b26 l27 r28 p29 (G ++ [(2, wStay)]).isEmpty ((G ++ [(2, wStay)]).map ftenc) = some (lstFt (G ++ (st1T r ++ (st2T r ++ (feT r ++ pctFt [] r.pc))))) := fun b26 l27 r28 p29 h => by
      rw [j3 _ _ _ _ _ _ (by rw [List.length_append]; simp; omega), st1T, if_pos h, List.append_assoc]
    by_cases k1 : r.mn < 0
    · exact stT (decT k1) (stC (rm1 (by omega)) (hit _ _ _ _ (.inl k1)))
    refine stF (decF k1) ?_
    by_cases k2 : r.mn > 400
    · exact stT (decT k2) (stC (rm1 (by omega)) (hit _ _ _ _ (.inr (.inl k2))))
    refine stF (decF k2) ?_
    by_cases k3 : r.mx < 0
    · exact stT (decT k3) (stC (rm1 (by omega)) (hit _ _ _ _ (.inr (.inr (.inl k3)))))
    refine stF (decF k3) ?_
    by_cases k4 : r.mx > 400
    · exact stT (decT k4) (stC (rm1 (by omega)) (hit _ _ _ _ (.inr (.inr (.inr k4)))))
    refine stF (decF k4) ?_
    rw [j3 _ _ _ _ _ _ (by omega), st1T, if_neg (by omega), List.nil_append]
  have j1 : ∀ F : List Ft, F.length ≤ 5 → r21_Check_J1 lb n r.num r.w.k r.w.ln (r.w.l.map ccv) r.w.a r.w.b r.w.fr r.w.to r.w.days r.w.tn (scv r.w.t) r.cn (nums1 r.com) r.mn r.mx r.cf r.rf r.pn (pcs r.pc) F.isEmpty (F.map ftenc) = some (lstFt (F ++ (whenT r ++ (comFt [] r.com ++ (st1T r ++ (st2T r ++ (feT r ++ pctFt [] r.pc))))))) := fun F hF => by
    rw [r21_Check_J1_eq]
    refine stO _ a1 (stO _ (asI_i ..) ?_)
    by_cases k1 : checkE r.w ≠ 0
    · refine stT (bneT k1) (stC rfl (stC (rm1 (by omega)) ?_))
      rw [show ([119, 104, 101, 110] : List UInt8) = wWhen from rfl, sn1 F (checkE r.w, wWhen), sn2 F, j2 _ _ (by rw [List.length_append]; simp; omega), whenT, if_pos k1, List.append_assoc]
    · have k1 := Classical.byContradiction k1
      refine stF (bneF k1) ?_
      rw [j2 _ _ (by omega), whenT, if_neg (fun h => h k1), List.nil_append]
  unfold chkR numT
  by_cases k1 : r.num < 1
  · rw [if_pos (.inl k1)]
    exact stT (decT k1) (j1 [(2, wNumber)] (by simp))
  refine stF (decF k1) ?_
  by_cases k2 : r.num > 9999
  · rw [if_pos (.inr k2)]
    exact stT (decT k2) (j1 [(2, wNumber)] (by simp))
  refine stF (decF k2) ?_
  rw [if_neg (by omega)]
  exact j1 [] (by simp)
end Go.Proofs
