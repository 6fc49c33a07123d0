/- Chapter 20 on plain data: conditions, their sizes, levels and errors. Conditions: none; definitions and plain laws. -/
import Derived.Test.YtmefepdgnkhagaaGreatDoorRk
import Derived.Test.YtmefepdgnkhagaaGreatDoorDf
import Derived.Test.YtmefepdgnkhagaaGreatDoorHa
import Derived.Test.YtmefepdgnkhagaaGreatDoorHc
import Derived.Test.YtmefepdgnkhagaaGreatDoorRc
import Derived.Test.YtmefepdgnkhagaaGreatDoorHb
import Derived.Test.YtmefepdgnkhagaaGreatDoorKA
import Derived.Test.YtmefepdgnkhagaaGreatDoorHd
import Derived.Test.YtmefepdgnkhagaaGreatDoorRy
import Derived.Test.YtmefepdgnkhagaaGreatDoorHe
set_option linter.unusedVariables false
set_option linter.unusedSimpArgs false
namespace Go.Proofs
open Go.Am
/-- a condition -/
inductive Cd where
  | mk (k : Int) (ln : Bool) (l : List Cd) (a b fr to days : Int) (tn : Bool) (t : List Bs)
namespace Cd
def k : Cd → Int | mk x .. => x
def ln : Cd → Bool | mk _ x .. => x
def l : Cd → List Cd | mk _ _ x .. => x
def a : Cd → Int | mk _ _ _ x .. => x
def b : Cd → Int | mk _ _ _ _ x .. => x
def fr : Cd → Int | mk _ _ _ _ _ x .. => x
def to : Cd → Int | mk _ _ _ _ _ _ x .. => x
def days : Cd → Int | mk _ _ _ _ _ _ _ x .. => x
def tn : Cd → Bool | mk _ _ _ _ _ _ _ _ x _ => x
def t : Cd → List Bs | mk _ _ _ _ _ _ _ _ _ x => x
end Cd
/-- an induction over conditions -/
theorem Cd.ind {P : Cd → Prop} (h : ∀ c : Cd, (∀ x ∈ c.l, P x) → P c) (c : Cd) : P c :=
  Cd.rec (motive_1 := P) (motive_2 := fun l => ∀ x ∈ l, P x) (fun k ln l a b fr to days tn t ih => h (.mk k ln l a b fr to days tn t) ih) (fun x hx => by cases hx)
    (fun y r hy hr x hx => by
      rcases List.mem_cons.1 hx with rfl | hx
      · exact hy
      · exact hr x hx) c
mutual
def ccv : Cd → List CV
  | .mk k ln l a b fr to days tn t => [.int .i64 k, .list ln (ccvs l), .int .i64 a, .int .i64 b, .int .i64 fr, .int .i64 to, .int .i64 days, .list tn (scv t)]
def ccvs : List Cd → List (List CV)
  | [] => []
  | c :: r => ccv c :: ccvs r
end
theorem ccvs_map : ∀ l : List Cd, ccvs l = l.map ccv
  | [] => rfl
  | c :: r => by rw [ccvs, ccvs_map r]; rfl
theorem ccv_eq (c : Cd) : ccv c = [.int .i64 c.k, .list c.ln (c.l.map ccv), .int .i64 c.a, .int .i64 c.b, .int .i64 c.fr, .int .i64 c.to, .int .i64 c.days, .list c.tn (scv c.t)] := by
  cases c with
  | mk k ln l a b fr to days tn t => rw [ccv, ccvs_map]; rfl
abbrev w64 (x : Int) : Int := IntKind.wrap .i64 x
/-! sizes and levels, as the machine reckons -/
mutual
def levC : Cd → Int
  | .mk _ _ l .. => w64 (levs 0 l + 1)
def levs : Int → List Cd → Int
  | n, [] => n
  | n, c :: r => levs (if levC c > n then levC c else n) r
end
mutual
def sizC : Cd → Int
  | .mk _ _ l .. => sizs 1 l
def sizs : Int → List Cd → Int
  | n, [] => n
  | n, c :: r => sizs (w64 (n + sizC c)) r
end
theorem levC_eq (c : Cd) : levC c = w64 (levs 0 c.l + 1) := by cases c; rw [levC]; rfl
theorem sizC_eq (c : Cd) : sizC c = sizs 1 c.l := by cases c; rw [sizC]; rfl
/- the number of parts -/
mutual
def tsz : Cd → Nat
  | .mk _ _ l .. => 1 + tszs l
def tszs : List Cd → Nat
  | [] => 0
  | c :: r => tsz c + tszs r
end
theorem tsz_eq (c : Cd) : tsz c = 1 + tszs c.l := by cases c; rw [tsz]; rfl
/-- the bytes of the first texts -/
def txtLen (t : List Bs) : Int := ((t.take 200).map fun s => (s.length : Int)).sum
/- is a condition too large for the laws? -/
mutual
def lgC : Cd → Bool
  | .mk k ln l a b fr to days tn t => if sizC (.mk k ln l a b fr to days tn t) > 300 then true else if lgs l then true else decide ((t.length : Int) + txtLen t > 400)
def lgs : List Cd → Bool
  | [] => false
  | c :: r => if lgC c then true else lgs r
end
theorem lgC_eq (c : Cd) : lgC c = if sizC c > 300 then true else if lgs c.l then true else decide ((c.t.length : Int) + txtLen c.t > 400) := by cases c; rw [lgC]; rfl
/- lists are as long as memory allows -/
mutual
def Fits : Cd → Prop
  | .mk k ln l a b fr to days tn t => l.length ≤ 281474976710656 ∧ FitsL l ∧ t.length ≤ 281474976710656 ∧ ∀ s ∈ t, s.length ≤ 281474976710656
def FitsL : List Cd → Prop
  | [] => True
  | c :: r => Fits c ∧ FitsL r
end
theorem fitsL_all : ∀ l : List Cd, FitsL l ↔ ∀ x ∈ l, Fits x
  | [] => by simp [FitsL]
  | c :: r => by rw [FitsL, fitsL_all r]; simp
theorem fits_eq (c : Cd) : Fits c ↔ c.l.length ≤ 281474976710656 ∧ (∀ x ∈ c.l, Fits x) ∧ c.t.length ≤ 281474976710656 ∧ ∀ s ∈ c.t, s.length ≤ 281474976710656 := by
  cases c
  rw [Fits, fitsL_all]
  rfl
theorem lgs_false : ∀ {l : List Cd}, lgs l = false → ∀ x ∈ l, lgC x = false
  | [], _, _, h => by cases h
  | c :: r, h, x, hx => by
    rw [lgs] at h
    split at h
    · cases h
    · rename_i q
      rcases List.mem_cons.1 hx with rfl | hx
      · simpa using q
      · exact lgs_false h x hx
theorem sizs_tsz : ∀ (l : List Cd) (n : Int) (B : Nat), 0 ≤ n → (∀ x ∈ l, sizC x = tsz x ∧ tsz x ≤ 300) → n + 300 * l.length ≤ 9223372036854775807 → sizs n l = n + tszs l
  | [], n, B, _, _, _ => by rw [sizs, tszs]; simp
  | c :: r, n, B, h0, h, hn => by
    obtain ⟨h1, h2⟩ := h c (by simp)
    simp only [List.length_cons] at hn
    rw [sizs, tszs, h1, w64, wrap64 (by omega) (by omega), sizs_tsz r (n + tsz c) B (by omega) (fun x hx => h x (by simp [hx])) (by omega)]
    omega
/-- what is not too large has at most 300 parts -/
theorem small_size : ∀ c : Cd, Fits c → lgC c = false → sizC c = tsz c ∧ tsz c ≤ 300 := by
  refine Cd.ind fun c ih hf h => ?_
  obtain ⟨f1, f2, _, _⟩ := (fits_eq c).1 hf
  rw [lgC_eq] at h
  split at h
  · cases h
  · rename_i q1
    split at h
    · cases h
    · rename_i q2
      have hl := lgs_false (by simpa using q2)
      have := sizs_tsz c.l 1 0 (by omega) (fun x hx => ih x hx (f2 x hx) (hl x hx)) (by omega)
      have e1 : sizC c = (tsz c : Int) := by rw [sizC_eq, this, tsz_eq]; omega
      exact ⟨e1, by omega⟩
theorem small_sub {c : Cd} (h : lgC c = false) : ∀ x ∈ c.l, lgC x = false := by
  rw [lgC_eq] at h
  split at h
  · cases h
  · split at h
    · cases h
    · rename_i q
      exact lgs_false (by simpa using q)
theorem small_txt {c : Cd} (h : lgC c = false) : (c.t.length : Int) + txtLen c.t ≤ 400 := by
  rw [lgC_eq] at h
  split at h
  · cases h
  · split at h
    · cases h
    · simpa using h
theorem tszs_mem : ∀ {l : List Cd} {x : Cd}, x ∈ l → tsz x ≤ tszs l
  | [], _, h => by cases h
  | c :: r, x, h => by
    rw [tszs]
    rcases List.mem_cons.1 h with rfl | h
    · omega
    · have := tszs_mem h
      omega
theorem tsz_pos (c : Cd) : 1 ≤ tsz c := by rw [tsz_eq]; omega
theorem tszs_len : ∀ l : List Cd, l.length ≤ tszs l
  | [] => by simp [tszs]
  | c :: r => by
    have := tszs_len r
    have := tsz_pos c
    rw [tszs, List.length_cons]
    omega
end Go.Proofs
/- Chapter 20 on plain data: levels and sizes, by the program and by its reference; what is too large. Conditions: as each says. -/
set_option linter.unusedVariables false
set_option linter.unusedSimpArgs false
namespace Go.Proofs
open Go.Am
variable (lb : Nat)
/-- a condition as a value -/
abbrev cdv (c : Cd) : CV := .agg [.int .i64 c.k, .list c.ln (c.l.map ccv), .int .i64 c.a, .int .i64 c.b, .int .i64 c.fr, .int .i64 c.to, .int .i64 c.days, .list c.tn (scv c.t)]
theorem cd_at {l : List Cd} {i : Nat} {x : Cd} (h : l[i]? = some x) : atL (l.map ccv) (i : Int) = some [.int .i64 x.k, .list x.ln (x.l.map ccv), .int .i64 x.a, .int .i64 x.b, .int .i64 x.fr, .int .i64 x.to, .int .i64 x.days, .list x.tn (scv x.t)] := by
  rw [← ccv_eq]
  exact atL_ok (by simp [h])
/-- a function of conditions, by induction -/
theorem cd_ret {f : FuncId} {v : Cd → CV} {G : Cd → Prop} (hG : ∀ c, G c → ∀ x ∈ c.l, G x) (h : ∀ c, G c → (Evt fun n => ∀ x ∈ c.l, C lb n f [cdv x] = some (v x)) → Ret lb f [cdv c] (v c)) : ∀ c, G c → Ret lb f [cdv c] (v c) :=
  Cd.ind fun c ih hg => h c hg (Evt.fin _ fun x hx => ih x hx (hG c hg x hx))
theorem fits_sub : ∀ c : Cd, Fits c → ∀ x ∈ c.l, Fits x := fun c h => ((fits_eq c).1 h).2.1
theorem fits_len {c : Cd} (h : Fits c) : c.l.length ≤ 281474976710656 := ((fits_eq c).1 h).1
theorem fits_tlen {c : Cd} (h : Fits c) : c.t.length ≤ 281474976710656 ∧ ∀ s ∈ c.t, s.length ≤ 281474976710656 := ((fits_eq c).1 h).2.2
theorem cond_levels_ret : ∀ c : Cd, Fits c → Ret lb F_cond_levels [cdv c] (.int .i64 (levC c)) := by
  refine cd_ret lb fits_sub fun c hf hs => .top rfl (.eq (fun n => by rw [cond_levels_eq]) ?_)
  have hl := fits_len hf
  have hh : ∀ n, (∀ x ∈ c.l, C lb n F_cond_levels [cdv x] = some (.int .i64 (levC x))) → ∀ t p, p ++ t = c.l → ∀ k, t.length < k → ∀ m, cond_levels_L1 lb n k c.k c.ln (c.l.map ccv) c.a c.b c.fr c.to c.days c.tn (scv c.t) m (p.length : Int) = some (.int .i64 (w64 (levs m t + 1))) := by
    intro n hs t
    induction t with
    | nil =>
      intro p hp k hk m
      obtain ⟨k, rfl⟩ : ∃ j, k = j + 1 := ⟨k - 1, by simp at hk; omega⟩
      have hpl : p = c.l := by simpa using hp
      rw [cond_levels_L1_succ]
      refine stF (decF (by rw [hpl, List.length_map]; omega)) ?_
      rw [cond_levels_J2_eq, levs]
    | cons x t ih =>
      intro p hp k hk m
      obtain ⟨k, rfl⟩ : ∃ j, k = j + 1 := ⟨k - 1, by simp at hk; omega⟩
      have hpl : c.l.length = p.length + (t.length + 1) := by rw [← hp]; simp
      have hat := cd_at (l := c.l) (i := p.length) (x := x) (by rw [← hp]; simp)
      rw [cond_levels_L1_succ]
      refine stT (decT (by rw [List.length_map]; omega)) (stO _ hat (stC rfl (stO _ rfl (stO _ rfl (stO _ rfl (stO _ rfl (stO _ rfl (stO _ rfl (stO _ rfl (stO _ rfl (stO _ (hs x (by rw [← hp]; simp)) (stO _ (asI_i ..) ?_))))))))))))
      rw [wrap64 (by omega) (by omega), show (p.length : Int) + 1 = ((p ++ [x]).length : Int) by simp, levs]
      exact ih (p ++ [x]) (by rw [← hp]; simp) k (by simp at hk; omega) _
  rw [levC_eq]
  exact Evt.imp2 hs (Evt.ge (c.l.length + 1)) fun n a hn => hh n a c.l [] rfl n (by omega) 0
theorem r20_levels_ret : ∀ c : Cd, Fits c → Ret lb F_r20_levels [cdv c] (.int .i64 (levC c)) := by
  refine cd_ret lb fits_sub fun c hf hs => .top rfl (.eq (fun n => by rw [r20_levels_eq]) ?_)
  have hl := fits_len hf
  have hh : ∀ n, (∀ x ∈ c.l, C lb n F_r20_levels [cdv x] = some (.int .i64 (levC x))) → ∀ t p, p ++ t = c.l → ∀ k, t.length < k → ∀ m, r20_levels_L1 lb n k c.k c.ln (c.l.map ccv) c.a c.b c.fr c.to c.days c.tn (scv c.t) m (p.length : Int) = some (.int .i64 (w64 (levs m t + 1))) := by
    intro n hs t
    induction t with
    | nil =>
      intro p hp k hk m
      obtain ⟨k, rfl⟩ : ∃ j, k = j + 1 := ⟨k - 1, by simp at hk; omega⟩
      have hpl : p = c.l := by simpa using hp
      rw [r20_levels_L1_succ]
      refine stF (decF (by rw [hpl, List.length_map]; omega)) ?_
      rw [r20_levels_J2_eq, levs]
    | cons x t ih =>
      intro p hp k hk m
      obtain ⟨k, rfl⟩ : ∃ j, k = j + 1 := ⟨k - 1, by simp at hk; omega⟩
      have hpl : c.l.length = p.length + (t.length + 1) := by rw [← hp]; simp
      have hat := cd_at (l := c.l) (i := p.length) (x := x) (by rw [← hp]; simp)
      rw [r20_levels_L1_succ]
      refine stT (decT (by rw [List.length_map]; omega)) (stO _ hat (stC rfl (stO _ rfl (stO _ rfl (stO _ rfl (stO _ rfl (stO _ rfl (stO _ rfl (stO _ rfl (stO _ rfl (stO _ (hs x (by rw [← hp]; simp)) (stO _ (asI_i ..) ?_))))))))))))
      rw [wrap64 (by omega) (by omega), show (p.length : Int) + 1 = ((p ++ [x]).length : Int) by simp, levs]
      exact ih (p ++ [x]) (by rw [← hp]; simp) k (by simp at hk; omega) _
  rw [levC_eq]
  exact Evt.imp2 hs (Evt.ge (c.l.length + 1)) fun n a hn => hh n a c.l [] rfl n (by omega) 0
theorem cond_Size_ret : ∀ c : Cd, Fits c → Ret lb F_cond_Size [cdv c] (.int .i64 (sizC c)) := by
  refine cd_ret lb fits_sub fun c hf hs => .top rfl (.eq (fun n => by rw [cond_Size_eq]) ?_)
  have hl := fits_len hf
  have hh : ∀ n, (∀ x ∈ c.l, C lb n F_cond_Size [cdv x] = some (.int .i64 (sizC x))) → ∀ t p, p ++ t = c.l → ∀ k, t.length < k → ∀ m, cond_Size_L1 lb n k c.k c.ln (c.l.map ccv) c.a c.b c.fr c.to c.days c.tn (scv c.t) m (p.length : Int) = some (.int .i64 (sizs m t)) := by
    intro n hs t
    induction t with
    | nil =>
      intro p hp k hk m
      obtain ⟨k, rfl⟩ : ∃ j, k = j + 1 := ⟨k - 1, by simp at hk; omega⟩
      have hpl : p = c.l := by simpa using hp
      rw [cond_Size_L1_succ]
      refine stF (decF (by rw [hpl, List.length_map]; omega)) ?_
      rw [cond_Size_J2_eq, sizs]
    | cons x t ih =>
      intro p hp k hk m
      obtain ⟨k, rfl⟩ : ∃ j, k = j + 1 := ⟨k - 1, by simp at hk; omega⟩
      have hpl : c.l.length = p.length + (t.length + 1) := by rw [← hp]; simp
      have hat := cd_at (l := c.l) (i := p.length) (x := x) (by rw [← hp]; simp)
      rw [cond_Size_L1_succ]
      refine stT (decT (by rw [List.length_map]; omega)) (stO _ hat (stC rfl (stO _ rfl (stO _ rfl (stO _ rfl (stO _ rfl (stO _ rfl (stO _ rfl (stO _ rfl (stO _ rfl (stO _ (hs x (by rw [← hp]; simp)) (stO _ (asI_i ..) ?_))))))))))))
      rw [wrap64 (x := (p.length : Int) + 1) (by omega) (by omega), show (p.length : Int) + 1 = ((p ++ [x]).length : Int) by simp, sizs]
      exact ih (p ++ [x]) (by rw [← hp]; simp) k (by simp at hk; omega) _
  rw [sizC_eq]
  exact Evt.imp2 hs (Evt.ge (c.l.length + 1)) fun n a hn => hh n a c.l [] rfl n (by omega) 1
theorem r20_Size_ret : ∀ c : Cd, Fits c → Ret lb F_r20_Size [cdv c] (.int .i64 (sizC c)) := by
  refine cd_ret lb fits_sub fun c hf hs => .top rfl (.eq (fun n => by rw [r20_Size_eq]) ?_)
  have hl := fits_len hf
  have hh : ∀ n, (∀ x ∈ c.l, C lb n F_r20_Size [cdv x] = some (.int .i64 (sizC x))) → ∀ t p, p ++ t = c.l → ∀ k, t.length < k → ∀ m, r20_Size_L1 lb n k c.k c.ln (c.l.map ccv) c.a c.b c.fr c.to c.days c.tn (scv c.t) m (p.length : Int) = some (.int .i64 (sizs m t)) := by
    intro n hs t
    induction t with
    | nil =>
      intro p hp k hk m
      obtain ⟨k, rfl⟩ : ∃ j, k = j + 1 := ⟨k - 1, by simp at hk; omega⟩
      have hpl : p = c.l := by simpa using hp
      rw [r20_Size_L1_succ]
      refine stF (decF (by rw [hpl, List.length_map]; omega)) ?_
      rw [r20_Size_J2_eq, sizs]
    | cons x t ih =>
      intro p hp k hk m
      obtain ⟨k, rfl⟩ : ∃ j, k = j + 1 := ⟨k - 1, by simp at hk; omega⟩
      have hpl : c.l.length = p.length + (t.length + 1) := by rw [← hp]; simp
      have hat := cd_at (l := c.l) (i := p.length) (x := x) (by rw [← hp]; simp)
      rw [r20_Size_L1_succ]
      refine stT (decT (by rw [List.length_map]; omega)) (stO _ hat (stC rfl (stO _ rfl (stO _ rfl (stO _ rfl (stO _ rfl (stO _ rfl (stO _ rfl (stO _ rfl (stO _ rfl (stO _ (hs x (by rw [← hp]; simp)) (stO _ (asI_i ..) ?_))))))))))))
      rw [wrap64 (x := (p.length : Int) + 1) (by omega) (by omega), show (p.length : Int) + 1 = ((p ++ [x]).length : Int) by simp, sizs]
      exact ih (p ++ [x]) (by rw [← hp]; simp) k (by simp at hk; omega) _
  rw [sizC_eq]
  exact Evt.imp2 hs (Evt.ge (c.l.length + 1)) fun n a hn => hh n a c.l [] rfl n (by omega) 1
/-! what is too large -/
theorem txt_at {t : List Bs} {i : Nat} {s : Bs} (h : t[i]? = some s) : atL (scv t) (i : Int) = some [.str s] := atL_ok (scv_get h)
def txtSum (t : List Bs) : Int := (t.map fun s => (s.length : Int)).sum
theorem txtSum_nn (t : List Bs) : 0 ≤ txtSum t := by
  induction t with
  | nil => simp [txtSum]
  | cons x t ih => simp only [txtSum, List.map_cons, List.sum_cons] at ih ⊢; omega
/-- a trip -/
structure Tp where
  ty : Bs
  sale : Int
  day : Int
  min : Int
  stops : Int
  tr : Int
  cn : Bool
  car : List Bs
  nn : Bool
  nums : List Int
  vn : Bool
  vias : List Bs
abbrev tpv (t : Tp) : CV := .agg [.str t.ty, .int .i64 t.sale, .int .i64 t.day, .int .i64 t.min, .int .i64 t.stops, .int .i64 t.tr, .list t.cn (scv t.car), .list t.nn (t.nums.map fun z => [CV.int .i64 z]), .list t.vn (scv t.vias)]
def farT (t : Tp) : Bool :=
  if (if t.sale < t.day then t.sale else t.day) < -1099511627776 then true else if (if t.sale > t.day then t.sale else t.day) > 1099511627776 then true else
  if (t.car.length : Int) > 100 then true else if (t.nums.length : Int) > 100 then true else decide ((t.vias.length : Int) > 100)
theorem farT_false {t : Tp} (h : farT t = false) : -1099511627776 ≤ t.sale ∧ t.sale ≤ 1099511627776 ∧ -1099511627776 ≤ t.day ∧ t.day ≤ 1099511627776 ∧ t.car.length ≤ 100 ∧ t.nums.length ≤ 100 ∧ t.vias.length ≤ 100 := by
  unfold farT at h
  by_cases h1 : (if t.sale < t.day then t.sale else t.day) < -1099511627776
  · rw [if_pos h1] at h; cases h
  rw [if_neg h1] at h
  by_cases h2 : (if t.sale > t.day then t.sale else t.day) > 1099511627776
  · rw [if_pos h2] at h; cases h
  rw [if_neg h2] at h
  by_cases h3 : (t.car.length : Int) > 100
  · rw [if_pos h3] at h; cases h
  rw [if_neg h3] at h
  by_cases h4 : (t.nums.length : Int) > 100
  · rw [if_pos h4] at h; cases h
  rw [if_neg h4] at h
  have h5 := of_decide_eq_false h
  split at h1 <;> split at h2 <;> omega
end Go.Proofs
/- Chapter 20 on plain data: lists of codes, by the program and by its reference. Conditions: as each says. -/
set_option linter.unusedVariables false
set_option linter.unusedSimpArgs false
namespace Go.Proofs
open Go.Am
variable (lb : Nat)
def strAt (i : Nat) (x : Bs) : List Bs → Int
  | [] => -1
  | y :: t => if x = y then (i : Int) else strAt (i + 1) x t
theorem strAt_ge (x : Bs) : ∀ (l : List Bs) (i : Nat), (0 ≤ strAt i x l) ↔ x ∈ l
  | [], i => by simp [strAt]
  | y :: t, i => by
    unfold strAt
    by_cases h : x = y
    · simp [h]
    · rw [if_neg h, strAt_ge x t (i + 1)]
      simp [h]
theorem index_str_ret (an : Bool) (l : List Bs) (x : Bs) (hl : l.length ≤ 281474976710656) : Ret lb F_slices_Index_string [.list an (scv l), .str x] (.int .i64 (strAt 0 x l)) := by
  refine .top rfl (.eq (fun n => by rw [slices_Index_string_eq]) ?_)
  refine Evt.diag (m := l.length) (loopL (enc := fun s => [CV.str s]) (l := l) (by omega) (P := fun p t n k => slices_Index_string_L1 lb n k an (scv l) x (p.length : Int) = some (.int .i64 (strAt p.length x t))) ?_ ?_ l [] rfl)
  · refine .all fun n k => ?_
    rw [slices_Index_string_L1_succ]
    refine stF (decF (by rw [scv_len]; omega)) ?_
    rw [slices_Index_string_J2_eq]
    rfl
  · intro p y t hp hlt hat hw hev
    refine hev.mono fun n hn k hk => ?_
    rw [slices_Index_string_L1_succ]
    refine stT (decT hlt) (stO _ hat (stC rfl (stO _ rfl (stO _ rfl ?_))))
    unfold strAt
    by_cases h : x = y
    · refine stT (by simp [h]) ?_
      rw [if_pos h]
    · refine stF (by simp [h]) ?_
      rw [if_neg h, hw, hn k hk]
      simp
theorem contains_str_ret (an : Bool) (l : List Bs) (x : Bs) (hl : l.length ≤ 281474976710656) : Ret lb F_slices_Contains_string [.list an (scv l), .str x] (.bool (decide (x ∈ l))) := by
  refine .top rfl (.eq (fun n => by rw [slices_Contains_string_eq]) ?_)
  refine .call (index_str_ret lb an l x hl) (.all fun n => stO _ (asI_i ..) ?_)
  rw [show decide (strAt 0 x l ≥ 0) = decide (x ∈ l) from decide_eq_decide.2 (strAt_ge x l 0)]
theorem r20_has_ret (an : Bool) (l : List Bs) (x : Bs) (hl : l.length ≤ 281474976710656) : Ret lb F_r20_has [.list an (scv l), .str x] (.bool (decide (x ∈ l))) := by
  refine .top rfl (.eq (fun n => by rw [r20_has_eq]) ?_)
  have key : ∀ (p t : List Bs), p ++ t = l → x ∉ p → decide (x ∈ l) = decide (x ∈ t) := fun p t h hp => decide_eq_decide.2 (by rw [← h]; simp [hp])
  refine Evt.diag (m := l.length) ((loopL (enc := fun s => [CV.str s]) (l := l) (by omega) (P := fun p t n k => r20_has_L1 lb n k an (scv l) x (p.length : Int) = some (.bool (decide (x ∈ t)))) ?_ ?_ l [] rfl))
  · refine .all fun n k => ?_
    rw [r20_has_L1_succ]
    refine stF (decF (by rw [scv_len]; omega)) ?_
    rw [r20_has_J2_eq]
    simp
  · intro p y t hp hlt hat hw hev
    refine hev.mono fun n hn k hk => ?_
    rw [r20_has_L1_succ]
    refine stT (decT hlt) (stO _ hat (stC rfl (stO _ rfl (stO _ rfl ?_))))
    by_cases h : y = x
    · refine stT (by simp [h]) ?_
      simp [h]
    · refine stF (by simp [h]) ?_
      rw [hw, hn k hk, show decide (x ∈ y :: t) = decide (x ∈ t) from decide_eq_decide.2 (by simp [Ne.symm h])]
/-- the error of codes behind others -/
def codesF (ok : Bs → Bool) : List Bs → List Bs → Int
  | _, [] => 0
  | p, s :: r => if ok s = false then 5 else if s ∈ p then 6 else codesF ok (p ++ [s]) r
theorem take_pre {α : Type} {p t l : List α} (h : p ++ t = l) : (l.take ((p.length : Int)).toNat).drop 0 = p := by
  rw [Int.toNat_natCast, ← h]
  simp
def paxB (s : Bs) : Bool := codeB s 3 3
theorem cond_passenger_ret (s : Bs) (hs : s.length ≤ 281474976710656) : Ret lb F_cond_passenger [.str s] (.bool (paxB s)) := by
  refine .top rfl (.eq (fun n => by rw [cond_passenger_eq]) ?_)
  exact (text_Code_ret lb s 3 3 hs).mono fun n a => stO _ a rfl

theorem codes_text_Carrier_ret (an : Bool) (l : List Bs) (hl : l.length ≤ 281474976710656) (hs : ∀ s ∈ l, s.length ≤ 281474976710656) :
    Ret lb F_cond_codes [.list an (scv l), .fn F_text_Carrier] (.int .i64 (if l = [] then 2 else codesF carrierB [] l)) := by
  refine .top rfl (.eq (fun n => by rw [cond_codes_text_Carrier_eq]) ?_)
  by_cases h0 : l = []
  · subst h0
    exact .all fun n => stT rfl rfl
  rw [if_neg h0]
  have hp := List.length_pos_iff.2 h0
  have e1 : Evt fun n => ∀ s ∈ l, C lb n F_text_Carrier [.str s] = some (.bool (carrierB s)) := Evt.fin _ fun s h => text_Carrier_ret lb s (hs s h)
  have e2 : Evt fun n => ∀ q ∈ (List.range (l.length + 1)).map (fun i => l.take i), ∀ s ∈ l, C lb n F_slices_Contains_string [.list an (scv q), .str s] = some (.bool (decide (s ∈ q))) := Evt.fin _ fun q hq => Evt.fin _ fun s h => contains_str_ret lb an q s (by
    obtain ⟨i, _, rfl⟩ := List.mem_map.1 hq
    simp; omega)
  have hh : ∀ n, (∀ s ∈ l, C lb n F_text_Carrier [.str s] = some (.bool (carrierB s))) → (∀ q ∈ (List.range (l.length + 1)).map (fun i => l.take i), ∀ s ∈ l, C lb n F_slices_Contains_string [.list an (scv q), .str s] = some (.bool (decide (s ∈ q)))) →
      ∀ t p, p ++ t = l → ∀ k, t.length < k → cond_codes_text_Carrier_L1 lb n k an (scv l) (p.length : Int) = some (.int .i64 (codesF carrierB p t)) := by
    intro n a1 a2 t
    induction t with
    | nil =>
      intro p hp k hk
      obtain ⟨k, rfl⟩ : ∃ j, k = j + 1 := ⟨k - 1, by simp at hk; omega⟩
      have hpl : p = l := by simpa using hp
      rw [cond_codes_text_Carrier_L1_succ]
      refine stF (decF (by rw [hpl, scv_len]; omega)) ?_
      rw [cond_codes_text_Carrier_J2_eq]
      rfl
    | cons x t ih =>
      intro p hp k hk
      obtain ⟨k, rfl⟩ : ∃ j, k = j + 1 := ⟨k - 1, by simp at hk; omega⟩
      have hpl : l.length = p.length + (t.length + 1) := by rw [← hp]; simp
      have hx : x ∈ l := by rw [← hp]; simp
      have hq : p ∈ (List.range (l.length + 1)).map (fun i => l.take i) := List.mem_map.2 ⟨p.length, List.mem_range.2 (by omega), by rw [← hp]; simp⟩
      have hsc : ((scv l).take ((p.length : Int)).toNat).drop 0 = scv p := by rw [← scv_len p]; exact take_pre (t := scv (x :: t)) (by rw [← scv_app, hp])
      rw [cond_codes_text_Carrier_L1_succ]
      refine stT (decT (by rw [scv_len]; omega)) (stO _ (txt_at (s := x) (by rw [← hp]; simp)) (stC rfl (stO _ rfl (stO _ (a1 x hx) (stO _ rfl ?_)))))
      unfold codesF
      cases hb : carrierB x with
      | false => exact stT rfl rfl
      | true =>
        refine stF rfl (stC (all_one_scv l) (stC (decT (by rw [scv_len]; omega)) ?_))
        rw [hsc]
        refine stO _ (a2 p hq x hx) (stO _ rfl ?_)
        rw [if_neg (by simp)]
        by_cases hm : x ∈ p
        · rw [if_pos hm]
          exact stT (decT hm) rfl
        · rw [if_neg hm]
          refine stF (decF hm) ?_
          rw [wrap64 (by omega) (by omega), show (p.length : Int) + 1 = ((p ++ [x]).length : Int) by simp]
          exact ih (p ++ [x]) (by rw [← hp]; simp) k (by simp at hk; omega)
  exact Evt.imp2 e1 (Evt.and e2 (Evt.ge (l.length + 1))) fun n a ⟨b, hn⟩ => stF (beqF (by rw [scv_len]; omega)) (hh n a b l [] rfl n (by omega))

theorem codes_text_Airport_ret (an : Bool) (l : List Bs) (hl : l.length ≤ 281474976710656) (hs : ∀ s ∈ l, s.length ≤ 281474976710656) :
    Ret lb F_cond_codes [.list an (scv l), .fn F_text_Airport] (.int .i64 (if l = [] then 2 else codesF airportB [] l)) := by
  refine .top rfl (.eq (fun n => by rw [cond_codes_text_Airport_eq]) ?_)
  by_cases h0 : l = []
  · subst h0
    exact .all fun n => stT rfl rfl
  rw [if_neg h0]
  have hp := List.length_pos_iff.2 h0
  have e1 : Evt fun n => ∀ s ∈ l, C lb n F_text_Airport [.str s] = some (.bool (airportB s)) := Evt.fin _ fun s h => text_Airport_ret lb s (hs s h)
  have e2 : Evt fun n => ∀ q ∈ (List.range (l.length + 1)).map (fun i => l.take i), ∀ s ∈ l, C lb n F_slices_Contains_string [.list an (scv q), .str s] = some (.bool (decide (s ∈ q))) := Evt.fin _ fun q hq => Evt.fin _ fun s h => contains_str_ret lb an q s (by
    obtain ⟨i, _, rfl⟩ := List.mem_map.1 hq
    simp; omega)
  have hh : ∀ n, (∀ s ∈ l, C lb n F_text_Airport [.str s] = some (.bool (airportB s))) → (∀ q ∈ (List.range (l.length + 1)).map (fun i => l.take i), ∀ s ∈ l, C lb n F_slices_Contains_string [.list an (scv q), .str s] = some (.bool (decide (s ∈ q)))) →
      ∀ t p, p ++ t = l → ∀ k, t.length < k → cond_codes_text_Airport_L1 lb n k an (scv l) (p.length : Int) = some (.int .i64 (codesF airportB p t)) := by
    intro n a1 a2 t
    induction t with
    | nil =>
      intro p hp k hk
      obtain ⟨k, rfl⟩ : ∃ j, k = j + 1 := ⟨k - 1, by simp at hk; omega⟩
      have hpl : p = l := by simpa using hp
      rw [cond_codes_text_Airport_L1_succ]
      refine stF (decF (by rw [hpl, scv_len]; omega)) ?_
      rw [cond_codes_text_Airport_J2_eq]
      rfl
    | cons x t ih =>
      intro p hp k hk
      obtain ⟨k, rfl⟩ : ∃ j, k = j + 1 := ⟨k - 1, by simp at hk; omega⟩
      have hpl : l.length = p.length + (t.length + 1) := by rw [← hp]; simp
      have hx : x ∈ l := by rw [← hp]; simp
      have hq : p ∈ (List.range (l.length + 1)).map (fun i => l.take i) := List.mem_map.2 ⟨p.length, List.mem_range.2 (by omega), by rw [← hp]; simp⟩
      have hsc : ((scv l).take ((p.length : Int)).toNat).drop 0 = scv p := by rw [← scv_len p]; exact take_pre (t := scv (x :: t)) (by rw [← scv_app, hp])
      rw [cond_codes_text_Airport_L1_succ]
      refine stT (decT (by rw [scv_len]; omega)) (stO _ (txt_at (s := x) (by rw [← hp]; simp)) (stC rfl (stO _ rfl (stO _ (a1 x hx) (stO _ rfl ?_)))))
      unfold codesF
      cases hb : airportB x with
      | false => exact stT rfl rfl
      | true =>
        refine stF rfl (stC (all_one_scv l) (stC (decT (by rw [scv_len]; omega)) ?_))
        rw [hsc]
        refine stO _ (a2 p hq x hx) (stO _ rfl ?_)
        rw [if_neg (by simp)]
        by_cases hm : x ∈ p
        · rw [if_pos hm]
          exact stT (decT hm) rfl
        · rw [if_neg hm]
          refine stF (decF hm) ?_
          rw [wrap64 (by omega) (by omega), show (p.length : Int) + 1 = ((p ++ [x]).length : Int) by simp]
          exact ih (p ++ [x]) (by rw [← hp]; simp) k (by simp at hk; omega)
  exact Evt.imp2 e1 (Evt.and e2 (Evt.ge (l.length + 1))) fun n a ⟨b, hn⟩ => stF (beqF (by rw [scv_len]; omega)) (hh n a b l [] rfl n (by omega))

theorem codes_cond_passenger_ret (an : Bool) (l : List Bs) (hl : l.length ≤ 281474976710656) (hs : ∀ s ∈ l, s.length ≤ 281474976710656) :
    Ret lb F_cond_codes [.list an (scv l), .fn F_cond_passenger] (.int .i64 (if l = [] then 2 else codesF paxB [] l)) := by
  refine .top rfl (.eq (fun n => by rw [cond_codes_cond_passenger_eq]) ?_)
  by_cases h0 : l = []
  · subst h0
    exact .all fun n => stT rfl rfl
  rw [if_neg h0]
  have hp := List.length_pos_iff.2 h0
  have e1 : Evt fun n => ∀ s ∈ l, C lb n F_cond_passenger [.str s] = some (.bool (paxB s)) := Evt.fin _ fun s h => cond_passenger_ret lb s (hs s h)
  have e2 : Evt fun n => ∀ q ∈ (List.range (l.length + 1)).map (fun i => l.take i), ∀ s ∈ l, C lb n F_slices_Contains_string [.list an (scv q), .str s] = some (.bool (decide (s ∈ q))) := Evt.fin _ fun q hq => Evt.fin _ fun s h => contains_str_ret lb an q s (by
    obtain ⟨i, _, rfl⟩ := List.mem_map.1 hq
    simp; omega)
  have hh : ∀ n, (∀ s ∈ l, C lb n F_cond_passenger [.str s] = some (.bool (paxB s))) → (∀ q ∈ (List.range (l.length + 1)).map (fun i => l.take i), ∀ s ∈ l, C lb n F_slices_Contains_string [.list an (scv q), .str s] = some (.bool (decide (s ∈ q)))) →
      ∀ t p, p ++ t = l → ∀ k, t.length < k → cond_codes_cond_passenger_L1 lb n k an (scv l) (p.length : Int) = some (.int .i64 (codesF paxB p t)) := by
    intro n a1 a2 t
    induction t with
    | nil =>
      intro p hp k hk
      obtain ⟨k, rfl⟩ : ∃ j, k = j + 1 := ⟨k - 1, by simp at hk; omega⟩
      have hpl : p = l := by simpa using hp
      rw [cond_codes_cond_passenger_L1_succ]
      refine stF (decF (by rw [hpl, scv_len]; omega)) ?_
      rw [cond_codes_cond_passenger_J2_eq]
      rfl
    | cons x t ih =>
      intro p hp k hk
      obtain ⟨k, rfl⟩ : ∃ j, k = j + 1 := ⟨k - 1, by simp at hk; omega⟩
      have hpl : l.length = p.length + (t.length + 1) := by rw [← hp]; simp
      have hx : x ∈ l := by rw [← hp]; simp
      have hq : p ∈ (List.range (l.length + 1)).map (fun i => l.take i) := List.mem_map.2 ⟨p.length, List.mem_range.2 (by omega), by rw [← hp]; simp⟩
      have hsc : ((scv l).take ((p.length : Int)).toNat).drop 0 = scv p := by rw [← scv_len p]; exact take_pre (t := scv (x :: t)) (by rw [← scv_app, hp])
      rw [cond_codes_cond_passenger_L1_succ]
      refine stT (decT (by rw [scv_len]; omega)) (stO _ (txt_at (s := x) (by rw [← hp]; simp)) (stC rfl (stO _ rfl (stO _ (a1 x hx) (stO _ rfl ?_)))))
      unfold codesF
      cases hb : paxB x with
      | false => exact stT rfl rfl
      | true =>
        refine stF rfl (stC (all_one_scv l) (stC (decT (by rw [scv_len]; omega)) ?_))
        rw [hsc]
        refine stO _ (a2 p hq x hx) (stO _ rfl ?_)
        rw [if_neg (by simp)]
        by_cases hm : x ∈ p
        · rw [if_pos hm]
          exact stT (decT hm) rfl
        · rw [if_neg hm]
          refine stF (decF hm) ?_
          rw [wrap64 (by omega) (by omega), show (p.length : Int) + 1 = ((p ++ [x]).length : Int) by simp]
          exact ih (p ++ [x]) (by rw [← hp]; simp) k (by simp at hk; omega)
  exact Evt.imp2 e1 (Evt.and e2 (Evt.ge (l.length + 1))) fun n a ⟨b, hn⟩ => stF (beqF (by rw [scv_len]; omega)) (hh n a b l [] rfl n (by omega))

end Go.Proofs
/- Chapter 20 on plain data: the error of a part, by the program and by its reference. Conditions: as each says. -/
set_option linter.unusedVariables false
set_option linter.unusedSimpArgs false
namespace Go.Proofs
open Go.Am
variable (lb : Nat)
def isl (k : Int) : Bool := (k == 2) || ((k == 3) || (k == 4))
def isp (k : Int) : Bool := (k == 5) || (k == 6)
def isc (k : Int) : Bool := (k == 11) || ((k == 13) || (k == 14))
def nums (k : Int) : Int := if k = 8 ∨ k = 12 then 2 else if k = 7 ∨ k = 9 ∨ k = 10 then 1 else 0
/-- a field is set that the kind does not use: A, B, the period, texts, conditions -/
def extraF (k : Int) (A B P T L : Bool) : Bool := ((!isl k) && L) || (((!isc k) && T) || (((!isp k) && P) || ((decide (nums k < 1) && A) || (decide (nums k < 2) && B))))
def perN (c : Cd) : Bool := !((c.fr == 0) && ((c.to == 0) && ((c.days == 0) && true)))
def extraB (c : Cd) : Bool := extraF c.k (c.a != 0) (c.b != 0) (perN c) (decide ((c.t.length : Int) > 0)) (decide ((c.l.length : Int) > 0))
def wrongB (c : Cd) : Bool :=
  if c.k = 2 ∨ c.k = 3 then decide (c.l.length = 0) else if c.k = 4 then decide (c.l.length ≠ 1) else if c.k = 7 then decide (c.a < 0 ∨ c.a ≥ 36525) else
  if c.k = 8 then decide (c.a < 0 ∨ c.a ≥ 1440 ∨ c.b < 0 ∨ c.b ≥ 1440) else if c.k = 9 ∨ c.k = 10 then decide (c.a < 0 ∨ c.a > 6) else
  if c.k = 12 then decide (c.a < 1 ∨ c.a > c.b ∨ c.b > 9999) else false
/-- is a text a code that a kind allows? -/
def codeK (k : Int) (s : Bs) : Bool := if k = 11 then carrierB s else if k = 13 then airportB s else paxB s
def codesE (c : Cd) : Int := if c.t = [] then 2 else codesF (codeK c.k) [] c.t
/-- the error of a part by itself -/
def partE (c : Cd) : Int :=
  if c.k < 1 ∨ c.k > 14 then 8 else if extraB c = true then 3 else if wrongB c = true then 2 else if isp c.k = true then perE c.fr c.to c.days else if isc c.k = true then codesE c else 0
def chain {β : Type} (r : Option β) : List Bool → Option β → Option β
  | [], x => x
  | b :: l, x => bif b then r else chain r l x
theorem chain_eq {β : Type} (r x : Option β) : ∀ l : List Bool, chain r l x = if l.any id = true then r else x
  | [] => rfl
  | true :: l => rfl
  | false :: l => by
    show chain r l x = _
    rw [chain_eq r x l]
    rfl
theorem part_go {E W : List Bool} {x : Option CV} {c : Cd} {v : Int} (h0 : ¬ (c.k < 1 ∨ c.k > 14)) (hE : E.any id = extraB c) (hW : extraB c = false → W.any id = wrongB c) (hx : x = some (.int .i64 v))
    (hv : v = if isp c.k = true then perE c.fr c.to c.days else if isc c.k = true then codesE c else 0) : chain (some (.int .i64 3)) E (chain (some (.int .i64 2)) W x) = some (.int .i64 (partE c)) := by
  rw [chain_eq, chain_eq, hE]
  unfold partE
  rw [if_neg h0]
  cases he : extraB c with
  | true => rw [if_pos rfl, if_pos rfl]
  | false =>
    simp only [Bool.false_eq_true, if_false]
    rw [hW he]
    cases hw : wrongB c with
    | true => rw [if_pos rfl, if_pos rfl]
    | false =>
      simp only [Bool.false_eq_true, if_false]
      rw [hx, hv]
theorem part_ret (c : Cd) (hf : Fits c) (hl : c.l.length ≤ 127) : Ret lb F_cond_part [cdv c] (.int .i64 (partE c)) := by
  refine .top rfl (.eq (fun n => by rw [cond_part_eq, cond_formOf_d1_eq]) ?_)
  obtain ⟨f1, f2⟩ := fits_tlen hf
  have e5 := period_Check_ret lb c.fr c.to c.days
  have e11 := codes_text_Carrier_ret lb c.tn c.t f1 f2
  have e13 := codes_text_Airport_ret lb c.tn c.t f1 f2
  have e14 := codes_cond_passenger_ret lb c.tn c.t f1 f2
  refine Evt.imp2 (Evt.and e5 e11) (Evt.and e13 e14) fun n ⟨a5, a11⟩ ⟨a13, a14⟩ => ?_
  by_cases k1 : c.k = 1
  · refine stT (beqT k1) ((cond_part_c1_0_eq ..).trans (Eq.trans (show _ = chain (some (.int .i64 3)) [(c.a != 0), (c.b != 0), (!((c.fr == 0) && ((c.to == 0) && ((c.days == 0) && true)))), (decide (((scv c.t).length : Int) > 0)), (decide (((c.l.map ccv).length : Int) > 0))] (chain (some (.int .i64 2)) [(decide (((c.l.map ccv).length : Int) < 0)), (decide (((c.l.map ccv).length : Int) > 0))] (some (.int .i64 0))) from rfl) ?_))
    simp only [List.length_map, scv_len]
    refine part_go (v := 0) (by omega) ?_ (fun he => ?_) (rfl) ?_
    · unfold extraB
      rw [k1]
      show [c.a != 0, c.b != 0, perN c, decide ((c.t.length : Int) > 0), decide ((c.l.length : Int) > 0)].any id = _
      exact (by decide : ∀ A B P T L : Bool, [A, B, P, T, L].any id = extraF 1 A B P T L) _ _ _ _ _
    · have hz : c.l.length = 0 := by
        unfold extraB at he
        rw [k1] at he
        have := (by decide : ∀ A B P T L : Bool, extraF 1 A B P T L = false → L = false) _ _ _ _ _ he
        simpa using this
      unfold wrongB
      simp only [k1]
      refine Bool.eq_iff_iff.2 ?_
      simp
      try first | omega | (rw [← List.length_eq_zero_iff]; omega)
    · rw [k1]
      first | rfl | (unfold codesE; rw [k1]; rfl)
  refine stF (beqF k1) ?_
  by_cases k2 : c.k = 2
  · refine stT (beqT k2) ((cond_part_c1_1_eq ..).trans (Eq.trans (show _ = chain (some (.int .i64 3)) [(c.a != 0), (c.b != 0), (!((c.fr == 0) && ((c.to == 0) && ((c.days == 0) && true)))), (decide (((scv c.t).length : Int) > 0))] (chain (some (.int .i64 2)) [(decide (((c.l.map ccv).length : Int) < 1)), (decide (((c.l.map ccv).length : Int) > 128))] (some (.int .i64 0))) from rfl) ?_))
    simp only [List.length_map, scv_len]
    refine part_go (v := 0) (by omega) ?_ (fun he => ?_) (rfl) ?_
    · unfold extraB
      rw [k2]
      show [c.a != 0, c.b != 0, perN c, decide ((c.t.length : Int) > 0)].any id = _
      exact (by decide : ∀ A B P T L : Bool, [A, B, P, T].any id = extraF 2 A B P T L) _ _ _ _ _
    · unfold wrongB
      simp only [k2]
      refine Bool.eq_iff_iff.2 ?_
      simp
      try first | omega | (rw [← List.length_eq_zero_iff]; omega)
    · rw [k2]
      first | rfl | (unfold codesE; rw [k2]; rfl)
  refine stF (beqF k2) ?_
  by_cases k3 : c.k = 3
  · refine stT (beqT k3) ((cond_part_c1_2_eq ..).trans (Eq.trans (show _ = chain (some (.int .i64 3)) [(c.a != 0), (c.b != 0), (!((c.fr == 0) && ((c.to == 0) && ((c.days == 0) && true)))), (decide (((scv c.t).length : Int) > 0))] (chain (some (.int .i64 2)) [(decide (((c.l.map ccv).length : Int) < 1)), (decide (((c.l.map ccv).length : Int) > 128))] (some (.int .i64 0))) from rfl) ?_))
    simp only [List.length_map, scv_len]
    refine part_go (v := 0) (by omega) ?_ (fun he => ?_) (rfl) ?_
    · unfold extraB
      rw [k3]
      show [c.a != 0, c.b != 0, perN c, decide ((c.t.length : Int) > 0)].any id = _
      exact (by decide : ∀ A B P T L : Bool, [A, B, P, T].any id = extraF 3 A B P T L) _ _ _ _ _
    · unfold wrongB
      simp only [k3]
      refine Bool.eq_iff_iff.2 ?_
      simp
      try first | omega | (rw [← List.length_eq_zero_iff]; omega)
    · rw [k3]
      first | rfl | (unfold codesE; rw [k3]; rfl)
  refine stF (beqF k3) ?_
  by_cases k4 : c.k = 4
  · refine stT (beqT k4) ((cond_part_c1_3_eq ..).trans (Eq.trans (show _ = chain (some (.int .i64 3)) [(c.a != 0), (c.b != 0), (!((c.fr == 0) && ((c.to == 0) && ((c.days == 0) && true)))), (decide (((scv c.t).length : Int) > 0))] (chain (some (.int .i64 2)) [(decide (((c.l.map ccv).length : Int) < 1)), (decide (((c.l.map ccv).length : Int) > 1))] (some (.int .i64 0))) from rfl) ?_))
    simp only [List.length_map, scv_len]
    refine part_go (v := 0) (by omega) ?_ (fun he => ?_) (rfl) ?_
    · unfold extraB
      rw [k4]
      show [c.a != 0, c.b != 0, perN c, decide ((c.t.length : Int) > 0)].any id = _
      exact (by decide : ∀ A B P T L : Bool, [A, B, P, T].any id = extraF 4 A B P T L) _ _ _ _ _
    · unfold wrongB
      simp only [k4]
      refine Bool.eq_iff_iff.2 ?_
      simp
      try first | omega | (rw [← List.length_eq_zero_iff]; omega)
    · rw [k4]
      first | rfl | (unfold codesE; rw [k4]; rfl)
  refine stF (beqF k4) ?_
  by_cases k5 : c.k = 5
  · refine stT (beqT k5) ((cond_part_c1_4_eq ..).trans (Eq.trans (show _ = chain (some (.int .i64 3)) [(c.a != 0), (c.b != 0), (decide (((scv c.t).length : Int) > 0)), (decide (((c.l.map ccv).length : Int) > 0))] (chain (some (.int .i64 2)) [(decide (((c.l.map ccv).length : Int) < 0)), (decide (((c.l.map ccv).length : Int) > 0))] (optO (C lb n F_period_Check [.agg [.int .i64 c.fr, .int .i64 c.to, .int .i64 c.days]]) fun r => some r)) from rfl) ?_))
    simp only [List.length_map, scv_len]
    refine part_go (v := perE c.fr c.to c.days) (by omega) ?_ (fun he => ?_) (stO _ a5 rfl) ?_
    · unfold extraB
      rw [k5]
      show [c.a != 0, c.b != 0, decide ((c.t.length : Int) > 0), decide ((c.l.length : Int) > 0)].any id = _
      exact (by decide : ∀ A B P T L : Bool, [A, B, T, L].any id = extraF 5 A B P T L) _ _ _ _ _
    · have hz : c.l.length = 0 := by
        unfold extraB at he
        rw [k5] at he
        have := (by decide : ∀ A B P T L : Bool, extraF 5 A B P T L = false → L = false) _ _ _ _ _ he
        simpa using this
      unfold wrongB
      simp only [k5]
      refine Bool.eq_iff_iff.2 ?_
      simp
      try first | omega | (rw [← List.length_eq_zero_iff]; omega)
    · rw [k5]
      first | rfl | (unfold codesE; rw [k5]; rfl)
  refine stF (beqF k5) ?_
  by_cases k6 : c.k = 6
  · refine stT (beqT k6) ((cond_part_c1_5_eq ..).trans (Eq.trans (show _ = chain (some (.int .i64 3)) [(c.a != 0), (c.b != 0), (decide (((scv c.t).length : Int) > 0)), (decide (((c.l.map ccv).length : Int) > 0))] (chain (some (.int .i64 2)) [(decide (((c.l.map ccv).length : Int) < 0)), (decide (((c.l.map ccv).length : Int) > 0))] (optO (C lb n F_period_Check [.agg [.int .i64 c.fr, .int .i64 c.to, .int .i64 c.days]]) fun r => some r)) from rfl) ?_))
    simp only [List.length_map, scv_len]
    refine part_go (v := perE c.fr c.to c.days) (by omega) ?_ (fun he => ?_) (stO _ a5 rfl) ?_
    · unfold extraB
      rw [k6]
      show [c.a != 0, c.b != 0, decide ((c.t.length : Int) > 0), decide ((c.l.length : Int) > 0)].any id = _
      exact (by decide : ∀ A B P T L : Bool, [A, B, T, L].any id = extraF 6 A B P T L) _ _ _ _ _
    · have hz : c.l.length = 0 := by
        unfold extraB at he
        rw [k6] at he
        have := (by decide : ∀ A B P T L : Bool, extraF 6 A B P T L = false → L = false) _ _ _ _ _ he
        simpa using this
      unfold wrongB
      simp only [k6]
      refine Bool.eq_iff_iff.2 ?_
      simp
      try first | omega | (rw [← List.length_eq_zero_iff]; omega)
    · rw [k6]
      first | rfl | (unfold codesE; rw [k6]; rfl)
  refine stF (beqF k6) ?_
  by_cases k7 : c.k = 7
  · refine stT (beqT k7) ((cond_part_c1_6_eq ..).trans (Eq.trans (show _ = chain (some (.int .i64 3)) [(c.b != 0), (!((c.fr == 0) && ((c.to == 0) && ((c.days == 0) && true)))), (decide (((scv c.t).length : Int) > 0)), (decide (((c.l.map ccv).length : Int) > 0))] (chain (some (.int .i64 2)) [(decide (((c.l.map ccv).length : Int) < 0)), (decide (((c.l.map ccv).length : Int) > 0)), (decide (c.a < 0)), (decide (c.a > 36524))] (some (.int .i64 0))) from rfl) ?_))
    simp only [List.length_map, scv_len]
    refine part_go (v := 0) (by omega) ?_ (fun he => ?_) (rfl) ?_
    · unfold extraB
      rw [k7]
      show [c.b != 0, perN c, decide ((c.t.length : Int) > 0), decide ((c.l.length : Int) > 0)].any id = _
      exact (by decide : ∀ A B P T L : Bool, [B, P, T, L].any id = extraF 7 A B P T L) _ _ _ _ _
    · have hz : c.l.length = 0 := by
        unfold extraB at he
        rw [k7] at he
        have := (by decide : ∀ A B P T L : Bool, extraF 7 A B P T L = false → L = false) _ _ _ _ _ he
        simpa using this
      unfold wrongB
      simp only [k7]
      refine Bool.eq_iff_iff.2 ?_
      simp
      try first | omega | (rw [← List.length_eq_zero_iff]; omega)
    · rw [k7]
      first | rfl | (unfold codesE; rw [k7]; rfl)
  refine stF (beqF k7) ?_
  by_cases k8 : c.k = 8
  · refine stT (beqT k8) ((cond_part_c1_7_eq ..).trans (Eq.trans (show _ = chain (some (.int .i64 3)) [(!((c.fr == 0) && ((c.to == 0) && ((c.days == 0) && true)))), (decide (((scv c.t).length : Int) > 0)), (decide (((c.l.map ccv).length : Int) > 0))] (chain (some (.int .i64 2)) [(decide (((c.l.map ccv).length : Int) < 0)), (decide (((c.l.map ccv).length : Int) > 0)), (decide (c.a < 0)), (decide (c.a > 1439)), (decide (c.b < 0)), (decide (c.b > 1439))] (some (.int .i64 0))) from rfl) ?_))
    simp only [List.length_map, scv_len]
    refine part_go (v := 0) (by omega) ?_ (fun he => ?_) (rfl) ?_
    · unfold extraB
      rw [k8]
      show [perN c, decide ((c.t.length : Int) > 0), decide ((c.l.length : Int) > 0)].any id = _
      exact (by decide : ∀ A B P T L : Bool, [P, T, L].any id = extraF 8 A B P T L) _ _ _ _ _
    · have hz : c.l.length = 0 := by
        unfold extraB at he
        rw [k8] at he
        have := (by decide : ∀ A B P T L : Bool, extraF 8 A B P T L = false → L = false) _ _ _ _ _ he
        simpa using this
      unfold wrongB
      simp only [k8]
      refine Bool.eq_iff_iff.2 ?_
      simp
      try first | omega | (rw [← List.length_eq_zero_iff]; omega)
    · rw [k8]
      first | rfl | (unfold codesE; rw [k8]; rfl)
  refine stF (beqF k8) ?_
  by_cases k9 : c.k = 9
  · refine stT (beqT k9) ((cond_part_c1_8_eq ..).trans (Eq.trans (show _ = chain (some (.int .i64 3)) [(c.b != 0), (!((c.fr == 0) && ((c.to == 0) && ((c.days == 0) && true)))), (decide (((scv c.t).length : Int) > 0)), (decide (((c.l.map ccv).length : Int) > 0))] (chain (some (.int .i64 2)) [(decide (((c.l.map ccv).length : Int) < 0)), (decide (((c.l.map ccv).length : Int) > 0)), (decide (c.a < 0)), (decide (c.a > 6))] (some (.int .i64 0))) from rfl) ?_))
    simp only [List.length_map, scv_len]
    refine part_go (v := 0) (by omega) ?_ (fun he => ?_) (rfl) ?_
    · unfold extraB
      rw [k9]
      show [c.b != 0, perN c, decide ((c.t.length : Int) > 0), decide ((c.l.length : Int) > 0)].any id = _
      exact (by decide : ∀ A B P T L : Bool, [B, P, T, L].any id = extraF 9 A B P T L) _ _ _ _ _
    · have hz : c.l.length = 0 := by
        unfold extraB at he
        rw [k9] at he
        have := (by decide : ∀ A B P T L : Bool, extraF 9 A B P T L = false → L = false) _ _ _ _ _ he
        simpa using this
      unfold wrongB
      simp only [k9]
      refine Bool.eq_iff_iff.2 ?_
      simp
      try first | omega | (rw [← List.length_eq_zero_iff]; omega)
    · rw [k9]
      first | rfl | (unfold codesE; rw [k9]; rfl)
  refine stF (beqF k9) ?_
  by_cases k10 : c.k = 10
  · refine stT (beqT k10) ((cond_part_c1_9_eq ..).trans (Eq.trans (show _ = chain (some (.int .i64 3)) [(c.b != 0), (!((c.fr == 0) && ((c.to == 0) && ((c.days == 0) && true)))), (decide (((scv c.t).length : Int) > 0)), (decide (((c.l.map ccv).length : Int) > 0))] (chain (some (.int .i64 2)) [(decide (((c.l.map ccv).length : Int) < 0)), (decide (((c.l.map ccv).length : Int) > 0)), (decide (c.a < 0)), (decide (c.a > 6))] (some (.int .i64 0))) from rfl) ?_))
    simp only [List.length_map, scv_len]
    refine part_go (v := 0) (by omega) ?_ (fun he => ?_) (rfl) ?_
    · unfold extraB
      rw [k10]
      show [c.b != 0, perN c, decide ((c.t.length : Int) > 0), decide ((c.l.length : Int) > 0)].any id = _
      exact (by decide : ∀ A B P T L : Bool, [B, P, T, L].any id = extraF 10 A B P T L) _ _ _ _ _
    · have hz : c.l.length = 0 := by
        unfold extraB at he
        rw [k10] at he
        have := (by decide : ∀ A B P T L : Bool, extraF 10 A B P T L = false → L = false) _ _ _ _ _ he
        simpa using this
      unfold wrongB
      simp only [k10]
      refine Bool.eq_iff_iff.2 ?_
      simp
      try first | omega | (rw [← List.length_eq_zero_iff]; omega)
    · rw [k10]
      first | rfl | (unfold codesE; rw [k10]; rfl)
  refine stF (beqF k10) ?_
  by_cases k11 : c.k = 11
  · refine stT (beqT k11) ((cond_part_c1_10_eq ..).trans (Eq.trans (show _ = chain (some (.int .i64 3)) [(c.a != 0), (c.b != 0), (!((c.fr == 0) && ((c.to == 0) && ((c.days == 0) && true)))), (decide (((c.l.map ccv).length : Int) > 0))] (chain (some (.int .i64 2)) [(decide (((c.l.map ccv).length : Int) < 0)), (decide (((c.l.map ccv).length : Int) > 0))] (optO (C lb n F_cond_codes [.list c.tn (scv c.t), .fn F_text_Carrier]) fun r => some r)) from rfl) ?_))
    simp only [List.length_map, scv_len]
    refine part_go (v := if c.t = [] then 2 else codesF carrierB [] c.t) (by omega) ?_ (fun he => ?_) (stO _ a11 rfl) ?_
    · unfold extraB
      rw [k11]
      show [c.a != 0, c.b != 0, perN c, decide ((c.l.length : Int) > 0)].any id = _
      exact (by decide : ∀ A B P T L : Bool, [A, B, P, L].any id = extraF 11 A B P T L) _ _ _ _ _
    · have hz : c.l.length = 0 := by
        unfold extraB at he
        rw [k11] at he
        have := (by decide : ∀ A B P T L : Bool, extraF 11 A B P T L = false → L = false) _ _ _ _ _ he
        simpa using this
      unfold wrongB
      simp only [k11]
      refine Bool.eq_iff_iff.2 ?_
      simp
      try first | omega | (rw [← List.length_eq_zero_iff]; omega)
    · rw [k11]
      first | rfl | (unfold codesE; rw [k11]; rfl)
  refine stF (beqF k11) ?_
  by_cases k12 : c.k = 12
  · refine stT (beqT k12) ((cond_part_c1_11_eq ..).trans (Eq.trans (show _ = chain (some (.int .i64 3)) [(!((c.fr == 0) && ((c.to == 0) && ((c.days == 0) && true)))), (decide (((scv c.t).length : Int) > 0)), (decide (((c.l.map ccv).length : Int) > 0))] (chain (some (.int .i64 2)) [(decide (((c.l.map ccv).length : Int) < 0)), (decide (((c.l.map ccv).length : Int) > 0)), (decide (c.a < 0)), (decide (c.a > 9999)), (decide (c.b < 0)), (decide (c.b > 9999)), (decide (c.a < 1)), (decide (c.a > c.b))] (some (.int .i64 0))) from rfl) ?_))
    simp only [List.length_map, scv_len]
    refine part_go (v := 0) (by omega) ?_ (fun he => ?_) (rfl) ?_
    · unfold extraB
      rw [k12]
      show [perN c, decide ((c.t.length : Int) > 0), decide ((c.l.length : Int) > 0)].any id = _
      exact (by decide : ∀ A B P T L : Bool, [P, T, L].any id = extraF 12 A B P T L) _ _ _ _ _
    · have hz : c.l.length = 0 := by
        unfold extraB at he
        rw [k12] at he
        have := (by decide : ∀ A B P T L : Bool, extraF 12 A B P T L = false → L = false) _ _ _ _ _ he
        simpa using this
      unfold wrongB
      simp only [k12]
      refine Bool.eq_iff_iff.2 ?_
      simp
      try first | omega | (rw [← List.length_eq_zero_iff]; omega)
    · rw [k12]
      first | rfl | (unfold codesE; rw [k12]; rfl)
  refine stF (beqF k12) ?_
  by_cases k13 : c.k = 13
  · refine stT (beqT k13) ((cond_part_c1_12_eq ..).trans (Eq.trans (show _ = chain (some (.int .i64 3)) [(c.a != 0), (c.b != 0), (!((c.fr == 0) && ((c.to == 0) && ((c.days == 0) && true)))), (decide (((c.l.map ccv).length : Int) > 0))] (chain (some (.int .i64 2)) [(decide (((c.l.map ccv).length : Int) < 0)), (decide (((c.l.map ccv).length : Int) > 0))] (optO (C lb n F_cond_codes [.list c.tn (scv c.t), .fn F_text_Airport]) fun r => some r)) from rfl) ?_))
    simp only [List.length_map, scv_len]
    refine part_go (v := if c.t = [] then 2 else codesF airportB [] c.t) (by omega) ?_ (fun he => ?_) (stO _ a13 rfl) ?_
    · unfold extraB
      rw [k13]
      show [c.a != 0, c.b != 0, perN c, decide ((c.l.length : Int) > 0)].any id = _
      exact (by decide : ∀ A B P T L : Bool, [A, B, P, L].any id = extraF 13 A B P T L) _ _ _ _ _
    · have hz : c.l.length = 0 := by
        unfold extraB at he
        rw [k13] at he
        have := (by decide : ∀ A B P T L : Bool, extraF 13 A B P T L = false → L = false) _ _ _ _ _ he
        simpa using this
      unfold wrongB
      simp only [k13]
      refine Bool.eq_iff_iff.2 ?_
      simp
      try first | omega | (rw [← List.length_eq_zero_iff]; omega)
    · rw [k13]
      first | rfl | (unfold codesE; rw [k13]; rfl)
  refine stF (beqF k13) ?_
  by_cases k14 : c.k = 14
  · refine stT (beqT k14) ((cond_part_c1_13_eq ..).trans (Eq.trans (show _ = chain (some (.int .i64 3)) [(c.a != 0), (c.b != 0), (!((c.fr == 0) && ((c.to == 0) && ((c.days == 0) && true)))), (decide (((c.l.map ccv).length : Int) > 0))] (chain (some (.int .i64 2)) [(decide (((c.l.map ccv).length : Int) < 0)), (decide (((c.l.map ccv).length : Int) > 0))] (optO (C lb n F_cond_codes [.list c.tn (scv c.t), .fn F_cond_passenger]) fun r => some r)) from rfl) ?_))
    simp only [List.length_map, scv_len]
    refine part_go (v := if c.t = [] then 2 else codesF paxB [] c.t) (by omega) ?_ (fun he => ?_) (stO _ a14 rfl) ?_
    · unfold extraB
      rw [k14]
      show [c.a != 0, c.b != 0, perN c, decide ((c.l.length : Int) > 0)].any id = _
      exact (by decide : ∀ A B P T L : Bool, [A, B, P, L].any id = extraF 14 A B P T L) _ _ _ _ _
    · have hz : c.l.length = 0 := by
        unfold extraB at he
        rw [k14] at he
        have := (by decide : ∀ A B P T L : Bool, extraF 14 A B P T L = false → L = false) _ _ _ _ _ he
        simpa using this
      unfold wrongB
      simp only [k14]
      refine Bool.eq_iff_iff.2 ?_
      simp
      try first | omega | (rw [← List.length_eq_zero_iff]; omega)
    · rw [k14]
      first | rfl | (unfold codesE; rw [k14]; rfl)
  refine stF (beqF k14) ?_
  refine (cond_part_c1_14_eq ..).trans ?_
  unfold partE
  rw [if_pos (by omega)]
end Go.Proofs
/- Chapter 20 on plain data: the error of a part, by the reference; Check, by both. Conditions: as each says. -/
set_option linter.unusedVariables false
set_option linter.unusedSimpArgs false
namespace Go.Proofs
open Go.Am
variable (lb : Nat)
theorem r20_list_ret (k : Int) : Ret lb F_r20_list [.int .i64 k] (.bool (isl k)) := by
  refine .top rfl (.eq (fun n => by rw [r20_list_eq]) (.all fun n => ?_))
  unfold isl
  cases k == 2 <;> cases k == 3 <;> rfl
theorem r20_codes_ret (k : Int) : Ret lb F_r20_codes [.int .i64 k] (.bool (isc k)) := by
  refine .top rfl (.eq (fun n => by rw [r20_codes_eq]) (.all fun n => ?_))
  unfold isc
  cases k == 11 <;> cases k == 13 <;> rfl
theorem r20_period_ret (k : Int) : Ret lb F_r20_period [.int .i64 k] (.bool (isp k)) := by
  refine .top rfl (.eq (fun n => by rw [r20_period_eq]) (.all fun n => ?_))
  unfold isp
  cases k == 5 <;> rfl
theorem r20_numbers_ret (k : Int) : Ret lb F_r20_numbers [.int .i64 k] (.int .i64 (nums k)) := by
  refine .top rfl (.eq (fun n => by rw [r20_numbers_eq]) (.all fun n => ?_))
  unfold nums
  by_cases h1 : k = 8
  · rw [if_pos (.inl h1)]; exact stT (beqT h1) rfl
  by_cases h2 : k = 12
  · rw [if_pos (.inr h2)]; exact stF (beqF h1) (stT (beqT h2) rfl)
  rw [if_neg (fun e => e.elim h1 h2)]
  by_cases h3 : k = 7
  · rw [if_pos (.inl h3)]; exact stF (beqF h1) (stF (beqF h2) (stT (beqT h3) rfl))
  by_cases h4 : k = 9
  · rw [if_pos (.inr (.inl h4))]; exact stF (beqF h1) (stF (beqF h2) (stF (beqF h3) (stT (beqT h4) rfl)))
  by_cases h5 : k = 10
  · rw [if_pos (.inr (.inr h5))]; exact stF (beqF h1) (stF (beqF h2) (stF (beqF h3) (stF (beqF h4) (stT (beqT h5) rfl))))
  rw [if_neg (fun e => e.elim h3 (fun e => e.elim h4 h5))]
  exact stF (beqF h1) (stF (beqF h2) (stF (beqF h3) (stF (beqF h4) (stF (beqF h5) rfl))))
theorem ext_step {x y r : Bool} {N1 N2 : Option CV} (h1 : N1 = some (.bool r)) (h2 : N2 = some (.bool r)) : (bif !x then (bif y then some (.bool true) else N1) else N2) = some (.bool ((!x && y) || r)) := by
  rw [h1, h2]; cases x <;> cases y <;> rfl
theorem ext_step2 {x y r : Bool} {N1 N2 : Option CV} (h1 : N1 = some (.bool r)) (h2 : N2 = some (.bool r)) : (bif x then (bif y then some (.bool true) else N1) else N2) = some (.bool ((x && y) || r)) := by
  rw [h1, h2]; cases x <;> cases y <;> rfl
theorem ext_last {x y : Bool} : (bif x then some (CV.bool y) else some (CV.bool false)) = some (.bool (x && y)) := by cases x <;> rfl
theorem r20_extra_ret (c : Cd) : Ret lb F_r20_extra [cdv c] (.bool (extraB c)) := by
  refine .top rfl (.eq (fun n => by rw [r20_extra_eq]) ?_)
  refine Evt.imp2 (Evt.and (r20_list_ret lb c.k) (r20_codes_ret lb c.k)) (Evt.and (r20_period_ret lb c.k) (r20_numbers_ret lb c.k)) fun n ⟨a1, a2⟩ ⟨a3, a4⟩ => ?_
  unfold extraB extraF perN
  have hl : (c.l.length : Int) = ((c.l.map ccv).length : Int) := by rw [List.length_map]
  rw [hl, ← scv_len c.t]
  refine stO _ a1 (stO _ rfl (ext_step ?_ ?_))
  all_goals refine stO _ a2 (stO _ rfl (ext_step ?_ ?_))
  all_goals refine stO _ a3 (stO _ rfl (ext_step ?_ ?_))
  all_goals refine stO _ a4 (stO _ (asI_i ..) (ext_step2 ?_ ?_))
  all_goals exact stO _ a4 (stO _ (asI_i ..) ext_last)
theorem dec2 {p q : Prop} [Decidable p] [Decidable q] [Decidable (p ∨ q)] : (bif decide p then some (CV.bool true) else some (.bool (decide q))) = some (.bool (decide (p ∨ q))) := by
  by_cases hp : p <;> by_cases hq : q <;> simp [hp, hq]
theorem dec3 {p q r : Prop} [Decidable p] [Decidable q] [Decidable r] [Decidable (p ∨ q ∨ r)] : (bif decide p then some (CV.bool true) else bif decide q then some (CV.bool true) else some (.bool (decide r))) = some (.bool (decide (p ∨ q ∨ r))) := by
  by_cases hp : p <;> by_cases hq : q <;> by_cases hr : r <;> simp [hp, hq, hr]
theorem dec4 {p q r s : Prop} [Decidable p] [Decidable q] [Decidable r] [Decidable s] [Decidable (p ∨ q ∨ r ∨ s)] : (bif decide p then some (CV.bool true) else bif decide q then some (CV.bool true) else bif decide r then some (CV.bool true) else some (.bool (decide s))) = some (.bool (decide (p ∨ q ∨ r ∨ s))) := by
  by_cases hp : p <;> by_cases hq : q <;> by_cases hr : r <;> by_cases hs : s <;> simp [hp, hq, hr, hs]
theorem r20_wrong_ret (c : Cd) : Ret lb F_r20_wrong [cdv c] (.bool (wrongB c)) := by
  refine .top rfl (.eq (fun n => by rw [r20_wrong_eq]) (.all fun n => ?_))
  unfold wrongB
  have hlen : ((((c.l.map ccv).length : Nat) : Int) == 0) = decide (c.l.length = 0) := by
    rw [List.length_map]
    refine Bool.eq_iff_iff.2 ?_
    rw [beq_iff_eq, decide_eq_true_iff]
    omega
  have hlen1 : ((((c.l.map ccv).length : Nat) : Int) != 1) = decide (c.l.length ≠ 1) := by
    rw [List.length_map]
    refine Bool.eq_iff_iff.2 ?_
    rw [bne_iff_ne, decide_eq_true_iff]
    omega
  by_cases h2 : c.k = 2
  · rw [if_pos (.inl h2)]
    refine stT (beqT h2) ?_
    rw [r20_wrong_J1_eq, beqT h2]
    exact stT rfl (by rw [hlen])
  refine stF (beqF h2) ?_
  rw [r20_wrong_J1_eq]
  by_cases h3 : c.k = 3
  · rw [if_pos (.inr h3)]
    exact stT (beqT h3) (by rw [hlen])
  rw [if_neg (fun e => e.elim h2 h3)]
  refine stF (beqF h3) ?_
  by_cases h4 : c.k = 4
  · rw [if_pos h4]
    exact stT (beqT h4) (by rw [hlen1])
  rw [if_neg h4]
  refine stF (beqF h4) ?_
  by_cases h7 : c.k = 7
  · rw [if_pos h7]
    exact stT (beqT h7) dec2
  rw [if_neg h7]
  refine stF (beqF h7) ?_
  by_cases h8 : c.k = 8
  · rw [if_pos h8]
    exact stT (beqT h8) dec4
  rw [if_neg h8]
  refine stF (beqF h8) ?_
  by_cases h9 : c.k = 9
  · rw [if_pos (.inl h9)]
    refine stT (beqT h9) ?_
    rw [r20_wrong_J2_eq]
    exact stT (beqT h9) dec2
  refine stF (beqF h9) ?_
  rw [r20_wrong_J2_eq]
  by_cases h10 : c.k = 10
  · rw [if_pos (.inr h10)]
    exact stT (beqT h10) dec2
  rw [if_neg (fun e => e.elim h9 h10)]
  refine stF (beqF h10) ?_
  by_cases h12 : c.k = 12
  · rw [if_pos h12]
    exact stT (beqT h12) dec3
  rw [if_neg h12]
  exact stF (beqF h12) rfl
theorem r20_code_ret (k : Int) (s : Bs) (hs : s.length ≤ 281474976710656) : Ret lb F_r20_code [.int .i64 k, .str s] (.bool (codeK k s)) := by
  refine .top rfl (.eq (fun n => by rw [r20_code_eq]) ?_)
  unfold codeK
  by_cases h1 : k = 11
  · rw [if_pos h1]
    exact (r01_Carrier_ret lb s hs).mono fun n a => stT (beqT h1) (stO _ a rfl)
  rw [if_neg h1]
  by_cases h2 : k = 13
  · rw [if_pos h2]
    exact (r01_Airport_ret lb s hs).mono fun n a => stF (beqF h1) (stT (beqT h2) (stO _ a rfl))
  rw [if_neg h2]
  exact (r01_Code_ret lb s 3 3 hs).mono fun n a => stF (beqF h1) (stF (beqF h2) (stO _ a rfl))
theorem r20_part_ret (c : Cd) (hf : Fits c) : Ret lb F_r20_part [cdv c] (.int .i64 (partE c)) := by
  refine .top rfl (.eq (fun n => by rw [r20_part_eq]) ?_)
  obtain ⟨f1, f2⟩ := fits_tlen hf
  unfold partE
  by_cases h1 : c.k < 1
  · rw [if_pos (.inl h1)]
    exact .all fun n => stT (decT h1) rfl
  by_cases h2 : c.k > 14
  · rw [if_pos (.inr h2)]
    exact .all fun n => stF (decF h1) (stT (decT h2) rfl)
  rw [if_neg (fun e => e.elim h1 h2)]
  have e1 := r20_extra_ret lb c
  cases hx : extraB c with
  | true =>
    rw [hx] at e1
    rw [if_pos rfl]
    exact e1.mono fun n a => stF (decF h1) (stF (decF h2) (stO _ a (stO _ rfl (stT rfl rfl))))
  | false =>
    rw [hx] at e1
    simp only [Bool.false_eq_true, if_false]
    have e2 := r20_wrong_ret lb c
    cases hw : wrongB c with
    | true =>
      rw [hw] at e2
      rw [if_pos rfl]
      exact Evt.imp2 e1 e2 fun n a b => stF (decF h1) (stF (decF h2) (stO _ a (stO _ rfl (stF rfl (stO _ b (stO _ rfl (stT rfl rfl)))))))
    | false =>
      rw [hw] at e2
      simp only [Bool.false_eq_true, if_false]
      have e3 := r20_period_ret lb c.k
      cases hp : isp c.k with
      | true =>
        rw [hp] at e3
        rw [if_pos rfl]
        exact Evt.imp2 (Evt.and e1 e2) (Evt.and e3 (r04_Check_ret lb c.fr c.to c.days)) fun n ⟨a, b⟩ ⟨d, e⟩ => stF (decF h1) (stF (decF h2) (stO _ a (stO _ rfl (stF rfl (stO _ b (stO _ rfl (stF rfl (stO _ d (stO _ rfl (stT rfl (stO _ e rfl)))))))))))
      | false =>
        rw [hp] at e3
        simp only [Bool.false_eq_true, if_false]
        have e4 := r20_codes_ret lb c.k
        have e5 : Evt fun n => ∀ s ∈ c.t, C lb n F_r20_code [.int .i64 c.k, .str s] = some (.bool (codeK c.k s)) := Evt.fin _ fun s h => r20_code_ret lb c.k s (f2 s h)
        have e6 : Evt fun n => ∀ q ∈ (List.range (c.t.length + 1)).map (fun i => c.t.take i), ∀ s ∈ c.t, C lb n F_r20_has [.list c.tn (scv q), .str s] = some (.bool (decide (s ∈ q))) := Evt.fin _ fun q hq => Evt.fin _ fun s h => r20_has_ret lb c.tn q s (by
          obtain ⟨i, _, rfl⟩ := List.mem_map.1 hq
          simp; omega)
        have hh : ∀ n, (∀ s ∈ c.t, C lb n F_r20_code [.int .i64 c.k, .str s] = some (.bool (codeK c.k s))) → (∀ q ∈ (List.range (c.t.length + 1)).map (fun i => c.t.take i), ∀ s ∈ c.t, C lb n F_r20_has [.list c.tn (scv q), .str s] = some (.bool (decide (s ∈ q)))) →
            ∀ t p, p ++ t = c.t → ∀ k, t.length < k → r20_part_L1 lb n k c.k c.ln (c.l.map ccv) c.a c.b c.fr c.to c.days c.tn (scv c.t) (p.length : Int) = some (.int .i64 (codesF (codeK c.k) p t)) := by
          intro n a1 a2 t
          induction t with
          | nil =>
            intro p hp k hk
            obtain ⟨k, rfl⟩ : ∃ j, k = j + 1 := ⟨k - 1, by simp at hk; omega⟩
            have hpl : p = c.t := by simpa using hp
            rw [r20_part_L1_succ]
            refine stF (decF (by rw [hpl, scv_len]; omega)) ?_
            rw [r20_part_J2_eq]
            rfl
          | cons x t ih =>
            intro p hp k hk
            obtain ⟨k, rfl⟩ : ∃ j, k = j + 1 := ⟨k - 1, by simp at hk; omega⟩
            have hpl : c.t.length = p.length + (t.length + 1) := by rw [← hp]; simp
            have hx : x ∈ c.t := by rw [← hp]; simp
            have hq : p ∈ (List.range (c.t.length + 1)).map (fun i => c.t.take i) := List.mem_map.2 ⟨p.length, List.mem_range.2 (by omega), by rw [← hp]; simp⟩
            have hsc : ((scv c.t).take ((p.length : Int)).toNat).drop 0 = scv p := by rw [← scv_len p]; exact take_pre (t := scv (x :: t)) (by rw [← scv_app, hp])
            have hat := txt_at (t := c.t) (i := p.length) (s := x) (by rw [← hp]; simp)
            rw [r20_part_L1_succ]
            refine stT (decT (by rw [scv_len]; omega)) (stO _ hat (stC rfl (stO _ rfl (stO _ (a1 x hx) (stO _ rfl ?_)))))
            unfold codesF
            cases hb : codeK c.k x with
            | false => exact stT rfl rfl
            | true =>
              refine stF rfl (stC (all_one_scv c.t) (stC (decT (by rw [scv_len]; omega)) (stO _ hat (stC rfl (stO _ rfl ?_)))))
              rw [hsc]
              refine stO _ (a2 p hq x hx) (stO _ rfl ?_)
              rw [if_neg (by simp)]
              by_cases hm : x ∈ p
              · rw [if_pos hm]
                exact stT (decT hm) rfl
              · rw [if_neg hm]
                refine stF (decF hm) ?_
                rw [wrap64 (by omega) (by omega), show (p.length : Int) + 1 = ((p ++ [x]).length : Int) by simp]
                exact ih (p ++ [x]) (by rw [← hp]; simp) k (by simp at hk; omega)
        have hnil : c.t = [] → codesF (codeK c.k) [] c.t = 0 := fun h => by rw [h]; rfl
        cases hc : isc c.k with
        | true =>
          rw [hc] at e4
          rw [if_pos rfl]
          unfold codesE
          by_cases h0 : c.t = []
          · rw [if_pos h0]
            exact Evt.imp2 (Evt.and e1 e2) (Evt.and e3 e4) fun n ⟨a, b⟩ ⟨d, e⟩ => stF (decF h1) (stF (decF h2) (stO _ a (stO _ rfl (stF rfl (stO _ b (stO _ rfl (stF rfl (stO _ d (stO _ rfl (stF rfl (stO _ e (stO _ rfl (stT rfl (stT (beqT (by rw [h0]; rfl)) rfl))))))))))))))
          · rw [if_neg h0]
            have hpos := List.length_pos_iff.2 h0
            exact Evt.imp2 (Evt.and (Evt.and e1 e2) (Evt.and e5 e6)) (Evt.and (Evt.and e3 e4) (Evt.ge (c.t.length + 1))) fun n ⟨⟨a, b⟩, f, g⟩ ⟨⟨d, e⟩, hn⟩ => stF (decF h1) (stF (decF h2) (stO _ a (stO _ rfl (stF rfl (stO _ b (stO _ rfl (stF rfl (stO _ d (stO _ rfl (stF rfl (stO _ e (stO _ rfl (stT rfl (stF (beqF (by rw [scv_len]; omega)) (hh n f g c.t [] rfl n (by omega))))))))))))))))
        | false =>
          rw [hc] at e4
          simp only [Bool.false_eq_true, if_false]
          have ht : c.t = [] := by
            have h3 : (!isc c.k && decide ((c.t.length : Int) > 0)) = false := by
              unfold extraB extraF at hx
              simp only [Bool.or_eq_false_iff] at hx
              exact hx.2.1
            rw [hc] at h3
            have : ¬ (c.t.length : Int) > 0 := by simpa using h3
            exact List.length_eq_zero_iff.1 (by omega)
          exact Evt.imp2 (Evt.and (Evt.and e1 e2) (Evt.and e5 e6)) (Evt.and (Evt.and e3 e4) (Evt.ge (c.t.length + 1))) fun n ⟨⟨a, b⟩, f, g⟩ ⟨⟨d, e⟩, hn⟩ => stF (decF h1) (stF (decF h2) (stO _ a (stO _ rfl (stF rfl (stO _ b (stO _ rfl (stF rfl (stO _ d (stO _ rfl (stF rfl (stO _ e (stO _ rfl (stF rfl ((hh n f g c.t [] rfl n (by omega)).trans (by rw [hnil ht])))))))))))))))
end Go.Proofs
/- Chapter 20 on plain data: Check and Same, by the program and by its reference. Conditions: as each says. -/
set_option linter.unusedVariables false
set_option linter.unusedSimpArgs false
namespace Go.Proofs
open Go.Am
variable (lb : Nat)
mutual
def parE : Cd → Int
  | .mk k ln l a b fr to days tn t => if partE (.mk k ln l a b fr to days tn t) ≠ 0 then partE (.mk k ln l a b fr to days tn t) else parsE l
def parsE : List Cd → Int
  | [] => 0
  | c :: r => if parE c ≠ 0 then parE c else parsE r
end
theorem parE_eq (c : Cd) : parE c = if partE c ≠ 0 then partE c else parsE c.l := by cases c; rw [parE]; rfl
/-- few parts -/
def Few (c : Cd) : Prop := Fits c ∧ tsz c ≤ 128
theorem few_sub : ∀ c : Cd, Few c → ∀ x ∈ c.l, Few x := fun c h x hx => by
  have h1 := tszs_mem hx
  have h2 := h.2
  rw [tsz_eq] at h2
  exact ⟨fits_sub c h.1 x hx, by omega⟩
theorem few_len {c : Cd} (h : Few c) : c.l.length ≤ 127 := by
  have h1 := tszs_len c.l
  have h2 := h.2
  rw [tsz_eq] at h2
  omega
theorem cond_parts_ret : ∀ c : Cd, Few c → Ret lb F_cond_parts [cdv c] (.int .i64 (parE c)) := by
  refine cd_ret lb few_sub fun c hf hs => .top rfl (.eq (fun n => by rw [cond_parts_eq]) ?_)
  have hl := few_len hf
  have e0 := part_ret lb c hf.1 hl
  rw [parE_eq]
  by_cases h0 : partE c ≠ 0
  · rw [if_pos h0]
    exact e0.mono fun n a => stO _ a (stO _ (asI_i ..) (stT (bneT h0) rfl))
  rw [if_neg h0]
  have hh : ∀ n, (∀ x ∈ c.l, C lb n F_cond_parts [cdv x] = some (.int .i64 (parE x))) → ∀ t p, p ++ t = c.l → ∀ k, t.length < k → ∀ r, cond_parts_L1 lb n k c.k c.ln (c.l.map ccv) c.a c.b c.fr c.to c.days c.tn (scv c.t) r (p.length : Int) = some (.int .i64 (parsE t)) := by
    intro n hs t
    induction t with
    | nil =>
      intro p hp k hk r
      obtain ⟨k, rfl⟩ : ∃ j, k = j + 1 := ⟨k - 1, by simp at hk; omega⟩
      have hpl : p = c.l := by simpa using hp
      rw [cond_parts_L1_succ]
      refine stF (decF (by rw [hpl, List.length_map]; omega)) ?_
      rw [cond_parts_J2_eq, parsE]
    | cons x t ih =>
      intro p hp k hk r
      obtain ⟨k, rfl⟩ : ∃ j, k = j + 1 := ⟨k - 1, by simp at hk; omega⟩
      have hpl : c.l.length = p.length + (t.length + 1) := by rw [← hp]; simp
      have hat := cd_at (l := c.l) (i := p.length) (x := x) (by rw [← hp]; simp)
      rw [cond_parts_L1_succ]
      refine stT (decT (by rw [List.length_map]; omega)) (stO _ hat (stC rfl (stO _ rfl (stO _ rfl (stO _ rfl (stO _ rfl (stO _ rfl (stO _ rfl (stO _ rfl (stO _ rfl (stO _ (hs x (by rw [← hp]; simp)) (stO _ (asI_i ..) ?_))))))))))))
      rw [parsE]
      by_cases hx : parE x ≠ 0
      · rw [if_pos hx]
        exact stT (bneT hx) rfl
      · rw [if_neg hx]
        refine stF (bneF (Classical.byContradiction hx)) ?_
        rw [wrap64 (by omega) (by omega), show (p.length : Int) + 1 = ((p ++ [x]).length : Int) by simp]
        exact ih (p ++ [x]) (by rw [← hp]; simp) k (by simp at hk; omega) _
  exact Evt.imp2 e0 (Evt.and hs (Evt.ge (c.l.length + 1))) fun n a ⟨b, hn⟩ => stO _ a (stO _ (asI_i ..) (stF (bneF (Classical.byContradiction h0)) (hh n b c.l [] rfl n (by omega) _)))
theorem r20_parts_ret : ∀ c : Cd, Few c → Ret lb F_r20_parts [cdv c] (.int .i64 (parE c)) := by
  refine cd_ret lb few_sub fun c hf hs => .top rfl (.eq (fun n => by rw [r20_parts_eq]) ?_)
  have hl := few_len hf
  have e0 := r20_part_ret lb c hf.1
  rw [parE_eq]
  by_cases h0 : partE c ≠ 0
  · rw [if_pos h0]
    exact e0.mono fun n a => stO _ a (stO _ (asI_i ..) (stT (bneT h0) rfl))
  rw [if_neg h0]
  have hh : ∀ n, (∀ x ∈ c.l, C lb n F_r20_parts [cdv x] = some (.int .i64 (parE x))) → ∀ t p, p ++ t = c.l → ∀ k, t.length < k → ∀ r, r20_parts_L1 lb n k c.k c.ln (c.l.map ccv) c.a c.b c.fr c.to c.days c.tn (scv c.t) r (p.length : Int) = some (.int .i64 (parsE t)) := by
    intro n hs t
    induction t with
    | nil =>
      intro p hp k hk r
      obtain ⟨k, rfl⟩ : ∃ j, k = j + 1 := ⟨k - 1, by simp at hk; omega⟩
      have hpl : p = c.l := by simpa using hp
      rw [r20_parts_L1_succ]
      refine stF (decF (by rw [hpl, List.length_map]; omega)) ?_
      rw [r20_parts_J2_eq, parsE]
    | cons x t ih =>
      intro p hp k hk r
      obtain ⟨k, rfl⟩ : ∃ j, k = j + 1 := ⟨k - 1, by simp at hk; omega⟩
      have hpl : c.l.length = p.length + (t.length + 1) := by rw [← hp]; simp
      have hat := cd_at (l := c.l) (i := p.length) (x := x) (by rw [← hp]; simp)
      rw [r20_parts_L1_succ]
      refine stT (decT (by rw [List.length_map]; omega)) (stO _ hat (stC rfl (stO _ rfl (stO _ rfl (stO _ rfl (stO _ rfl (stO _ rfl (stO _ rfl (stO _ rfl (stO _ rfl (stO _ (hs x (by rw [← hp]; simp)) (stO _ (asI_i ..) ?_))))))))))))
      rw [parsE]
      by_cases hx : parE x ≠ 0
      · rw [if_pos hx]
        exact stT (bneT hx) rfl
      · rw [if_neg hx]
        refine stF (bneF (Classical.byContradiction hx)) ?_
        rw [wrap64 (by omega) (by omega), show (p.length : Int) + 1 = ((p ++ [x]).length : Int) by simp]
        exact ih (p ++ [x]) (by rw [← hp]; simp) k (by simp at hk; omega) _
  exact Evt.imp2 e0 (Evt.and hs (Evt.ge (c.l.length + 1))) fun n a ⟨b, hn⟩ => stO _ a (stO _ (asI_i ..) (stF (bneF (Classical.byContradiction h0)) (hh n b c.l [] rfl n (by omega) _)))
/-- the error of a condition -/
def checkE (c : Cd) : Int := if levC c > 8 then 4 else if sizC c > 128 then 4 else parE c
theorem siz_of_tsz : ∀ c : Cd, tsz c ≤ 300 → sizC c = tsz c := by
  refine Cd.ind fun c ih h => ?_
  rw [tsz_eq] at h
  have hl := tszs_len c.l
  rw [sizC_eq, tsz_eq, sizs_tsz c.l 1 0 (by omega) (fun x hx => by
    have := tszs_mem hx
    exact ⟨ih x hx (by omega), by omega⟩) (by omega)]
  omega
/-- conditions of few parts -/
def MoT (c : Cd) : Prop := Fits c ∧ tsz c ≤ 300
theorem mot_sub : ∀ c : Cd, MoT c → ∀ x ∈ c.l, MoT x := fun c h x hx => ⟨fits_sub c h.1 x hx, by
  have h2 := h.2
  rw [tsz_eq] at h2
  have := tszs_mem hx
  omega⟩
theorem mot_l {c : Cd} (h : MoT c) : c.l.length ≤ 300 := by
  have h2 := h.2
  rw [tsz_eq] at h2
  have := tszs_len c.l
  omega
theorem cond_Check_ret (c : Cd) (hf : Fits c) (hs : tsz c ≤ 300) : Ret lb F_cond_Check [cdv c] (.int .i64 (checkE c)) := by
  refine .top rfl (.eq (fun n => by rw [cond_Check_eq]) ?_)
  have s1 := siz_of_tsz c hs
  have e0 := cond_levels_ret lb c hf
  have e1 := cond_Size_ret lb c hf
  unfold checkE
  by_cases h1 : levC c > 8
  · rw [if_pos h1]
    exact e0.mono fun n a => stO _ a (stO _ (asI_i ..) (stT (decT h1) rfl))
  rw [if_neg h1]
  by_cases h2 : sizC c > 128
  · rw [if_pos h2]
    exact Evt.imp2 e0 e1 fun n a b => stO _ a (stO _ (asI_i ..) (stF (decF h1) (stO _ b (stO _ (asI_i ..) (stT (decT h2) rfl)))))
  rw [if_neg h2]
  exact Evt.imp2 e0 (Evt.and e1 (cond_parts_ret lb c ⟨hf, by omega⟩)) fun n a ⟨b, d⟩ => stO _ a (stO _ (asI_i ..) (stF (decF h1) (stO _ b (stO _ (asI_i ..) (stF (decF h2) (stO _ d rfl))))))
theorem r20_Check_ret (c : Cd) (hf : Fits c) (hs : tsz c ≤ 300) : Ret lb F_r20_Check [cdv c] (.int .i64 (checkE c)) := by
  refine .top rfl (.eq (fun n => by rw [r20_Check_eq]) ?_)
  have s1 := siz_of_tsz c hs
  have e0 := r20_levels_ret lb c hf
  have e1 := r20_Size_ret lb c hf
  unfold checkE
  by_cases h1 : levC c > 8
  · rw [if_pos h1]
    exact e0.mono fun n a => stO _ a (stO _ (asI_i ..) (stT (decT h1) rfl))
  rw [if_neg h1]
  by_cases h2 : sizC c > 128
  · rw [if_pos h2]
    exact Evt.imp2 e0 e1 fun n a b => stO _ a (stO _ (asI_i ..) (stF (decF h1) (stO _ b (stO _ (asI_i ..) (stT (decT h2) rfl)))))
  rw [if_neg h2]
  exact Evt.imp2 e0 (Evt.and e1 (r20_parts_ret lb c ⟨hf, by omega⟩)) fun n a ⟨b, d⟩ => stO _ a (stO _ (asI_i ..) (stF (decF h1) (stO _ b (stO _ (asI_i ..) (stF (decF h2) (stO _ d rfl))))))
/-! Same -/
mutual
def sameC : Cd → Cd → Bool
  | .mk k ln l a b fr to days tn t, d => (k == d.k) && ((a == d.a) && ((b == d.b) && (((fr == d.fr) && ((to == d.to) && ((days == d.days) && true))) && (decide (t = d.t) && samesC l d.l))))
def samesC : List Cd → List Cd → Bool
  | [], r => r.isEmpty
  | x :: l, r => match r with
    | [] => false
    | y :: r => sameC x y && samesC l r
end
theorem sameC_eq (c d : Cd) : sameC c d = ((c.k == d.k) && ((c.a == d.a) && ((c.b == d.b) && (((c.fr == d.fr) && ((c.to == d.to) && ((c.days == d.days) && true))) && (decide (c.t = d.t) && samesC c.l d.l))))) := by cases c; rw [sameC]; rfl
theorem samesC_len : ∀ {l r : List Cd}, samesC l r = true → l.length = r.length
  | [], r, h => by
    rw [samesC] at h
    cases r with
    | nil => rfl
    | cons y r => cases h
  | x :: l, [], h => by rw [samesC] at h; cases h
  | x :: l, y :: r, h => by
    rw [samesC, Bool.and_eq_true] at h
    simp [samesC_len h.2]
theorem sameC_refl : ∀ c : Cd, sameC c c = true := by
  refine Cd.ind fun c ih => ?_
  rw [sameC_eq]
  have : ∀ l : List Cd, (∀ x ∈ l, sameC x x = true) → samesC l l = true := by
    intro l
    induction l with
    | nil => intro _; rw [samesC]; rfl
    | cons x l ih => intro h; rw [samesC, h x (by simp), ih fun y hy => h y (by simp [hy])]; rfl
  rw [this c.l ih]
  simp
/-- lists of texts are short -/
def Mod (c : Cd) : Prop := Fits c ∧ lgC c = false
theorem mod_sub : ∀ c : Cd, Mod c → ∀ x ∈ c.l, Mod x := fun c h x hx => ⟨fits_sub c h.1 x hx, small_sub h.2 x hx⟩
theorem mod_t {c : Cd} (h : Mod c) : c.t.length ≤ 400 := by
  have h1 := small_txt h.2
  have h2 := txtSum_nn (c.t.take 200)
  unfold txtSum at h2
  unfold txtLen at h1
  omega
theorem mod_l {c : Cd} (h : Mod c) : c.l.length ≤ 300 := by
  have h1 := (small_size c h.1 h.2).2
  have h2 := tszs_len c.l
  rw [tsz_eq] at h1
  omega
theorem cd_ret2 {f : FuncId} {v : Cd → Cd → CV} (h : ∀ a b, Mod a → Mod b → (Evt fun n => ∀ x ∈ a.l, ∀ y ∈ b.l, C lb n f [cdv x, cdv y] = some (v x y)) → Ret lb f [cdv a, cdv b] (v a b)) : ∀ a b, Mod a → Mod b → Ret lb f [cdv a, cdv b] (v a b) :=
  Cd.ind fun a ih b ha hb => h a b ha hb (Evt.fin _ fun x hx => Evt.fin _ fun y hy => ih x hx y (mod_sub a ha x hx) (mod_sub b hb y hy))
theorem r20_Same_ret : ∀ a b : Cd, Mod a → Mod b → Ret lb F_r20_Same [cdv a, cdv b] (.bool (sameC a b)) := by
  refine cd_ret2 lb fun a b ha hb hs => .top rfl (.eq (fun n => by rw [r20_Same_eq]) ?_)
  have la := mod_l ha
  have ta := mod_t ha
  have e1 := r01_Same_ret lb a.tn b.tn a.t b.t (by omega)
  rw [sameC_eq]
  by_cases h1' : a.k ≠ b.k
  · exact .all fun n => stT (bneT h1') (by rw [beqF h1']; rfl)
  have h1 := Classical.byContradiction h1'
  rw [beqT h1]
  by_cases h2' : a.a ≠ b.a
  · exact .all fun n => stF (bneF h1) (stT (bneT h2') (by rw [beqF h2']; rfl))
  have h2 := Classical.byContradiction h2'
  rw [beqT h2]
  by_cases h3' : a.b ≠ b.b
  · exact .all fun n => stF (bneF h1) (stF (bneF h2) (stT (bneT h3') (by rw [beqF h3']; rfl)))
  have h3 := Classical.byContradiction h3'
  rw [beqT h3]
  cases h4 : ((a.fr == b.fr) && ((a.to == b.to) && ((a.days == b.days) && true))) with
  | false => exact .all fun n => stF (bneF h1) (stF (bneF h2) (stF (bneF h3) (stT rfl rfl)))
  | true =>
    by_cases h5' : a.l.length ≠ b.l.length
    · have : samesC a.l b.l = false := eq_false_of_ne_true fun e => h5' (samesC_len e)
      rw [this, Bool.and_false]
      exact .all fun n => stF (bneF h1) (stF (bneF h2) (stF (bneF h3) (stF rfl (stT (bneT (by rw [List.length_map, List.length_map]; omega)) rfl))))
    have h5 := Classical.byContradiction h5'
    by_cases h6 : a.t = b.t
    · rw [decT h6] at e1 ⊢
      have hh : ∀ n, (∀ x ∈ a.l, ∀ y ∈ b.l, C lb n F_r20_Same [cdv x, cdv y] = some (.bool (sameC x y))) → ∀ t u p q, p ++ t = a.l → q ++ u = b.l → p.length = q.length → ∀ k, t.length < k → r20_Same_L1 lb n k a.k a.ln (a.l.map ccv) a.a a.b a.fr a.to a.days a.tn (scv a.t) b.k b.ln (b.l.map ccv) b.a b.b b.fr b.to b.days b.tn (scv b.t) (p.length : Int) = some (.bool (samesC t u)) := by
        intro n hs t
        induction t with
        | nil =>
          intro u p q hp hq hpq k hk
          obtain ⟨k, rfl⟩ : ∃ j, k = j + 1 := ⟨k - 1, by simp at hk; omega⟩
          have hpl : p = a.l := by simpa using hp
          have hu : u = [] := by
            have : b.l.length = q.length + u.length := by rw [← hq]; simp
            rw [hpl] at hpq
            exact List.length_eq_zero_iff.1 (by omega)
          subst hu
          rw [r20_Same_L1_succ]
          refine stF (decF (by rw [hpl, List.length_map]; omega)) ?_
          rw [r20_Same_J2_eq, samesC]
          rfl
        | cons x t ih =>
          intro u p q hp hq hpq k hk
          obtain ⟨k, rfl⟩ : ∃ j, k = j + 1 := ⟨k - 1, by simp at hk; omega⟩
          have hpl : a.l.length = p.length + (t.length + 1) := by rw [← hp]; simp
          have hql : b.l.length = q.length + u.length := by rw [← hq]; simp
          cases u with
          | nil => simp at hql; omega
          | cons y u =>
            have hat := cd_at (l := a.l) (i := p.length) (x := x) (by rw [← hp]; simp)
            have hbt := cd_at (l := b.l) (i := p.length) (x := y) (by rw [← hq, hpq]; simp)
            rw [r20_Same_L1_succ]
            refine stT (decT (by rw [List.length_map]; omega)) (stO _ hat (stC rfl (stO _ rfl (stO _ rfl (stO _ rfl (stO _ rfl (stO _ rfl (stO _ rfl (stO _ rfl (stO _ rfl (stO _ hbt (stC rfl (stO _ rfl (stO _ rfl (stO _ rfl (stO _ rfl (stO _ rfl (stO _ rfl (stO _ rfl (stO _ rfl (stO _ (hs x (by rw [← hp]; simp) y (by rw [← hq]; simp)) (stO _ rfl ?_))))))))))))))))))))))
            rw [samesC]
            cases hxy : sameC x y with
            | false => exact stT rfl rfl
            | true =>
              refine stF rfl ?_
              rw [wrap64 (by omega) (by omega), show (p.length : Int) + 1 = ((p ++ [x]).length : Int) by simp]
              exact ih u (p ++ [x]) (q ++ [y]) (by rw [← hp]; simp) (by rw [← hq]; simp) (by simp [hpq]) k (by simp at hk; omega)
      exact Evt.imp2 e1 (Evt.and hs (Evt.ge (a.l.length + 1))) fun n x ⟨y, hn⟩ => stF (bneF h1) (stF (bneF h2) (stF (bneF h3) (stF rfl (stF (bneF (by rw [List.length_map, List.length_map]; omega)) (stO _ x (stO _ rfl (stF rfl (hh n y a.l b.l [] [] rfl rfl rfl n (by omega)))))))))
    · rw [decF h6] at e1 ⊢
      exact e1.mono fun n x => stF (bneF h1) (stF (bneF h2) (stF (bneF h3) (stF rfl (stF (bneF (by rw [List.length_map, List.length_map]; omega)) (stO _ x (stO _ rfl (stT rfl rfl)))))))
end Go.Proofs
/- Chapter 20 on plain data: Holds, by the program and by its reference. Conditions: as each says. -/
set_option linter.unusedVariables false
set_option linter.unusedSimpArgs false
namespace Go.Proofs
open Go.Am
variable (lb : Nat)
abbrev ints (l : List Int) : List (List CV) := l.map fun z => [CV.int .i64 z]
theorem ints_at {l : List Int} {i : Nat} {z : Int} (h : l[i]? = some z) : atL (ints l) (i : Int) = some [.int .i64 z] := atL_ok (by simp [h])
def withinB (l all : List Bs) : Bool := l.all fun s => decide (s ∈ all)
def hourB (a b m : Int) : Bool := bif decide (a ≤ b) then (bif decide (m ≥ a) then decide (m ≤ b) else false) else (bif decide (m ≥ a) then true else decide (m ≤ b))
def betw (l : List Int) (a b : Int) : Bool := l.all fun z => (!decide (z < a)) && !decide (z > b)
/-- what a part without conditions says of a trip -/
def leafH (t : Tp) (c : Cd) : Bool :=
  if c.k = 5 then hasF c.fr c.to c.days t.day else if c.k = 6 then hasF c.fr c.to c.days t.sale else if c.k = 7 then decide (IntKind.wrap .i64 (t.day - t.sale) ≥ c.a) else
  if c.k = 8 then hourB c.a c.b t.min else if c.k = 9 then decide (t.stops ≤ c.a) else if c.k = 10 then decide (t.tr ≤ c.a) else if c.k = 11 then withinB t.car c.t else
  if c.k = 12 then betw t.nums c.a c.b else if c.k = 13 then withinB t.vias c.t else if c.k = 14 then decide (t.ty ∈ c.t) else false
mutual
def holC (t : Tp) : Cd → Bool
  | .mk k ln l a b fr to days tn tx => if k = 1 then true else if k = 2 then allH t l else if k = 3 then anyH t l else if k = 4 then !allH t l else leafH t (.mk k ln l a b fr to days tn tx)
def allH (t : Tp) : List Cd → Bool
  | [] => true
  | c :: r => holC t c && allH t r
def anyH (t : Tp) : List Cd → Bool
  | [] => false
  | c :: r => holC t c || anyH t r
end
theorem holC_eq (t : Tp) (c : Cd) : holC t c = if c.k = 1 then true else if c.k = 2 then allH t c.l else if c.k = 3 then anyH t c.l else if c.k = 4 then !allH t c.l else leafH t c := by cases c; rw [holC]; rfl
/-- lists are as long as memory allows -/
def TFits (t : Tp) : Prop := t.car.length ≤ 281474976710656 ∧ t.nums.length ≤ 281474976710656 ∧ t.vias.length ≤ 281474976710656
theorem among_ret (an bn : Bool) (l all : List Bs) (hl : l.length ≤ 281474976710656) (ha : all.length ≤ 281474976710656) : Ret lb F_cond_among [.list an (scv l), .list bn (scv all)] (.bool (withinB l all)) := by
  refine .top rfl (.eq (fun n => by rw [cond_among_eq]) ?_)
  have e1 : Evt fun n => ∀ s ∈ l, C lb n F_slices_Contains_string [.list bn (scv all), .str s] = some (.bool (decide (s ∈ all))) := Evt.fin _ fun s _ => contains_str_ret lb bn all s ha
  have hh : ∀ n, (∀ s ∈ l, C lb n F_slices_Contains_string [.list bn (scv all), .str s] = some (.bool (decide (s ∈ all)))) → ∀ t p, p ++ t = l → ∀ k, t.length < k → cond_among_L1 lb n k an (scv l) bn (scv all) (p.length : Int) = some (.bool (withinB t all)) := by
    intro n a1 t
    induction t with
    | nil =>
      intro p hp k hk
      obtain ⟨k, rfl⟩ : ∃ j, k = j + 1 := ⟨k - 1, by simp at hk; omega⟩
      have hpl : p = l := by simpa using hp
      rw [cond_among_L1_succ]
      refine stF (decF (by rw [hpl, scv_len]; omega)) ?_
      rw [cond_among_J2_eq]
      rfl
    | cons x t ih =>
      intro p hp k hk
      obtain ⟨k, rfl⟩ : ∃ j, k = j + 1 := ⟨k - 1, by simp at hk; omega⟩
      have hpl : l.length = p.length + (t.length + 1) := by rw [← hp]; simp
      rw [cond_among_L1_succ]
      refine stT (decT (by rw [scv_len]; omega)) (stO _ (txt_at (s := x) (by rw [← hp]; simp)) (stC rfl (stO _ rfl (stO _ (a1 x (by rw [← hp]; simp)) (stO _ rfl ?_)))))
      show _ = some (CV.bool (decide (x ∈ all) && withinB t all))
      by_cases hx : x ∈ all
      · rw [decT hx]
        refine stF rfl ?_
        rw [wrap64 (by omega) (by omega), show (p.length : Int) + 1 = ((p ++ [x]).length : Int) by simp]
        exact ih (p ++ [x]) (by rw [← hp]; simp) k (by simp at hk; omega)
      · rw [decF hx]
        exact stT rfl (by rw [decT (show (p.length : Int) ≥ 0 by omega)]; rfl)
  exact Evt.imp2 e1 (Evt.ge (l.length + 1)) fun n a hn => hh n a l [] rfl n (by omega)
theorem r20_within_ret (an bn : Bool) (l all : List Bs) (hl : l.length ≤ 281474976710656) (ha : all.length ≤ 281474976710656) : Ret lb F_r20_within [.list an (scv l), .list bn (scv all)] (.bool (withinB l all)) := by
  refine .top rfl (.eq (fun n => by rw [r20_within_eq]) ?_)
  have e1 : Evt fun n => ∀ s ∈ l, C lb n F_r20_has [.list bn (scv all), .str s] = some (.bool (decide (s ∈ all))) := Evt.fin _ fun s _ => r20_has_ret lb bn all s ha
  have hh : ∀ n, (∀ s ∈ l, C lb n F_r20_has [.list bn (scv all), .str s] = some (.bool (decide (s ∈ all)))) → ∀ t p, p ++ t = l → ∀ k, t.length < k → r20_within_L1 lb n k an (scv l) bn (scv all) (p.length : Int) = some (.bool (withinB t all)) := by
    intro n a1 t
    induction t with
    | nil =>
      intro p hp k hk
      obtain ⟨k, rfl⟩ : ∃ j, k = j + 1 := ⟨k - 1, by simp at hk; omega⟩
      have hpl : p = l := by simpa using hp
      rw [r20_within_L1_succ]
      refine stF (decF (by rw [hpl, scv_len]; omega)) ?_
      rw [r20_within_J2_eq]
      rfl
    | cons x t ih =>
      intro p hp k hk
      obtain ⟨k, rfl⟩ : ∃ j, k = j + 1 := ⟨k - 1, by simp at hk; omega⟩
      have hpl : l.length = p.length + (t.length + 1) := by rw [← hp]; simp
      rw [r20_within_L1_succ]
      refine stT (decT (by rw [scv_len]; omega)) (stO _ (txt_at (s := x) (by rw [← hp]; simp)) (stC rfl (stO _ rfl (stO _ (a1 x (by rw [← hp]; simp)) (stO _ rfl ?_)))))
      show _ = some (CV.bool (decide (x ∈ all) && withinB t all))
      by_cases hx : x ∈ all
      · rw [decT hx]
        refine stF rfl ?_
        rw [wrap64 (by omega) (by omega), show (p.length : Int) + 1 = ((p ++ [x]).length : Int) by simp]
        exact ih (p ++ [x]) (by rw [← hp]; simp) k (by simp at hk; omega)
      · rw [decF hx]
        exact stT rfl rfl
  exact Evt.imp2 e1 (Evt.ge (l.length + 1)) fun n a hn => hh n a l [] rfl n (by omega)
theorem r20_between_ret (an : Bool) (l : List Int) (a b : Int) (hl : l.length ≤ 281474976710656) : Ret lb F_r20_between [.list an (ints l), .int .i64 a, .int .i64 b] (.bool (betw l a b)) := by
  refine .top rfl (.eq (fun n => by rw [r20_between_eq]) ?_)
  have hh : ∀ n t p, p ++ t = l → ∀ k, t.length < k → r20_between_L1 lb n k an (ints l) a b (p.length : Int) = some (.bool (betw t a b)) := by
    intro n t
    induction t with
    | nil =>
      intro p hp k hk
      obtain ⟨k, rfl⟩ : ∃ j, k = j + 1 := ⟨k - 1, by simp at hk; omega⟩
      have hpl : p = l := by simpa using hp
      rw [r20_between_L1_succ]
      refine stF (decF (by rw [hpl, List.length_map]; omega)) ?_
      rw [r20_between_J2_eq]
      rfl
    | cons x t ih =>
      intro p hp k hk
      obtain ⟨k, rfl⟩ : ∃ j, k = j + 1 := ⟨k - 1, by simp at hk; omega⟩
      have hpl : l.length = p.length + (t.length + 1) := by rw [← hp]; simp
      have hat := ints_at (l := l) (i := p.length) (z := x) (by rw [← hp]; simp)
      rw [r20_between_L1_succ]
      refine stT (decT (by rw [List.length_map]; omega)) (stO _ hat (stC rfl (stO _ rfl (stO _ (asI_i ..) ?_))))
      show _ = some (CV.bool (((!decide (x < a)) && !decide (x > b)) && betw t a b))
      by_cases h1 : x < a
      · exact stT (decT h1) (by rw [decT h1]; rfl)
      refine stF (decF h1) (stO _ hat (stC rfl (stO _ rfl (stO _ (asI_i ..) ?_))))
      rw [decF h1]
      by_cases h2 : x > b
      · exact stT (decT h2) (by rw [decT h2]; rfl)
      refine stF (decF h2) ?_
      rw [decF h2, wrap64 (by omega) (by omega), show (p.length : Int) + 1 = ((p ++ [x]).length : Int) by simp]
      exact ih (p ++ [x]) (by rw [← hp]; simp) k (by simp at hk; omega)
  exact (Evt.ge (l.length + 1)).mono fun n hn => hh n l [] rfl n (by omega)
/-! the loops of the program's Holds -/
theorem hol_all (c : Cd) (t : Tp) (hl : c.l.length ≤ 281474976710656) (n : Nat) (hs : ∀ x ∈ c.l, C lb n F_cond_Holds [cdv x, tpv t] = some (.bool (holC t x))) : ∀ u p, p ++ u = c.l → ∀ k, u.length < k →
    cond_Holds_L1 lb n k c.ln (c.l.map ccv) c.k c.a c.b c.fr c.to c.days c.tn (scv c.t) t.ty t.sale t.day t.min t.stops t.tr t.cn (scv t.car) t.nn (ints t.nums) t.vn (scv t.vias) (p.length : Int) = some (.bool (allH t u)) := by
  intro u
  induction u with
  | nil =>
    intro p hp k hk
    obtain ⟨k, rfl⟩ : ∃ j, k = j + 1 := ⟨k - 1, by simp at hk; omega⟩
    have hpl : p = c.l := by simpa using hp
    rw [cond_Holds_L1_succ]
    refine stF (decF (by rw [hpl, List.length_map]; omega)) ?_
    rw [cond_Holds_J2_eq, allH]
  | cons x u ih =>
    intro p hp k hk
    obtain ⟨k, rfl⟩ : ∃ j, k = j + 1 := ⟨k - 1, by simp at hk; omega⟩
    have hpl : c.l.length = p.length + (u.length + 1) := by rw [← hp]; simp
    have hat := cd_at (l := c.l) (i := p.length) (x := x) (by rw [← hp]; simp)
    rw [cond_Holds_L1_succ]
    refine stT (decT (by rw [List.length_map]; omega)) (stO _ hat (stC rfl (stO _ rfl (stO _ rfl (stO _ rfl (stO _ rfl (stO _ rfl (stO _ rfl (stO _ rfl (stO _ rfl (stO _ (hs x (by rw [← hp]; simp)) (stO _ rfl ?_))))))))))))
    rw [allH]
    cases hx : holC t x with
    | false => exact stT rfl (by rw [decT (show (p.length : Int) ≥ 0 by omega)]; rfl)
    | true =>
      refine stF rfl ?_
      rw [wrap64 (by omega) (by omega), show (p.length : Int) + 1 = ((p ++ [x]).length : Int) by simp]
      exact ih (p ++ [x]) (by rw [← hp]; simp) k (by simp at hk; omega)
theorem hol_any (c : Cd) (t : Tp) (hl : c.l.length ≤ 281474976710656) (n : Nat) (hs : ∀ x ∈ c.l, C lb n F_cond_Holds [cdv x, tpv t] = some (.bool (holC t x))) : ∀ u p, p ++ u = c.l → ∀ k, u.length < k →
    cond_Holds_L3 lb n k c.ln (c.l.map ccv) c.k c.a c.b c.fr c.to c.days c.tn (scv c.t) t.ty t.sale t.day t.min t.stops t.tr t.cn (scv t.car) t.nn (ints t.nums) t.vn (scv t.vias) (p.length : Int) = some (.bool (anyH t u)) := by
  intro u
  induction u with
  | nil =>
    intro p hp k hk
    obtain ⟨k, rfl⟩ : ∃ j, k = j + 1 := ⟨k - 1, by simp at hk; omega⟩
    have hpl : p = c.l := by simpa using hp
    rw [cond_Holds_L3_succ]
    refine stF (decF (by rw [hpl, List.length_map]; omega)) ?_
    rw [cond_Holds_J4_eq, anyH]
  | cons x u ih =>
    intro p hp k hk
    obtain ⟨k, rfl⟩ : ∃ j, k = j + 1 := ⟨k - 1, by simp at hk; omega⟩
    have hpl : c.l.length = p.length + (u.length + 1) := by rw [← hp]; simp
    have hat := cd_at (l := c.l) (i := p.length) (x := x) (by rw [← hp]; simp)
    rw [cond_Holds_L3_succ]
    refine stT (decT (by rw [List.length_map]; omega)) (stO _ hat (stC rfl (stO _ rfl (stO _ rfl (stO _ rfl (stO _ rfl (stO _ rfl (stO _ rfl (stO _ rfl (stO _ rfl (stO _ (hs x (by rw [← hp]; simp)) (stO _ rfl ?_))))))))))))
    rw [anyH]
    cases hx : holC t x with
    | true => exact stT rfl (by rw [decT (show (p.length : Int) ≥ 0 by omega)]; rfl)
    | false =>
      refine stF rfl ?_
      rw [wrap64 (by omega) (by omega), show (p.length : Int) + 1 = ((p ++ [x]).length : Int) by simp]
      exact ih (p ++ [x]) (by rw [← hp]; simp) k (by simp at hk; omega)
theorem hol_not (c : Cd) (t : Tp) (hl : c.l.length ≤ 281474976710656) (n : Nat) (hs : ∀ x ∈ c.l, C lb n F_cond_Holds [cdv x, tpv t] = some (.bool (holC t x))) : ∀ u p, p ++ u = c.l → ∀ k, u.length < k →
    cond_Holds_L5 lb n k c.ln (c.l.map ccv) c.k c.a c.b c.fr c.to c.days c.tn (scv c.t) t.ty t.sale t.day t.min t.stops t.tr t.cn (scv t.car) t.nn (ints t.nums) t.vn (scv t.vias) (p.length : Int) = some (.bool (!allH t u)) := by
  intro u
  induction u with
  | nil =>
    intro p hp k hk
    obtain ⟨k, rfl⟩ : ∃ j, k = j + 1 := ⟨k - 1, by simp at hk; omega⟩
    have hpl : p = c.l := by simpa using hp
    rw [cond_Holds_L5_succ]
    refine stF (decF (by rw [hpl, List.length_map]; omega)) ?_
    rw [cond_Holds_J6_eq, allH]
    rfl
  | cons x u ih =>
    intro p hp k hk
    obtain ⟨k, rfl⟩ : ∃ j, k = j + 1 := ⟨k - 1, by simp at hk; omega⟩
    have hpl : c.l.length = p.length + (u.length + 1) := by rw [← hp]; simp
    have hat := cd_at (l := c.l) (i := p.length) (x := x) (by rw [← hp]; simp)
    rw [cond_Holds_L5_succ]
    refine stT (decT (by rw [List.length_map]; omega)) (stO _ hat (stC rfl (stO _ rfl (stO _ rfl (stO _ rfl (stO _ rfl (stO _ rfl (stO _ rfl (stO _ rfl (stO _ rfl (stO _ (hs x (by rw [← hp]; simp)) (stO _ rfl ?_))))))))))))
    rw [allH]
    cases hx : holC t x with
    | false => exact stT rfl (by rw [decT (show (p.length : Int) ≥ 0 by omega)]; rfl)
    | true =>
      refine stF rfl ?_
      rw [wrap64 (by omega) (by omega), show (p.length : Int) + 1 = ((p ++ [x]).length : Int) by simp]
      exact ih (p ++ [x]) (by rw [← hp]; simp) k (by simp at hk; omega)
theorem hol_num (c : Cd) (t : Tp) (hl : t.nums.length ≤ 281474976710656) (n : Nat) : ∀ u p, p ++ u = t.nums → ∀ k, u.length < k →
    cond_Holds_L7 lb n k t.nn (ints t.nums) c.k c.ln (c.l.map ccv) c.a c.b c.fr c.to c.days c.tn (scv c.t) t.ty t.sale t.day t.min t.stops t.tr t.cn (scv t.car) t.vn (scv t.vias) (p.length : Int) = some (.bool (betw u c.a c.b)) := by
  intro u
  induction u with
  | nil =>
    intro p hp k hk
    obtain ⟨k, rfl⟩ : ∃ j, k = j + 1 := ⟨k - 1, by simp at hk; omega⟩
    have hpl : p = t.nums := by simpa using hp
    rw [cond_Holds_L7_succ]
    refine stF (decF (by rw [hpl, List.length_map]; omega)) ?_
    rw [cond_Holds_J8_eq]
    rfl
  | cons x u ih =>
    intro p hp k hk
    obtain ⟨k, rfl⟩ : ∃ j, k = j + 1 := ⟨k - 1, by simp at hk; omega⟩
    have hpl : t.nums.length = p.length + (u.length + 1) := by rw [← hp]; simp
    have hat := ints_at (l := t.nums) (i := p.length) (z := x) (by rw [← hp]; simp)
    rw [cond_Holds_L7_succ]
    refine stT (decT (by rw [List.length_map]; omega)) (stO _ hat (stC rfl (stO _ rfl (stO _ (asI_i ..) ?_))))
    show _ = some (CV.bool (((!decide (x < c.a)) && !decide (x > c.b)) && betw u c.a c.b))
    by_cases h1 : x < c.a
    · exact stT (decT h1) (by rw [decT h1, decT (show (p.length : Int) ≥ 0 by omega)]; rfl)
    refine stF (decF h1) (stO _ (asI_i ..) ?_)
    rw [decF h1]
    by_cases h2 : x > c.b
    · exact stT (decT h2) (by rw [decT h2, decT (show (p.length : Int) ≥ 0 by omega)]; rfl)
    refine stF (decF h2) ?_
    rw [decF h2, wrap64 (by omega) (by omega), show (p.length : Int) + 1 = ((p ++ [x]).length : Int) by simp]
    exact ih (p ++ [x]) (by rw [← hp]; simp) k (by simp at hk; omega)
/-- a function of conditions and a trip, by induction -/
theorem cd_rett {f : FuncId} {t : Tp} {v : Cd → CV} {G : Cd → Prop} (hG : ∀ c, G c → ∀ x ∈ c.l, G x) (h : ∀ c, G c → (Evt fun n => ∀ x ∈ c.l, C lb n f [cdv x, tpv t] = some (v x)) → Ret lb f [cdv c, tpv t] (v c)) : ∀ c, G c → Ret lb f [cdv c, tpv t] (v c) :=
  Cd.ind fun c ih hg => h c hg (Evt.fin _ fun x hx => ih x hx (hG c hg x hx))
theorem hour_eq (a b m : Int) : (bif decide (a ≤ b) then (bif decide (m ≥ a) then some (CV.bool (decide (m ≤ b))) else some (.bool false)) else (bif decide (m ≥ a) then some (.bool true) else some (.bool (decide (m ≤ b))))) = some (.bool (hourB a b m)) := by
  unfold hourB
  cases decide (a ≤ b) <;> cases decide (m ≥ a) <;> rfl
theorem cond_Holds_ret (t : Tp) (ht : TFits t) : ∀ c : Cd, Fits c → Ret lb F_cond_Holds [cdv c, tpv t] (.bool (holC t c)) := by
  refine cd_rett lb fits_sub fun c hf hs => .top rfl (.eq (fun n => by rw [cond_Holds_eq]) ?_)
  have hl := fits_len hf
  obtain ⟨f1, f2⟩ := fits_tlen hf
  obtain ⟨t1, t2, t3⟩ := ht
  rw [holC_eq]
  by_cases k1 : c.k = 1
  · rw [if_pos k1]
    exact .all fun n => stT (beqT k1) rfl
  rw [if_neg k1]
  by_cases k2 : c.k = 2
  · rw [if_pos k2]
    exact Evt.imp2 hs (Evt.ge (c.l.length + 1)) fun n a hn => stF (beqF k1) (stT (beqT k2) (hol_all lb c t hl n a c.l [] rfl n (by omega)))
  rw [if_neg k2]
  by_cases k3 : c.k = 3
  · rw [if_pos k3]
    exact Evt.imp2 hs (Evt.ge (c.l.length + 1)) fun n a hn => stF (beqF k1) (stF (beqF k2) (stT (beqT k3) (hol_any lb c t hl n a c.l [] rfl n (by omega))))
  rw [if_neg k3]
  by_cases k4 : c.k = 4
  · rw [if_pos k4]
    exact Evt.imp2 hs (Evt.ge (c.l.length + 1)) fun n a hn => stF (beqF k1) (stF (beqF k2) (stF (beqF k3) (stT (beqT k4) (hol_not lb c t hl n a c.l [] rfl n (by omega)))))
  rw [if_neg k4]
  unfold leafH

  by_cases k5 : c.k = 5
  · rw [if_pos k5]
    exact (period_Has_ret lb c.fr c.to c.days t.day).mono fun n a => stF (beqF k1) (stF (beqF k2) (stF (beqF k3) (stF (beqF k4) (stT (beqT k5) (stO _ a rfl)))))
  rw [if_neg k5]
  by_cases k6 : c.k = 6
  · rw [if_pos k6]
    exact (period_Has_ret lb c.fr c.to c.days t.sale).mono fun n a => stF (beqF k1) (stF (beqF k2) (stF (beqF k3) (stF (beqF k4) (stF (beqF k5) (stT (beqT k6) (stO _ a rfl))))))
  rw [if_neg k6]
  by_cases k7 : c.k = 7
  · rw [if_pos k7]
    exact .all fun n => stF (beqF k1) (stF (beqF k2) (stF (beqF k3) (stF (beqF k4) (stF (beqF k5) (stF (beqF k6) (stT (beqT k7) rfl))))))
  rw [if_neg k7]
  by_cases k8 : c.k = 8
  · rw [if_pos k8]
    exact .all fun n => stF (beqF k1) (stF (beqF k2) (stF (beqF k3) (stF (beqF k4) (stF (beqF k5) (stF (beqF k6) (stF (beqF k7) (stT (beqT k8) (hour_eq _ _ _))))))))
  rw [if_neg k8]
  by_cases k9 : c.k = 9
  · rw [if_pos k9]
    exact .all fun n => stF (beqF k1) (stF (beqF k2) (stF (beqF k3) (stF (beqF k4) (stF (beqF k5) (stF (beqF k6) (stF (beqF k7) (stF (beqF k8) (stT (beqT k9) rfl))))))))
  rw [if_neg k9]
  by_cases k10 : c.k = 10
  · rw [if_pos k10]
    exact .all fun n => stF (beqF k1) (stF (beqF k2) (stF (beqF k3) (stF (beqF k4) (stF (beqF k5) (stF (beqF k6) (stF (beqF k7) (stF (beqF k8) (stF (beqF k9) (stT (beqT k10) rfl)))))))))
  rw [if_neg k10]
  by_cases k11 : c.k = 11
  · rw [if_pos k11]
    exact (among_ret lb t.cn c.tn t.car c.t t1 f1).mono fun n a => stF (beqF k1) (stF (beqF k2) (stF (beqF k3) (stF (beqF k4) (stF (beqF k5) (stF (beqF k6) (stF (beqF k7) (stF (beqF k8) (stF (beqF k9) (stF (beqF k10) (stT (beqT k11) (stO _ a rfl)))))))))))
  rw [if_neg k11]
  by_cases k12 : c.k = 12
  · rw [if_pos k12]
    exact (Evt.ge (t.nums.length + 1)).mono fun n hn => stF (beqF k1) (stF (beqF k2) (stF (beqF k3) (stF (beqF k4) (stF (beqF k5) (stF (beqF k6) (stF (beqF k7) (stF (beqF k8) (stF (beqF k9) (stF (beqF k10) (stF (beqF k11) (stT (beqT k12) (hol_num lb c t t2 n t.nums [] rfl n (by omega)))))))))))))
  rw [if_neg k12]
  by_cases k13 : c.k = 13
  · rw [if_pos k13]
    exact (among_ret lb t.vn c.tn t.vias c.t t3 f1).mono fun n a => stF (beqF k1) (stF (beqF k2) (stF (beqF k3) (stF (beqF k4) (stF (beqF k5) (stF (beqF k6) (stF (beqF k7) (stF (beqF k8) (stF (beqF k9) (stF (beqF k10) (stF (beqF k11) (stF (beqF k12) (stT (beqT k13) (stO _ a rfl)))))))))))))
  rw [if_neg k13]
  by_cases k14 : c.k = 14
  · rw [if_pos k14]
    exact (contains_str_ret lb c.tn c.t t.ty f1).mono fun n a => stF (beqF k1) (stF (beqF k2) (stF (beqF k3) (stF (beqF k4) (stF (beqF k5) (stF (beqF k6) (stF (beqF k7) (stF (beqF k8) (stF (beqF k9) (stF (beqF k10) (stF (beqF k11) (stF (beqF k12) (stF (beqF k13) (stT (beqT k14) (stO _ a rfl))))))))))))))
  rw [if_neg k14]
  exact .all fun n => stF (beqF k1) (stF (beqF k2) (stF (beqF k3) (stF (beqF k4) (stF (beqF k5) (stF (beqF k6) (stF (beqF k7) (stF (beqF k8) (stF (beqF k9) (stF (beqF k10) (stF (beqF k11) (stF (beqF k12) (stF (beqF k13) (stF (beqF k14) rfl)))))))))))))
end Go.Proofs
/- Chapter 20 on plain data: Holds by the reference, and Why by both. Conditions: as each says. -/
set_option linter.unusedVariables false
set_option linter.unusedSimpArgs false
namespace Go.Proofs
open Go.Am
variable (lb : Nat)
/-- a right condition -/
def Good (c : Cd) : Prop := MoT c ∧ parE c = 0
theorem parsE_0 : ∀ {l : List Cd}, parsE l = 0 → ∀ x ∈ l, parE x = 0
  | [], _, x, hx => by cases hx
  | c :: r, h, x, hx => by
    rw [parsE] at h
    split at h
    · rename_i q; exact absurd h q
    · rename_i q
      rcases List.mem_cons.1 hx with rfl | hx
      · exact Classical.byContradiction q
      · exact parsE_0 h x hx
theorem parE_0 {c : Cd} (h : parE c = 0) : partE c = 0 ∧ ∀ x ∈ c.l, parE x = 0 := by
  rw [parE_eq] at h
  split at h
  · rename_i q; exact absurd h q
  · rename_i q
    exact ⟨Classical.byContradiction q, parsE_0 h⟩
theorem good_sub : ∀ c : Cd, Good c → ∀ x ∈ c.l, Good x := fun c h x hx => ⟨mot_sub c h.1 x hx, (parE_0 h.2).2 x hx⟩
theorem partE_0 {c : Cd} (h : partE c = 0) : 1 ≤ c.k ∧ c.k ≤ 14 ∧ extraB c = false ∧ wrongB c = false := by
  unfold partE at h
  split at h
  · cases h
  split at h
  · cases h
  split at h
  · cases h
  · rename_i h1 h2 h3
    exact ⟨by omega, by omega, by simpa using h2, by simpa using h3⟩
theorem good_not {c : Cd} (h : Good c) (hk : c.k = 4) : c.l.length = 1 := by
  have := (partE_0 (parE_0 h.2).1).2.2.2
  unfold wrongB at this
  rw [if_neg (by omega), if_pos hk] at this
  simpa using this
theorem good_and {c : Cd} (h : Good c) (hk : c.k = 2 ∨ c.k = 3) : c.l.length ≠ 0 := by
  have := (partE_0 (parE_0 h.2).1).2.2.2
  unfold wrongB at this
  rw [if_pos hk] at this
  simpa using this
/-- how many hold -/
def cntH (t : Tp) : List Cd → Nat
  | [] => 0
  | c :: r => (if holC t c = true then 1 else 0) + cntH t r
theorem cntH_le (t : Tp) : ∀ l : List Cd, cntH t l ≤ l.length
  | [] => by simp [cntH]
  | c :: r => by
    have := cntH_le t r
    rw [cntH, List.length_cons]
    split <;> omega
theorem cntH_all (t : Tp) : ∀ l : List Cd, (cntH t l = l.length) ↔ allH t l = true
  | [] => by simp [cntH, allH]
  | c :: r => by
    have h1 := cntH_le t r
    have h2 := cntH_all t r
    rw [cntH, allH, List.length_cons, Bool.and_eq_true, ← h2]
    split <;> rename_i h <;> simp [h] <;> omega
theorem cntH_any (t : Tp) : ∀ l : List Cd, (0 < cntH t l) ↔ anyH t l = true
  | [] => by simp [cntH, anyH]
  | c :: r => by
    have h2 := cntH_any t r
    rw [cntH, anyH, Bool.or_eq_true, ← h2]
    split <;> rename_i h <;> simp [h] <;> omega
theorem r20_count_ret (an : Bool) (l : List Cd) (t : Tp) (hl : l.length ≤ 281474976710656) (hs : Evt fun n => ∀ x ∈ l, C lb n F_r20_Holds [cdv x, tpv t] = some (.bool (holC t x))) :
    Ret lb F_r20_count [.list an (l.map ccv), tpv t] (.int .i64 (cntH t l)) := by
  refine .top rfl (.eq (fun n => by rw [r20_count_eq]) ?_)
  have hh : ∀ n, (∀ x ∈ l, C lb n F_r20_Holds [cdv x, tpv t] = some (.bool (holC t x))) → ∀ u p, p ++ u = l → ∀ k, u.length < k → ∀ m : Nat, m ≤ p.length →
      r20_count_L1 lb n k an (l.map ccv) t.ty t.sale t.day t.min t.stops t.tr t.cn (scv t.car) t.nn (ints t.nums) t.vn (scv t.vias) (m : Int) (p.length : Int) = some (.int .i64 ((m + cntH t u : Nat) : Int)) := by
    intro n hs u
    induction u with
    | nil =>
      intro p hp k hk m hm
      obtain ⟨k, rfl⟩ : ∃ j, k = j + 1 := ⟨k - 1, by simp at hk; omega⟩
      have hpl : p = l := by simpa using hp
      rw [r20_count_L1_succ]
      refine stF (decF (by rw [hpl, List.length_map]; omega)) ?_
      rw [r20_count_J2_eq, cntH]
      rfl
    | cons x u ih =>
      intro p hp k hk m hm
      obtain ⟨k, rfl⟩ : ∃ j, k = j + 1 := ⟨k - 1, by simp at hk; omega⟩
      have hpl : l.length = p.length + (u.length + 1) := by rw [← hp]; simp
      have hat := cd_at (l := l) (i := p.length) (x := x) (by rw [← hp]; simp)
      rw [r20_count_L1_succ]
      refine stT (decT (by rw [List.length_map]; omega)) (stO _ hat (stC rfl (stO _ rfl (stO _ rfl (stO _ rfl (stO _ rfl (stO _ rfl (stO _ rfl (stO _ rfl (stO _ rfl (stO _ (hs x (by rw [← hp]; simp)) (stO _ rfl ?_))))))))))))
      rw [cntH, wrap64 (x := (p.length : Int) + 1) (by omega) (by omega), show (p.length : Int) + 1 = ((p ++ [x]).length : Int) by simp]
      cases hx : holC t x with
      | true =>
        refine stT rfl ?_
        rw [if_pos rfl, wrap64 (by omega) (by omega), show (m : Int) + 1 = ((m + 1 : Nat) : Int) by omega, ih (p ++ [x]) (by rw [← hp]; simp) k (by simp at hk; omega) (m + 1) (by simp; omega)]
        rw [show m + 1 + cntH t u = m + (1 + cntH t u) by omega]
      | false =>
        refine stF rfl ?_
        rw [if_neg (by simp), ih (p ++ [x]) (by rw [← hp]; simp) k (by simp at hk; omega) m (by simp; omega)]
        rw [show m + cntH t u = m + (0 + cntH t u) by omega]
  refine Evt.imp2 hs (Evt.ge (l.length + 1)) fun n a hn => ?_
  have := hh n a l [] rfl n (by omega) 0 (by omega)
  rw [Nat.zero_add] at this
  exact this
theorem r20_Holds_ret (t : Tp) (ht : TFits t) : ∀ c : Cd, Good c → Ret lb F_r20_Holds [cdv c, tpv t] (.bool (holC t c)) := by
  refine cd_rett lb good_sub fun c hg hs => .top rfl (.eq (fun n => by rw [r20_Holds_eq]) ?_)
  have hf := hg.1.1
  have hl := fits_len hf
  obtain ⟨f1, f2⟩ := fits_tlen hf
  obtain ⟨t1, t2, t3⟩ := ht
  obtain ⟨g1, g2, _, _⟩ := partE_0 (parE_0 hg.2).1
  have ec := r20_count_ret lb c.ln c.l t hl hs
  have hle := cntH_le t c.l
  rw [holC_eq]
  by_cases k1 : c.k = 1
  · rw [if_pos k1]
    exact .all fun n => stT (beqT k1) rfl
  rw [if_neg k1]
  by_cases k2 : c.k = 2
  · rw [if_pos k2]
    have e : (((cntH t c.l : Nat) : Int) == ((c.l.map ccv).length : Int)) = allH t c.l := by
      refine Bool.eq_iff_iff.2 ?_
      rw [beq_iff_eq, ← cntH_all, List.length_map]
      omega
    exact ec.mono fun n a => stF (beqF k1) (stT (beqT k2) (stO _ a (stO _ (asI_i ..) (by rw [e]))))
  rw [if_neg k2]
  by_cases k3 : c.k = 3
  · rw [if_pos k3]
    have e : decide (((cntH t c.l : Nat) : Int) > 0) = anyH t c.l := by
      refine Bool.eq_iff_iff.2 ?_
      rw [decide_eq_true_iff, ← cntH_any]
      omega
    exact ec.mono fun n a => stF (beqF k1) (stF (beqF k2) (stT (beqT k3) (stO _ a (stO _ (asI_i ..) (by rw [e])))))
  rw [if_neg k3]
  by_cases k4 : c.k = 4
  · rw [if_pos k4]
    have h1 := good_not hg k4
    have e : (((cntH t c.l : Nat) : Int) == 0) = !allH t c.l := by
      cases ha : allH t c.l with
      | true =>
        have := (cntH_all t c.l).2 ha
        exact beqF (by omega)
      | false =>
        have : ¬ cntH t c.l = c.l.length := fun e => by rw [(cntH_all t c.l).1 e] at ha; cases ha
        exact beqT (by omega)
    exact ec.mono fun n a => stF (beqF k1) (stF (beqF k2) (stF (beqF k3) (stT (beqT k4) (stO _ a (stO _ (asI_i ..) (by rw [e]))))))
  rw [if_neg k4]
  unfold leafH
  by_cases k5 : c.k = 5
  · rw [if_pos k5]
    exact (r04_Has_ret lb c.fr c.to c.days t.day).mono fun n a => stF (beqF k1) (stF (beqF k2) (stF (beqF k3) (stF (beqF k4) (stT (beqT k5) (stO _ a rfl)))))
  rw [if_neg k5]
  by_cases k6 : c.k = 6
  · rw [if_pos k6]
    exact (r04_Has_ret lb c.fr c.to c.days t.sale).mono fun n a => stF (beqF k1) (stF (beqF k2) (stF (beqF k3) (stF (beqF k4) (stF (beqF k5) (stT (beqT k6) (stO _ a rfl))))))
  rw [if_neg k6]
  by_cases k7 : c.k = 7
  · rw [if_pos k7]
    exact .all fun n => stF (beqF k1) (stF (beqF k2) (stF (beqF k3) (stF (beqF k4) (stF (beqF k5) (stF (beqF k6) (stT (beqT k7) rfl))))))
  rw [if_neg k7]
  by_cases k8 : c.k = 8
  · rw [if_pos k8]
    exact .all fun n => stF (beqF k1) (stF (beqF k2) (stF (beqF k3) (stF (beqF k4) (stF (beqF k5) (stF (beqF k6) (stF (beqF k7) (stT (beqT k8) (hour_eq _ _ _))))))))
  rw [if_neg k8]
  by_cases k9 : c.k = 9
  · rw [if_pos k9]
    exact .all fun n => stF (beqF k1) (stF (beqF k2) (stF (beqF k3) (stF (beqF k4) (stF (beqF k5) (stF (beqF k6) (stF (beqF k7) (stF (beqF k8) (stT (beqT k9) rfl))))))))
  rw [if_neg k9]
  by_cases k10 : c.k = 10
  · rw [if_pos k10]
    exact .all fun n => stF (beqF k1) (stF (beqF k2) (stF (beqF k3) (stF (beqF k4) (stF (beqF k5) (stF (beqF k6) (stF (beqF k7) (stF (beqF k8) (stF (beqF k9) (stT (beqT k10) rfl)))))))))
  rw [if_neg k10]
  by_cases k11 : c.k = 11
  · rw [if_pos k11]
    exact (r20_within_ret lb t.cn c.tn t.car c.t t1 f1).mono fun n a => stF (beqF k1) (stF (beqF k2) (stF (beqF k3) (stF (beqF k4) (stF (beqF k5) (stF (beqF k6) (stF (beqF k7) (stF (beqF k8) (stF (beqF k9) (stF (beqF k10) (stT (beqT k11) (stO _ a rfl)))))))))))
  rw [if_neg k11]
  by_cases k12 : c.k = 12
  · rw [if_pos k12]
    exact (r20_between_ret lb t.nn t.nums c.a c.b t2).mono fun n a => stF (beqF k1) (stF (beqF k2) (stF (beqF k3) (stF (beqF k4) (stF (beqF k5) (stF (beqF k6) (stF (beqF k7) (stF (beqF k8) (stF (beqF k9) (stF (beqF k10) (stF (beqF k11) (stT (beqT k12) (stO _ a rfl))))))))))))
  rw [if_neg k12]
  by_cases k13 : c.k = 13
  · rw [if_pos k13]
    exact (r20_within_ret lb t.vn c.tn t.vias c.t t3 f1).mono fun n a => stF (beqF k1) (stF (beqF k2) (stF (beqF k3) (stF (beqF k4) (stF (beqF k5) (stF (beqF k6) (stF (beqF k7) (stF (beqF k8) (stF (beqF k9) (stF (beqF k10) (stF (beqF k11) (stF (beqF k12) (stT (beqT k13) (stO _ a rfl)))))))))))))
  rw [if_neg k13]
  by_cases k14 : c.k = 14
  · rw [if_pos k14]
    exact (r20_has_ret lb c.tn c.t t.ty f1).mono fun n a => stF (beqF k1) (stF (beqF k2) (stF (beqF k3) (stF (beqF k4) (stF (beqF k5) (stF (beqF k6) (stF (beqF k7) (stF (beqF k8) (stF (beqF k9) (stF (beqF k10) (stF (beqF k11) (stF (beqF k12) (stF (beqF k13) (stO _ a rfl)))))))))))))
  omega
/-! Why -/
mutual
def whyC (t : Tp) : Cd → List Int
  | .mk k ln l a b fr to days tn tx => if k = 2 then whysC t 0 l else []
def whysC (t : Tp) : Int → List Cd → List Int
  | _, [] => []
  | i, c :: r => if holC t c = true then whysC t (i + 1) r else i :: whyC t c
end
theorem whyC_eq (t : Tp) (c : Cd) : whyC t c = if c.k = 2 then whysC t 0 c.l else [] := by cases c; rw [whyC]; rfl
theorem whyC_len (t : Tp) : ∀ c : Cd, (whyC t c).length ≤ tsz c := by
  refine Cd.ind fun c ih => ?_
  have : ∀ (l : List Cd) (i : Int), (∀ x ∈ l, (whyC t x).length ≤ tsz x) → (whysC t i l).length ≤ 1 + tszs l := by
    intro l
    induction l with
    | nil => intro i _; rw [whysC]; simp
    | cons x l ihl =>
      intro i h
      rw [whysC, tszs]
      split
      · have := ihl (i + 1) fun y hy => h y (by simp [hy])
        omega
      · have := h x (by simp)
        rw [List.length_cons]
        omega
  rw [whyC_eq, tsz_eq]
  split
  · exact this c.l 0 ih
  · simp
def whyV (t : Tp) (c : Cd) : CV := if holC t c = true then .tup [.list true [], .bool false] else .tup [.list (whyC t c).isEmpty (ints (whyC t c)), .bool true]
theorem all_one_ints (l : List Int) : (ints l).all (·.length == 1) = true := by simp
/-! lists of numbers -/
end Go.Proofs
