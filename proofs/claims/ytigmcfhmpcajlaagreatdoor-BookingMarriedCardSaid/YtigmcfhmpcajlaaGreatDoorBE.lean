/- Chapter 35: a short ascending list is sorted: nothing is written. Conditions: as each says. -/
import Derived.Test.YtigmcfhmpcajlaaGreatDoorBA
import Derived.Test.YtigmcfhmpcajlaaGreatDoorGf
import Derived.Test.YtigmcfhmpcajlaaGreatDoorGn
import Derived.Test.YtigmcfhmpcajlaaGreatDoorNh
import Derived.Test.YtigmcfhmpcajlaaGreatDoorRk
import Derived.Test.YtigmcfhmpcajlaaGreatDoorGa
import Derived.Test.YtigmcfhmpcajlaaGreatDoorBC
import Derived.Test.YtigmcfhmpcajlaaGreatDoorGd
import Derived.Test.YtigmcfhmpcajlaaGreatDoorBD
set_option linter.unusedSimpArgs false
set_option linter.unusedVariables false
namespace Go.Proofs
open Go.Am
variable (lb : Nat)
theorem QuO : Evt fun n => ∀ a : Int, C lb n QeB [.int .i64 a] = some (.bool false) :=
 .from 1 fun n a => by
  rw [QtQ lb n _ _ rfl, QnN]
  simp
theorem QnD : Evt fun n => ∀ a b : Int, C lb n Qbh [.int .i64 a, .int .i64 b] = some (.bool (decide (a < b))) := by
 obtain ⟨N, hN⟩ := QuO lb
 refine ⟨N + 1, fun n hn a b => ?_⟩
 obtain ⟨m, rfl⟩ : ∃ m, n = m + 1 := ⟨n - 1, by omega⟩
 rw [QtQ lb m _ _ rfl, QoV]
 exact stO _ (hN m (by omega) a) (stO _ (QaM _) (stF rfl rfl))
def Asc (l : List Int) : Prop := ∀ (i : Nat) a b, l[i]? = some a → l[i + 1]? = some b → a ≤ b
theorem QlD (bn : Bool) (l : List Int) (hl : l.length ≤ 1000000) (hs : Asc l) : ∀ (m i : Nat), i + m = l.length → 1 ≤ i → Evt fun n => ∀ k, m < k → Qbo lb n k bn (l.map icv) 0 (l.length : Int) (i : Int) = some (.tup [])
 | 0, i, h, h1 => .all fun n k hk => by
  obtain ⟨k, rfl⟩ : ∃ m, k = m + 1 := ⟨k - 1, by omega⟩
  rw [QbD]
  exact stF (decF (by omega)) rfl
 | m + 1, i, h, h1 => by
  refine ((QnD lb).and (Evt.ge 1)).imp2 (QlD bn l hl hs m (i + 1) (by omega) (by omega)) fun n hl2 hi k hk => ?_
  obtain ⟨k, rfl⟩ : ∃ m, k = m + 1 := ⟨k - 1, by omega⟩
  obtain ⟨n', rfl⟩ : ∃ m, n = m + 1 := ⟨n - 1, by have := hl2.2; omega⟩
  have hi := hi k (by omega)
  obtain ⟨b, hb⟩ : ∃ b, l[i]? = some b := ⟨_, List.getElem?_eq_getElem (by omega)⟩
  obtain ⟨a, ha⟩ : ∃ a, l[i - 1]? = some a := ⟨_, List.getElem?_eq_getElem (by omega)⟩
  have hab := hs (i - 1) a b ha (by rw [show i - 1 + 1 = i by omega]; exact hb)
  have hw : IntKind.wrap .i64 ((i : Int) - 1) = ((i - 1 : Nat) : Int) := by rw [QaB (by omega) (by omega)]; omega
  have hw1 : IntKind.wrap .i64 ((i : Int) + 1) = ((i + 1 : Nat) : Int) := by rw [QaB (by omega) (by omega)]; omega
  have atI : atL (l.map icv) (i : Int) = some (icv b) := Qbz (by rw [List.getElem?_map, hb]; rfl)
  have atP : atL (l.map icv) ((i - 1 : Nat) : Int) = some (icv a) := Qbz (by rw [List.getElem?_map, ha]; rfl)
  rw [QbD]
  refine stT (decT (by omega)) ?_
  rw [Qej, hw]
  refine stT (decT (by omega)) (stO _ atI (stC rfl (stO _ rfl (stO _ atP (stC rfl (stO _ rfl (stO _ (hl2.1 b a) (stO _ (QaM _) (stF (decF (by omega)) ?_)))))))))
  rw [QeH, hw1]
  exact hi
theorem Qq5 (bn : Bool) (l : List Int) (hl : l.length ≤ 1000000) (hs : Asc l) : Ret lb Qai [.list bn (l.map icv), .int .i64 0, .int .i64 (l.length : Int)] (.tup []) := by
 rcases Nat.eq_zero_or_pos l.length with h0 | h0
 ·refine .top rfl ((Evt.ge 1).mono fun n hn => ?_)
  obtain ⟨n, rfl⟩ : ∃ m, n = m + 1 := ⟨n - 1, by omega⟩
  rw [Qc4, QbD, QaB (by omega) (by omega), h0]
  exact stF (decF (by omega)) rfl
 ·refine .top rfl ((Evt.diag (QlD lb bn l hl hs (l.length - 1) 1 (by omega) (Nat.le_refl _))).mono fun n h => ?_)
  rw [Qc4, QaB (by omega) (by omega)]
  exact h
set_option maxRecDepth 100000 in
theorem Qs5 (m : Nat) (hm : m ≤ 255) : ∃ r, Ret lb QeD [.int .u64 (m : Int)] (.int .i64 r) := by
 have hw8 : IntKind.wrap .u8 (m : Int) = (m : Int) := by
  unfold IntKind.wrap
  simp [IntKind.bits, IntKind.signed]
  omega
 have key : ∃ r, QcS lb 0 (m : Int) 0 = some (.int .i64 r) := by
  rw [QbH, hw8]
  apply Exists.intro
  refine stF (decF (by omega)) (stO _ (QhI (List.getElem?_eq_getElem ?_)) rfl)
  exact Nat.lt_of_lt_of_le (show m < 256 by omega) (Nat.le_of_eq (by kernel_rfl))
 obtain ⟨r, key⟩ := key
 have h : ∃ r, Ret lb Qba [.int .u64 (m : Int)] (.int .i64 r) := by
  refine ⟨r, .top rfl (.all fun n => ?_)⟩
  rw [QhE]
  refine stF (decF (by omega)) ?_
  rw [Qf6]
  refine stF (decF (by omega)) ?_
  rw [← key, QbH, QbH]
 obtain ⟨r, h⟩ := h
 exact ⟨r, .top rfl (h.mono fun n h => by rw [QiR]; exact stO _ h rfl)⟩
theorem Qof (bn : Bool) (l : List Int) (hl : l.length ≤ 12) (hs : Asc l) : Ret lb Qcu [.list bn (l.map icv)] (.tup []) := by
 obtain ⟨r, hr⟩ := Qs5 lb l.length (by omega)
 have hp : Ret lb Qad [.list bn (l.map icv), .int .i64 0, .int .i64 (l.length : Int), .int .i64 r] (.tup []) :=
  .top rfl (((Qq5 lb bn l (by omega) hs).and (Evt.ge 1)).mono fun n ⟨h, hn⟩ => by
   obtain ⟨n', rfl⟩ : ∃ m, n = m + 1 := ⟨n - 1, by omega⟩
   rw [Qd4, Qdc]
   refine stO _ (QaK ..) (stO _ (QaK ..) (stT (decT ?_) (stO _ h rfl)))
   rw [QaB (by omega) (by omega)]; omega)
 refine .top rfl (Evt.imp2 hr hp fun n h1 h2 => ?_)
 rw [QhG]
 have hlen : (((l.map icv).length : Nat) : Int) = (l.length : Int) := by simp
 have hw : IntKind.wrap .u64 (l.length : Int) = (l.length : Int) := by
  unfold IntKind.wrap
  simp [IntKind.bits, IntKind.signed]
  omega
 rw [hlen, hw]
 exact stO _ h1 (stO _ h2 rfl)
end Go.Proofs
set_option linter.unusedSimpArgs false
set_option linter.unusedVariables false
namespace Go.Proofs
open Go.Am
variable (lb : Nat)
theorem QrJ {l : List Int} (hs : Asc l) : ∀ (d i : Nat) (a b : Int), l[i]? = some a → l[i + d]? = some b → a ≤ b
 | 0, i, a, b, ha, hb => by
  rw [Nat.add_zero, ha] at hb
  simp only [Option.some.injEq] at hb; omega
 | d + 1, i, a, b, ha, hb => by
  have hlt := (List.getElem?_eq_some_iff.1 hb).1
  obtain ⟨c, hc⟩ : ∃ c, l[i + d]? = some c := ⟨_, List.getElem?_eq_getElem (by omega)⟩
  have h1 := QrJ hs d i a c ha hc
  have h2 := hs (i + d) c b hc hb
  omega
theorem Qpd (yE : Nat) (bn : Bool) (l : List Int) (hl : l.length ≤ 1000000) (hs : Asc l) (n : Nat) (hless : ∀ a b : Int, C lb n Qbh [.int .i64 a, .int .i64 b] = some (.bool (decide (a < b)))) : ∀ (m i : Nat), i + m = l.length → 1 ≤ i → ∀ k, m < k → Qa3 lb n k yE bn (l.map icv) 0 (l.length : Int) (i : Int) = some (.bool true)
 | 0, i, h, h1, k, hk => by
  obtain ⟨k, rfl⟩ : ∃ j, k = j + 1 := ⟨k - 1, by omega⟩
  rw [QbT]
  refine stF (decF (by omega)) ?_
  rw [QdR]
  exact stT (beqT (by omega)) rfl
 | m + 1, i, h, h1, k, hk => by
  obtain ⟨k, rfl⟩ : ∃ j, k = j + 1 := ⟨k - 1, by omega⟩
  obtain ⟨b, hb⟩ : ∃ b, l[i]? = some b := ⟨_, List.getElem?_eq_getElem (by omega)⟩
  obtain ⟨a, ha⟩ : ∃ a, l[i - 1]? = some a := ⟨_, List.getElem?_eq_getElem (by omega)⟩
  have hab := hs (i - 1) a b ha (by rw [show i - 1 + 1 = i by omega]; exact hb)
  have hw : IntKind.wrap .i64 ((i : Int) - 1) = ((i - 1 : Nat) : Int) := by rw [QaB (by omega) (by omega)]; omega
  have hw1 : IntKind.wrap .i64 ((i : Int) + 1) = ((i + 1 : Nat) : Int) := by rw [QaB (by omega) (by omega)]; omega
  have atI : atL (l.map icv) (i : Int) = some (icv b) := Qbz (by rw [List.getElem?_map, hb]; rfl)
  have atP : atL (l.map icv) ((i - 1 : Nat) : Int) = some (icv a) := Qbz (by rw [List.getElem?_map, ha]; rfl)
  have ih := Qpd yE bn l hl hs n hless m (i + 1) (by omega) (by omega) k (by omega)
  rw [QbT, hw, hw1]
  exact stT (decT (by omega)) (stO _ atI (stC rfl (stO _ rfl (stO _ atP (stC rfl (stO _ rfl (stO _ (hless b a) (stO _ (QaM _) (stT (by rw [decF (by omega)]; rfl) ih)))))))))
theorem QsN (bn : Bool) (l : List Int) (hl : l.length ≤ 1000000) (h1 : 1 ≤ l.length) (hs : Asc l) : Ret lb Qaa [.list bn (l.map icv), .int .i64 0, .int .i64 (l.length : Int)] (.bool true) :=
 .top rfl (((QnD lb).and (Evt.ge (l.length + 1))).mono fun n ⟨hless, hn⟩ => by
  obtain ⟨m, rfl⟩ : ∃ m, n = m + 1 := ⟨n - 1, by omega⟩
  rw [Qd8, Qdy, QaB (by omega) (by omega)]
  exact Qpd lb m bn l hl hs (m + 1) hless (l.length - 1) 1 (by omega) (Nat.le_refl _) (m + 1) (by omega))
theorem QuV (bn : Bool) (l : List Int) (h0 : 13 ≤ l.length) (h1 : l.length ≤ 49) (hs : Asc l) : Ret lb Qam [.list bn (l.map icv), .int .i64 0, .int .i64 (l.length : Int)] (.tup [.int .i64 ((l.length / 4 * 2 : Nat) : Int), .int .i64 1]) :=
 .top rfl ((QnD lb).mono fun n hless => by
  have w0 : IntKind.wrap .i64 ((l.length : Int) - 0) = (l.length : Int) := by rw [QaB (by omega) (by omega)]; omega
  have wq : IntKind.wrap .i64 (Int.tdiv (l.length : Int) 4) = ((l.length / 4 : Nat) : Int) := by
   rw [show Int.tdiv (l.length : Int) 4 = ((l.length / 4 : Nat) : Int) from rfl, QaB (by omega) (by omega)]
  have e : ∀ c : Nat, c ≤ 3 → IntKind.wrap .i64 (0 + IntKind.wrap .i64 (((l.length / 4 : Nat) : Int) * (c : Int))) = ((l.length / 4 * c : Nat) : Int) := fun c hc => by
   have hq : l.length / 4 ≤ 49 := by omega
   have hqc : l.length / 4 * c ≤ 49 * 3 := Nat.mul_le_mul hq hc
   have hz : ((l.length / 4 : Nat) : Int) * (c : Int) = ((l.length / 4 * c : Nat) : Int) := by rw [Int.natCast_mul]
   have hb : ((l.length / 4 * c : Nat) : Int) ≤ 147 := by have := hqc; omega
   have hn : (0 : Int) ≤ ((l.length / 4 * c : Nat) : Int) := Int.natCast_nonneg _
   generalize ((l.length / 4 * c : Nat) : Int) = q at hz hb hn
   have hw : IntKind.wrap .i64 q = q := QaB (by omega) (by omega)
   rw [hz, hw, Int.zero_add, hw]
  have e1 := e 1 (by omega)
  have e2 := e 2 (by omega)
  have e3 := e 3 (by omega)
  obtain ⟨a, ha⟩ : ∃ a, l[l.length / 4 * 1]? = some a := ⟨_, List.getElem?_eq_getElem (by omega)⟩
  obtain ⟨b, hb⟩ : ∃ b, l[l.length / 4 * 2]? = some b := ⟨_, List.getElem?_eq_getElem (by omega)⟩
  obtain ⟨c, hc⟩ : ∃ c, l[l.length / 4 * 3]? = some c := ⟨_, List.getElem?_eq_getElem (by omega)⟩
  have hab := QrJ hs (l.length / 4) (l.length / 4 * 1) a b ha (by rw [show l.length / 4 * 1 + l.length / 4 = l.length / 4 * 2 by omega]; exact hb)
  have hbc := QrJ hs (l.length / 4) (l.length / 4 * 2) b c hb (by rw [show l.length / 4 * 2 + l.length / 4 = l.length / 4 * 3 by omega]; exact hc)
  have a1 : atL (l.map icv) ((l.length / 4 * 1 : Nat) : Int) = some (icv a) := Qbz (by rw [List.getElem?_map, ha]; rfl)
  have a2 : atL (l.map icv) ((l.length / 4 * 2 : Nat) : Int) = some (icv b) := Qbz (by rw [List.getElem?_map, hb]; rfl)
  have a3 : atL (l.map icv) ((l.length / 4 * 3 : Nat) : Int) = some (icv c) := Qbz (by rw [List.getElem?_map, hc]; rfl)
  rw [QfZ, w0]
  refine stT (decT (by omega)) (stF (decF (by omega)) ?_)
  rw [wq]
  have f1 : IntKind.wrap .i64 (0 + IntKind.wrap .i64 (((l.length / 4 : Nat) : Int) * 1)) = ((l.length / 4 * 1 : Nat) : Int) := e1
  have f2 : IntKind.wrap .i64 (0 + IntKind.wrap .i64 (((l.length / 4 : Nat) : Int) * 2)) = ((l.length / 4 * 2 : Nat) : Int) := e2
  have f3 : IntKind.wrap .i64 (0 + IntKind.wrap .i64 (((l.length / 4 : Nat) : Int) * 3)) = ((l.length / 4 * 3 : Nat) : Int) := e3
  rw [f1, f2, f3]
  refine stO _ a2 (stC rfl (stO _ rfl (stO _ a1 (stC rfl (stO _ rfl (stO _ (hless b a) (stO _ (QaM _) (stF (decF (by omega)) (stO _ a3 (stC rfl (stO _ rfl (stO _ a2 (stC rfl (stO _ rfl (stO _ (hless c b) (stO _ (QaM _) (stF (decF (by omega)) (stO _ a2 (stC rfl (stO _ rfl (stO _ a1 (stC rfl (stO _ rfl (stO _ (hless b a) (stO _ (QaM _) (stF (decF (by omega)) ?_))))))))))))))))))))))))))
  rw [Qe8, w0, wq, f2]
  exact stT rfl rfl)
set_option maxRecDepth 100000 in
theorem QsJ (m : Nat) (h0 : 13 ≤ m) (hm : m ≤ 49) : ∃ r : Int, r ≠ 0 ∧ Ret lb QeD [.int .u64 (m : Int)] (.int .i64 r) := by
 have hw8 : IntKind.wrap .u8 (m : Int) = (m : Int) := by
  unfold IntKind.wrap
  simp [IntKind.bits, IntKind.signed]
  omega
 have key : ∃ r : Int, r ≠ 0 ∧ QcS lb 0 (m : Int) 0 = some (.int .i64 r) := by
  have hc : m = 13 ∨ m = 14 ∨ m = 15 ∨ m = 16 ∨ m = 17 ∨ m = 18 ∨ m = 19 ∨ m = 20 ∨ m = 21 ∨ m = 22 ∨ m = 23 ∨ m = 24 ∨ m = 25 ∨ m = 26 ∨ m = 27 ∨ m = 28 ∨ m = 29 ∨ m = 30 ∨ m = 31 ∨ m = 32 ∨ m = 33 ∨ m = 34 ∨ m = 35 ∨ m = 36 ∨ m = 37 ∨ m = 38 ∨ m = 39 ∨ m = 40 ∨ m = 41 ∨ m = 42 ∨ m = 43 ∨ m = 44 ∨ m = 45 ∨ m = 46 ∨ m = 47 ∨ m = 48 ∨ m = 49 := by omega
  rw [QbH, hw8]
  by_cases h15 : m ≤ 15
  ·refine ⟨4, by decide, ?_⟩
   have hc : m = 13 ∨ m = 14 ∨ m = 15 := by omega
   rcases hc with rfl | rfl | rfl <;> exact stF (by decide) (stO _ (by rfl) rfl)
  ·by_cases h31 : m ≤ 31
   ·refine ⟨5, by decide, ?_⟩
    have hc : m = 16 ∨ m = 17 ∨ m = 18 ∨ m = 19 ∨ m = 20 ∨ m = 21 ∨ m = 22 ∨ m = 23 ∨ m = 24 ∨ m = 25 ∨ m = 26 ∨ m = 27 ∨ m = 28 ∨ m = 29 ∨ m = 30 ∨ m = 31 := by omega
    rcases hc with rfl | rfl | rfl | rfl | rfl | rfl | rfl | rfl | rfl | rfl | rfl | rfl | rfl | rfl | rfl | rfl <;> exact stF (by decide) (stO _ (by rfl) rfl)
   ·refine ⟨6, by decide, ?_⟩
    have hc : m = 32 ∨ m = 33 ∨ m = 34 ∨ m = 35 ∨ m = 36 ∨ m = 37 ∨ m = 38 ∨ m = 39 ∨ m = 40 ∨ m = 41 ∨ m = 42 ∨ m = 43 ∨ m = 44 ∨ m = 45 ∨ m = 46 ∨ m = 47 ∨ m = 48 ∨ m = 49 := by omega
    rcases hc with rfl | rfl | rfl | rfl | rfl | rfl | rfl | rfl | rfl | rfl | rfl | rfl | rfl | rfl | rfl | rfl | rfl | rfl <;> exact stF (by decide) (stO _ (by rfl) rfl)
 obtain ⟨r, hr, key⟩ := key
 have h : Ret lb Qba [.int .u64 (m : Int)] (.int .i64 r) := by
  refine .top rfl (.all fun n => ?_)
  rw [QhE]
  refine stF (decF (by omega)) ?_
  rw [Qf6]
  refine stF (decF (by omega)) ?_
  rw [← key, QbH, QbH]
 exact ⟨r, hr, .top rfl (h.mono fun n h => by rw [QiR]; exact stO _ h rfl)⟩
theorem QnT (bn : Bool) (l : List Int) (h0 : 13 ≤ l.length) (hl : l.length ≤ 49) (hs : Asc l) : Ret lb Qcu [.list bn (l.map icv)] (.tup []) := by
 obtain ⟨r, hr0, hr⟩ := QsJ lb l.length h0 hl
 have hp : Ret lb Qad [.list bn (l.map icv), .int .i64 0, .int .i64 (l.length : Int), .int .i64 r] (.tup []) :=
  .top rfl (Evt.imp2 (Evt.imp2 (QuV lb bn l h0 hl hs) (QsN lb bn l (by omega) (by omega) hs) fun n a b => And.intro a b) (Evt.ge 1) fun n ⟨h1, h2⟩ hn => by
   obtain ⟨m, hm⟩ : ∃ m, n = m + 1 := ⟨n - 1, by omega⟩
   have key : ∀ k', slices_pdqsortOrdered_int_L1 lb n (k' + 1) bn (l.map icv) (.int .i64 0) (.int .i64 (l.length : Int)) r true (.bool true) = some (.tup []) := fun k' => by
    rw [Qdc]
    refine stO _ (QaK ..) (stO _ (QaK ..) (stF (decF ?_) (stF (beqF hr0) (stF rfl ?_))))
    ·rw [QaB (by omega) (by omega)]; omega
    ·rw [Qgb]
     refine stO _ h1 (stO _ rfl (stO _ rfl (stO _ rfl (stO _ rfl (stO _ (QaK ..) (stF rfl ?_))))))
     rw [Qgc]
     exact stT rfl (stO _ rfl (stT rfl (stO _ (QaK ..) (stT rfl (stO _ h2 (stO _ rfl (stT rfl rfl)))))))
   rw [Qd4]
   have := key m
   rw [← hm] at this
   exact this)
 refine .top rfl (Evt.imp2 hr hp fun n h1 h2 => ?_)
 rw [QhG]
 have hlen : (((l.map icv).length : Nat) : Int) = (l.length : Int) := by simp
 have hw : IntKind.wrap .u64 (l.length : Int) = (l.length : Int) := by
  unfold IntKind.wrap
  simp [IntKind.bits, IntKind.signed]
  omega
 rw [hlen, hw]
 exact stO _ h1 (stO _ h2 rfl)
theorem QoK (bn : Bool) (l : List Int) (hl : l.length ≤ 49) (hs : Asc l) : Ret lb Qcu [.list bn (l.map icv)] (.tup []) := by
 by_cases h : l.length ≤ 12
 ·exact Qof lb bn l h hs
 ·exact QnT lb bn l (by omega) hl hs
end Go.Proofs
set_option linter.unusedSimpArgs false
set_option linter.unusedVariables false
namespace Go.Proofs
open Go.Am
variable (lb : Nat)
def Qmz (e : Int) : Int := bif e == 6 then 5 else bif e == 8 then 7 else 0
def QaO (s e : Int) : Int :=
 bif s == 0 then (bif e == 1 then 1 else bif e == 2 then 2 else 0) else
 bif s == 3 then (bif e == 7 then 1 else bif e == 5 then 4 else Qmz e) else
 bif s == 4 then (bif e == 7 then 1 else bif e == 5 then 4 else Qmz e) else
 bif s == 1 then (bif e == 5 then 4 else Qmz e) else
 bif s == 2 then (bif e == 3 then 3 else bif e == 4 then 6 else Qmz e) else
 bif s == 5 then (bif e == 1 then 1 else bif e == 8 then 7 else 0) else
 bif s == 6 then (bif e == 8 then 7 else 0) else 0
def Qjw (s e : Int) : CV := bif QaO s e == 0 then .tup [.int .i64 0, .int .i64 10] else .tup [.int .i64 (QaO s e), .int .i64 0]
theorem Qtc (e : Int) : Ret lb QcE [.int .i64 e] (.int .i64 (Qmz e)) :=
 .top rfl (.all fun n => by
  rw [Qm8]; unfold Qmz
  cases e == 6 with
  | true => rfl
  | false => cases e == 8 <;> rfl)
theorem QuS (s e : Int) : Ret lb QgV [.int .i64 s, .int .i64 e] (.int .i64 (QaO s e)) :=
 .top rfl ((Qtc lb e).mono fun n h => by
  rw [Qov, h]; unfold QaO
  cases s == 0 with
  | true => cases e == 1 with
   | true => rfl
   | false => cases e == 2 <;> rfl
  | false => cases s == 3 with
   | true => cases e == 7 with
    | true => rfl
    | false => cases e == 5 <;> rfl
   | false => cases s == 4 with
    | true => cases e == 7 with
     | true => rfl
     | false => cases e == 5 <;> rfl
    | false => cases s == 1 with
     | true => cases e == 5 <;> rfl
     | false => cases s == 2 with
      | true => cases e == 3 with
       | true => rfl
       | false => cases e == 4 <;> rfl
      | false => cases s == 5 with
       | true => cases e == 1 with
        | true => rfl
        | false => cases e == 8 <;> rfl
       | false => cases s == 6 with
        | true => cases e == 8 <;> rfl
        | false => rfl)
theorem QiF (s e : Int) : Ret lb Qdz [.int .i64 s, .int .i64 e] (Qjw s e) :=
 .top rfl ((QuS lb s e).mono fun n h => by
  rw [Qpz]
  refine stO _ h (stO _ (QaK ..) ?_)
  unfold Qjw
  cases QaO s e == 0 <;> rfl)
theorem Qoh (e : Int) : QaO 7 e = 0 := rfl
end Go.Proofs
set_option linter.unusedSimpArgs false
set_option linter.unusedVariables false
namespace Go.Proofs
open Go.Am
variable (lb : Nat)
def QdX (s : Sg) (n : Int) : Sg := { s with st := n }
def chgF (e : Int) : List Int → List Sg → Option (List Sg)
 | [], l => some l
 | i :: r, l => match l[i.toNat]? with
  | some s => bif QaO s.st e == 0 then none else chgF e r (l.set i.toNat (QdX s (QaO s.st e)))
  | none => none
def noB : CV := .agg [.str [], .list true [], .int .i64 0, .list true [], .list true [], .int .i64 0]
def chgV (loc : Bs) (pn : Bool) (ps : List (List CV)) (g : Int) (rn : Bool) (rs : List (List CV)) (lim : Int) (all : List Int) (b : Bool) : Option (List Sg) → CV
 | some l => .tup [.agg [.str loc, .list pn ps, .int .i64 g, .list false (l.map sgE), .list rn rs, .int .i64 lim], .list b (all.map icv), .int .i64 0]
 | none => .tup [noB, .list true [], .int .i64 18]
theorem QsA {α : Type} : ∀ (l : List α) (i : Nat) (x : α), setN l i x = l.set i x
 | [], _, _ => rfl
 | _ :: _, 0, _ => rfl
 | a :: l, i + 1, x => by simp only [setN, List.set_cons_succ, QsA l i x]
theorem Qss (l : List Sg) (i : Nat) (s : Sg) (n : Int) : setN (l.map sgE) (0 + i) (QbO (sgE s) 8 [.int .i64 n]) = (l.set i (QdX s n)).map sgE := by
 rw [QsA, Nat.zero_add, List.map_set]
 rfl
theorem QqC (loc : Bs) (pn : Bool) (ps : List (List CV)) (g : Int) (l : List Sg) (rn : Bool) (rs : List (List CV)) (lim jo e : Int) (jH jE yt yi yj : CV) (all : List Int) (b : Bool) (hall : all.length ≤ 1000000) : ∀ (t p : List Int) (acc : List Sg), p ++ t = all → acc.length = l.length → (∀ i ∈ t, 0 ≤ i ∧ i < (l.length : Int)) →
  Evt fun n => ∀ k, t.length < k → QdW lb n k loc pn ps g false (l.map sgE) rn rs lim jo e jH jE b (all.map icv) yt yi yj (p.length : Int) (acc.map sgE) = some (chgV loc pn ps g rn rs lim all b (chgF e t acc))
 | [], p, acc, h, hl, ht => .all fun n k hk => by
  obtain ⟨k, rfl⟩ : ∃ m, k = m + 1 := ⟨k - 1, by simp at hk; omega⟩
  have hp : p = all := by simpa using h
  rw [Qfx]
  refine stF (decF (by simp [hp])) ?_
  rw [QkI]
  refine stC (by simp [hl]) ?_
  have htk : ((acc.map sgE).drop 0).take (l.map sgE).length = acc.map sgE := by
   rw [List.drop_zero, List.take_of_length_le (by simp [hl])]
  rw [htk]
  rfl
 | i :: t, p, acc, h, hl, ht => by
  obtain ⟨i0, i1⟩ := ht i (by simp)
  have hpl : p.length + (t.length + 1) = all.length := by rw [← h]; simp
  obtain ⟨s, hs⟩ : ∃ s, acc[i.toNat]? = some s := ⟨_, List.getElem?_eq_getElem (by omega)⟩
  refine Evt.imp2 (QiF lb s.st e) (QqC loc pn ps g l rn rs lim jo e jH jE yt yi yj all b hall t (p ++ [i]) (acc.set i.toNat (QdX s (QaO s.st e))) (by rw [← h]; simp) (by simpa using hl) (fun j hj => ht j (by simp [hj]))) fun n hn hi k hk => ?_
  obtain ⟨k, rfl⟩ : ∃ m, k = m + 1 := ⟨k - 1, by simp at hk; omega⟩
  have hi := hi k (by simp at hk; omega)
  have hw : IntKind.wrap .i64 ((p.length : Int) + 1) = ((p ++ [i]).length : Int) := by rw [QaB (by omega) (by omega)]; simp
  have hat : atL (all.map icv) (p.length : Int) = some (icv i) := Qbz (by rw [List.getElem?_map, ← h]; simp)
  have hg : (acc.map sgE)[0 + i.toNat]? = some (sgE s) := by rw [Nat.zero_add, List.getElem?_map, hs]; rfl
  have hrng : (decide (0 ≤ i) && decide (i < (((l.map sgE).length : Nat) : Int))) = true := by simp; omega
  rw [Qfx]
  have hF : chgF e (i :: t) acc = (bif QaO s.st e == 0 then none else chgF e t (acc.set i.toNat (QdX s (QaO s.st e)))) := by
   show (match acc[i.toNat]? with
    | some s => bif QaO s.st e == 0 then none else chgF e t (acc.set i.toNat (QdX s (QaO s.st e)))
    | none => none) = _
   rw [hs]
  rw [hF]
  refine stT (decT (by simp; omega)) (stO _ hat (stC rfl (stO _ rfl (stO i rfl (stC hrng (stO _ hg (stO _ rfl (stO _ hn ?_))))))))
  unfold Qjw
  cases ha : QaO s.st e == 0 with
  | true => exact stO _ rfl (stO _ rfl (stO _ rfl (stO _ rfl (stO _ rfl (stT rfl rfl)))))
  | false =>
   refine stO _ rfl (stO _ rfl (stO _ rfl (stO _ rfl (stO _ rfl (stF rfl (stO i rfl (stC hrng (stC rfl (stO _ hg (stC rfl ?_))))))))))
   rw [hw, Qss]
   exact hi
theorem Qok (loc : Bs) (pn : Bool) (ps : List (List CV)) (g : Int) (l : List Sg) (rn : Bool) (rs : List (List CV)) (lim jo e : Int) (jH jE yi yj : CV) (all : List Int) (hone : all = [jo]) (hall : all.length ≤ 1000000) : ∀ (t p : List Int) (acc : List Sg), p ++ t = all → acc.length = l.length → (∀ i ∈ t, 0 ≤ i ∧ i < (l.length : Int)) →
  Evt fun n => ∀ k, t.length < k → QdE lb n k loc pn ps g false (l.map sgE) rn rs lim jo e jH jE yi yj (p.length : Int) (acc.map sgE) = some (chgV loc pn ps g rn rs lim all false (chgF e t acc))
 | [], p, acc, h, hl, ht => .all fun n k hk => by
  obtain ⟨k, rfl⟩ : ∃ m, k = m + 1 := ⟨k - 1, by simp at hk; omega⟩
  have hp : p = all := by simpa using h
  rw [Qfi]
  refine stF (decF (by rw [hp, hone]; simp)) ?_
  rw [Qkb]
  refine stC (by simp [hl]) ?_
  have htk : ((acc.map sgE).drop 0).take (l.map sgE).length = acc.map sgE := by
   rw [List.drop_zero, List.take_of_length_le (by simp [hl])]
  rw [htk]
  rw [hone]; rfl
 | i :: t, p, acc, h, hl, ht => by
  obtain ⟨i0, i1⟩ := ht i (by simp)
  have hpl : p.length + (t.length + 1) = all.length := by rw [← h]; simp
  obtain ⟨s, hs⟩ : ∃ s, acc[i.toNat]? = some s := ⟨_, List.getElem?_eq_getElem (by omega)⟩
  refine Evt.imp2 (QiF lb s.st e) (Qok loc pn ps g l rn rs lim jo e jH jE yi yj all hone hall t (p ++ [i]) (acc.set i.toNat (QdX s (QaO s.st e))) (by rw [← h]; simp) (by simpa using hl) (fun j hj => ht j (by simp [hj]))) fun n hn hi k hk => ?_
  obtain ⟨k, rfl⟩ : ∃ m, k = m + 1 := ⟨k - 1, by simp at hk; omega⟩
  have hi := hi k (by simp at hk; omega)
  have hw : IntKind.wrap .i64 ((p.length : Int) + 1) = ((p ++ [i]).length : Int) := by rw [QaB (by omega) (by omega)]; simp
  have hat : atL (all.map icv) (p.length : Int) = some (icv i) := Qbz (by rw [List.getElem?_map, ← h]; simp)
  have hg : (acc.map sgE)[0 + i.toNat]? = some (sgE s) := by rw [Nat.zero_add, List.getElem?_map, hs]; rfl
  have hrng : (decide (0 ≤ i) && decide (i < (((l.map sgE).length : Nat) : Int))) = true := by simp; omega
  rw [Qfi]
  have hF : chgF e (i :: t) acc = (bif QaO s.st e == 0 then none else chgF e t (acc.set i.toNat (QdX s (QaO s.st e)))) := by
   show (match acc[i.toNat]? with
    | some s => bif QaO s.st e == 0 then none else chgF e t (acc.set i.toNat (QdX s (QaO s.st e)))
    | none => none) = _
   rw [hs]
  rw [hF]
  refine stT (decT (by rw [hone] at hpl; simp at hpl; omega)) (stO _ (by rw [hone] at hat; exact hat) (stC rfl (stO _ rfl (stO i rfl (stC hrng (stO _ hg (stO _ rfl (stO _ hn ?_))))))))
  unfold Qjw
  cases ha : QaO s.st e == 0 with
  | true => exact stO _ rfl (stO _ rfl (stO _ rfl (stO _ rfl (stO _ rfl (stT rfl rfl)))))
  | false =>
   refine stO _ rfl (stO _ rfl (stO _ rfl (stO _ rfl (stO _ rfl (stF rfl (stO i rfl (stC hrng (stC rfl (stO _ hg (stC rfl ?_))))))))))
   rw [hw, Qss]
   exact hi
theorem Qo2 (loc : Bs) (pn : Bool) (ps : List (List CV)) (g : Int) (l : List Sg) (rn : Bool) (rs : List (List CV)) (lim jo e : Int) (jH jE : CV) (all : List Int) (hone : all = [jo]) (hall : all.length ≤ 1000000) : ∀ (t p : List Int) (acc : List Sg), p ++ t = all → acc.length = l.length → (∀ i ∈ t, 0 ≤ i ∧ i < (l.length : Int)) →
  Evt fun n => ∀ k, t.length < k → QdM lb n k loc pn ps g false (l.map sgE) rn rs lim jo e jH jE (p.length : Int) (acc.map sgE) = some (chgV loc pn ps g rn rs lim all false (chgF e t acc))
 | [], p, acc, h, hl, ht => .all fun n k hk => by
  obtain ⟨k, rfl⟩ : ∃ m, k = m + 1 := ⟨k - 1, by simp at hk; omega⟩
  have hp : p = all := by simpa using h
  rw [Qfk]
  refine stF (decF (by rw [hp, hone]; simp)) ?_
  rw [Qkf]
  refine stC (by simp [hl]) ?_
  have htk : ((acc.map sgE).drop 0).take (l.map sgE).length = acc.map sgE := by
   rw [List.drop_zero, List.take_of_length_le (by simp [hl])]
  rw [htk]
  rw [hone]; rfl
 | i :: t, p, acc, h, hl, ht => by
  obtain ⟨i0, i1⟩ := ht i (by simp)
  have hpl : p.length + (t.length + 1) = all.length := by rw [← h]; simp
  obtain ⟨s, hs⟩ : ∃ s, acc[i.toNat]? = some s := ⟨_, List.getElem?_eq_getElem (by omega)⟩
  refine Evt.imp2 (QiF lb s.st e) (Qo2 loc pn ps g l rn rs lim jo e jH jE all hone hall t (p ++ [i]) (acc.set i.toNat (QdX s (QaO s.st e))) (by rw [← h]; simp) (by simpa using hl) (fun j hj => ht j (by simp [hj]))) fun n hn hi k hk => ?_
  obtain ⟨k, rfl⟩ : ∃ m, k = m + 1 := ⟨k - 1, by simp at hk; omega⟩
  have hi := hi k (by simp at hk; omega)
  have hw : IntKind.wrap .i64 ((p.length : Int) + 1) = ((p ++ [i]).length : Int) := by rw [QaB (by omega) (by omega)]; simp
  have hat : atL (all.map icv) (p.length : Int) = some (icv i) := Qbz (by rw [List.getElem?_map, ← h]; simp)
  have hg : (acc.map sgE)[0 + i.toNat]? = some (sgE s) := by rw [Nat.zero_add, List.getElem?_map, hs]; rfl
  have hrng : (decide (0 ≤ i) && decide (i < (((l.map sgE).length : Nat) : Int))) = true := by simp; omega
  rw [Qfk]
  have hF : chgF e (i :: t) acc = (bif QaO s.st e == 0 then none else chgF e t (acc.set i.toNat (QdX s (QaO s.st e)))) := by
   show (match acc[i.toNat]? with
    | some s => bif QaO s.st e == 0 then none else chgF e t (acc.set i.toNat (QdX s (QaO s.st e)))
    | none => none) = _
   rw [hs]
  rw [hF]
  refine stT (decT (by rw [hone] at hpl; simp at hpl; omega)) (stO _ (by rw [hone] at hat; exact hat) (stC rfl (stO _ rfl (stO i rfl (stC hrng (stO _ hg (stO _ rfl (stO _ hn ?_))))))))
  unfold Qjw
  cases ha : QaO s.st e == 0 with
  | true => exact stO _ rfl (stO _ rfl (stO _ rfl (stO _ rfl (stO _ rfl (stT rfl rfl)))))
  | false =>
   refine stO _ rfl (stO _ rfl (stO _ rfl (stO _ rfl (stO _ rfl (stF rfl (stO i rfl (stC hrng (stC rfl (stO _ hg (stC rfl ?_))))))))))
   rw [hw, Qss]
   exact hi
end Go.Proofs
set_option linter.unusedSimpArgs false
set_option linter.unusedVariables false
namespace Go.Proofs
open Go.Am
variable (lb : Nat)
theorem QvK {g : List Int} {k : Int} (h : Asc g) (hk : ∀ x ∈ g, x ≤ k) : Asc (g ++ [k]) := fun i a b ha hb => by
 by_cases h1 : i + 1 < g.length
 ·rw [List.getElem?_append_left (by omega)] at ha
  rw [List.getElem?_append_left h1] at hb
  exact h i a b ha hb
 ·have hi : i + 1 < (g ++ [k]).length := (List.getElem?_eq_some_iff.1 hb).1
  simp at hi
  have e : i + 1 = g.length := by omega
  rw [List.getElem?_append_left (by omega)] at ha
  rw [List.getElem?_append_right (by omega), e] at hb
  simp at hb
  subst hb
  exact hk a (List.mem_of_getElem? ha)
theorem QtA (k : Int) : Asc [k] := fun i a b ha hb => by simp at hb
theorem Qon (l : List Int) : ∀ k, k ≤ l.length → ∀ g ∈ (QaZ (l.take k)).2.2, Asc g
 | 0, _, g, hg => by simp [QaZ] at hg
 | k + 1, h, g, hg => by
  obtain ⟨x, hx⟩ : ∃ x, l[k]? = some x := ⟨_, List.getElem?_eq_getElem (by omega)⟩
  have ih := Qon l k (by omega)
  have im := Qc9 l k (by omega)
  rw [Qcq hx] at hg
  simp only [stepG] at hg
  rw [QdJ l k (by omega)] at hg
  split at hg
  ·unfold Qkh at hg
   rcases List.mem_append.1 hg with hg | hg
   ·exact ih g (List.dropLast_subset _ hg)
   ·simp only [List.mem_singleton] at hg
    subst hg
    cases hq : (QaZ (l.take k)).2.2.getLast? with
    | none => exact QtA _
    | some g0 =>
     exact QvK (ih g0 (List.mem_of_getLast? hq)) fun y hy => by have := im g0 (List.mem_of_getLast? hq) y hy; omega
  ·rcases List.mem_append.1 hg with hg | hg
   ·exact ih g hg
   ·simp only [List.mem_singleton] at hg; subst hg; exact QtA _
def allF (l : List Sg) (x e : Int) : List Int := bif e != 5 && (e != 6 && e != 7) then (if marE (mars l) = 0 then (match (QaL (mars l)).find? (·.contains x) with
 | some g => g
 | none => [x]) else [x]) else [x]
def QjO (loc : Bs) (pn : Bool) (ps : List (List CV)) (g : Int) (l : List Sg) (rn : Bool) (rs : List (List CV)) (lim x e : Int) : CV :=
 if x < 0 ∨ x ≥ (l.length : Int) then .tup [noB, .list true [], .int .i64 7] else
 match l[x.toNat]? with
 | some s => if QaO s.st e = 0 then .tup [noB, .list true [], .int .i64 10] else chgV loc pn ps g rn rs lim (allF l x e) false (chgF e (allF l x e) l)
 | none => noB
theorem QtP (g : List Int) (h : g.length ≤ 1000000) : QiN (.list false (g.map icv)) = true := by
 have h1 : Qc5 (g.map icv) = some g := by
  clear h
  induction g with
  | nil => rfl
  | cons x g ih => simp [icv, Qc5] at ih ⊢; exact ih
 simp [QiN, h1]; omega
theorem QtU (loc : Bs) (pn : Bool) (ps : List (List CV)) (g : Int) (bn : Bool) (l : List Sg) (rn : Bool) (rs : List (List CV)) (lim x e : Int) (hbn : bn = true → l = []) (hl : l.length ≤ 49) :
  Ret lb Qab [.agg [.str loc, .list pn ps, .int .i64 g, .list bn (l.map sgE), .list rn rs, .int .i64 lim], .int .i64 x, .int .i64 e] (QjO loc pn ps g l rn rs lim x e) := by
 have hlm : (((l.map sgE).length : Nat) : Int) = (l.length : Int) := by simp
 unfold QjO
 by_cases h0 : x < 0
 ·rw [if_pos (.inl h0)]
  exact .top rfl (.all fun n => by rw [Qbp]; exact stT (decT h0) rfl)
 by_cases h1 : x ≥ (l.length : Int)
 ·rw [if_pos (.inr h1)]
  exact .top rfl (.all fun n => by rw [Qbp]; exact stF (decF h0) (stT (decT (by rw [hlm]; exact h1)) rfl))
 rw [if_neg (by omega)]
 obtain ⟨s, hs⟩ : ∃ s, l[x.toNat]? = some s := ⟨_, List.getElem?_eq_getElem (by omega)⟩
 rw [hs]
 have hbf : bn = false := by
  cases bn with
  | false => rfl
  | true => have := hbn rfl; subst this; simp at h1; omega
 subst hbf
 have hat : atL (l.map sgE) x = some (sgE s) := by
  obtain ⟨k, rfl⟩ : ∃ k : Nat, x = k := ⟨x.toNat, by omega⟩
  exact Qbz (by rw [List.getElem?_map]; simp at hs; rw [hs]; rfl)
 have hall10 : (l.map sgE).all (·.length == 10) = true := by simp [sgE]
 have hroom : room (l.map sgE).length 112 = true := Qer (by simp; omega)
 have hemp : (l.map sgE).isEmpty = false := by
  cases l with
  | nil => simp at hs
  | cons a t => rfl
 simp only
 by_cases ha : QaO s.st e = 0
 ·rw [if_pos ha]
  exact .top rfl ((QiF lb s.st e).mono fun n h => by
   rw [Qbp]
   refine stF (decF h0) (stF (decF (by rw [hlm]; exact h1)) (stO _ hat (stC rfl (stO _ rfl (stO _ h ?_)))))
   unfold Qjw
   rw [ha]
   exact stO _ rfl (stO _ rfl (stO _ rfl (stO _ rfl (stO _ rfl (stT rfl rfl))))))
 ·rw [if_neg ha]
  have hnv : Qjw s.st e = .tup [.int .i64 (QaO s.st e), .int .i64 0] := by unfold Qjw; rw [beqF ha]; rfl
  have hN := QiF lb s.st e
  rw [hnv] at hN
  have hx : ∀ i ∈ [x], 0 ≤ i ∧ i < (l.length : Int) := fun i hi => by simp at hi; omega
  have L11 : ∀ wu wP, Evt fun n => Qfl lb n loc pn ps g false (l.map sgE) rn rs lim x e (.int .i64 (QaO s.st e)) (.int .i64 0) wu wP = some (chgV loc pn ps g rn rs lim [x] false (chgF e [x] l)) := fun wu wP =>
   (Evt.diag (Qok lb loc pn ps g l rn rs lim x e _ _ wu wP [x] rfl (by simp) [x] [] l rfl rfl hx)).mono fun n h => by
    rw [Qky]
    exact stF rfl (stC hall10 (stC hroom (stF hemp h)))
  have L16 : Evt fun n => QcT lb n loc pn ps g false (l.map sgE) rn rs lim x e (.int .i64 (QaO s.st e)) (.int .i64 0) = some (chgV loc pn ps g rn rs lim [x] false (chgF e [x] l)) :=
   (Evt.diag (Qo2 lb loc pn ps g l rn rs lim x e _ _ [x] rfl (by simp) [x] [] l rfl rfl hx)).mono fun n h => by
    rw [QjP]
    exact stF rfl (stC hall10 (stC hroom (stF hemp h)))
  have hml : (mars l).length ≤ 49 := by simp [mars]; exact hl
  cases h5 : e != 5 with
  | false =>
   have hA : allF l x e = [x] := by unfold allF; rw [h5]; rfl
   rw [hA]
   exact .top rfl (Evt.imp2 hN L16 fun n h hJ => by
    rw [Qbp]
    exact stF (decF h0) (stF (decF (by rw [hlm]; exact h1)) (stO _ hat (stC rfl (stO _ rfl (stO _ h (stO _ rfl (stO _ rfl (stO _ rfl (stO _ rfl (stO _ rfl (stF rfl (stF h5 hJ)))))))))))))
  | true =>
  cases h6 : e != 6 with
  | false =>
   have hA : allF l x e = [x] := by unfold allF; rw [h5, h6]; rfl
   rw [hA]
   exact .top rfl (Evt.imp2 hN L16 fun n h hJ => by
    rw [Qbp]
    exact stF (decF h0) (stF (decF (by rw [hlm]; exact h1)) (stO _ hat (stC rfl (stO _ rfl (stO _ h (stO _ rfl (stO _ rfl (stO _ rfl (stO _ rfl (stO _ rfl (stF rfl (stT h5 (stF h6 hJ))))))))))))))
  | true =>
  cases h7 : e != 7 with
  | false =>
   have hA : allF l x e = [x] := by unfold allF; rw [h5, h6, h7]; rfl
   rw [hA]
   exact .top rfl (Evt.imp2 hN L16 fun n h hJ => by
    rw [Qbp]
    exact stF (decF h0) (stF (decF (by rw [hlm]; exact h1)) (stO _ hat (stC rfl (stO _ rfl (stO _ h (stO _ rfl (stO _ rfl (stO _ rfl (stO _ rfl (stO _ rfl (stF rfl (stT h5 (stT h6 (stF h7 hJ)))))))))))))))
  | true =>
  have hM := Qlp lb false l (by omega)
  have hW := Qqa lb false (mars l) x (by omega)
  have hMW := Evt.imp2 hM hW fun n a b => (⟨a, b⟩ : _ ∧ _)
  have hNM := Evt.imp2 hN hMW fun n a b => (⟨a, b⟩ : _ ∧ _)
  by_cases hm : marE (mars l) = 0
  ·cases hf : (QaL (mars l)).find? (·.contains x) with
   | some gq =>
    have hA : allF l x e = gq := by unfold allF; rw [h5, h6, h7]; simp only [Bool.and_self, cond_true]; rw [if_pos hm, hf]
    rw [hA]
    have hV : Qgl (mars l) x = .tup [.list false (gq.map icv), .int .i64 0] := by unfold Qgl; rw [if_pos hm, hf]
    rw [hV] at hNM
    have hmem := List.mem_of_find?_eq_some hf
    have ok := QcM (mars l) (mars l).length (Nat.le_refl _)
    have mem := Qc9 (mars l) (mars l).length (Nat.le_refl _)
    have asc := Qon (mars l) (mars l).length (Nat.le_refl _)
    rw [List.take_length] at ok mem asc
    have hgl : gq.length ≤ 49 := by have := ok.lens gq hmem; omega
    have hmm : (mars l).length = l.length := by simp [mars]
    have hS := QoK lb false gq hgl (asc gq hmem)
    have hge : (gq.map icv).isEmpty = false := by
     obtain ⟨a, t, rfl, _⟩ := ok.heads gq hmem
     rfl
    have hnk : bytesOf (bif QiN (.list false (gq.map icv)) then [] else [[]]) = some [] := by rw [QtP gq (by omega)]; rfl
    have L6 : Evt fun n => booking_Change_J1 lb n loc pn ps g false (l.map sgE) rn rs lim x e (.int .i64 (QaO s.st e)) (.int .i64 0) false (gq.map icv) (.list false (gq.map icv)) (.int .i64 0) (.list false (gq.map icv)) = some (chgV loc pn ps g rn rs lim gq false (chgF e gq l)) :=
     (Evt.diag (QqC lb loc pn ps g l rn rs lim x e _ _ _ _ _ gq false (by omega) gq [] l rfl rfl (fun i hi => by have := mem gq hmem i hi; omega))).mono fun n h => by
      rw [QkH]
      exact stF rfl (stC hall10 (stC hroom (stF hemp h)))
    exact .top rfl (Evt.imp2 hNM (Evt.imp2 hS L6 fun n a b => (⟨a, b⟩ : _ ∧ _)) fun n ⟨h, h2, h3⟩ ⟨h4, h5'⟩ => by
     rw [Qbp]
     refine stF (decF h0) (stF (decF (by rw [hlm]; exact h1)) (stO _ hat (stC rfl (stO _ rfl (stO _ h (stO _ rfl (stO _ rfl (stO _ rfl (stO _ rfl (stO _ rfl (stF rfl (stT h5 (stT h6 (stT h7 (stO _ h2 (stO _ h3 (stO _ rfl (stO _ rfl (stO _ rfl (stO _ rfl (stO _ rfl (stT rfl (stC rfl (stO _ hnk ?_))))))))))))))))))))))))
     show optO (C lb n Qcu [.list (gq.map icv).isEmpty (gq.map icv)]) (fun s4 => booking_Change_J1 lb n loc pn ps g false (l.map sgE) rn rs lim x e (.int .i64 (QaO s.st e)) (.int .i64 0) (gq.map icv).isEmpty (gq.map icv) (.list false (gq.map icv)) (.int .i64 0) (.list false (gq.map icv))) = _
     rw [hge]
     exact stO _ h4 h5')
   | none =>
    have hA : allF l x e = [x] := by unfold allF; rw [h5, h6, h7]; simp only [Bool.and_self, cond_true]; rw [if_pos hm, hf]
    rw [hA]
    have hV : Qgl (mars l) x = .tup [.list true [], .int .i64 2] := by unfold Qgl; rw [if_pos hm, hf]
    rw [hV] at hNM
    exact .top rfl (Evt.imp2 hNM (L11 _ _) fun n ⟨h, h2, h3⟩ hJ => by
     rw [Qbp]
     exact stF (decF h0) (stF (decF (by rw [hlm]; exact h1)) (stO _ hat (stC rfl (stO _ rfl (stO _ h (stO _ rfl (stO _ rfl (stO _ rfl (stO _ rfl (stO _ rfl (stF rfl (stT h5 (stT h6 (stT h7 (stO _ h2 (stO _ h3 (stO _ rfl (stO _ rfl (stO _ rfl (stO _ rfl (stO _ rfl (stF rfl hJ)))))))))))))))))))))))
  ·have hA : allF l x e = [x] := by unfold allF; rw [h5, h6, h7]; simp only [Bool.and_self, cond_true]; rw [if_neg hm]
   rw [hA]
   have hV : Qgl (mars l) x = .tup [.list true [], .int .i64 (marE (mars l))] := by unfold Qgl; rw [if_neg hm]
   rw [hV] at hNM
   exact .top rfl (Evt.imp2 hNM (L11 _ _) fun n ⟨h, h2, h3⟩ hJ => by
    rw [Qbp]
    exact stF (decF h0) (stF (decF (by rw [hlm]; exact h1)) (stO _ hat (stC rfl (stO _ rfl (stO _ h (stO _ rfl (stO _ rfl (stO _ rfl (stO _ rfl (stO _ rfl (stF rfl (stT h5 (stT h6 (stT h7 (stO _ h2 (stO _ h3 (stO _ rfl (stO _ rfl (stO _ rfl (stO _ rfl (stO _ (QaK ..) (stF (beqF hm) hJ)))))))))))))))))))))))
end Go.Proofs
set_option linter.unusedSimpArgs false
set_option linter.unusedVariables false
namespace Go.Proofs
open Go.Am
theorem Qtp (e : Int) : ∀ (all : List Int) (l l' : List Sg), all.Pairwise (· < ·) → (∀ i ∈ all, 0 ≤ i) → chgF e all l = some l' → l'.length = l.length ∧
  (∀ k : Nat, (k : Int) ∉ all → l'[k]? = l[k]?) ∧ (∀ k : Nat, (k : Int) ∈ all → ∃ s, l[k]? = some s ∧ QaO s.st e ≠ 0 ∧ l'[k]? = some (QdX s (QaO s.st e)))
 | [], l, l', _, _, h => by
  simp only [chgF, Option.some.injEq] at h
  subst h
  exact ⟨rfl, fun _ _ => rfl, fun _ hk => by simp at hk⟩
 | i :: r, l, l', hp, h0, h => by
  obtain ⟨hp1, hp2⟩ := List.pairwise_cons.1 hp
  have hi := h0 i (by simp)
  rw [show chgF e (i :: r) l = (match l[i.toNat]? with
   | some s => bif QaO s.st e == 0 then none else chgF e r (l.set i.toNat (QdX s (QaO s.st e)))
   | none => none) from rfl] at h
  cases hs : l[i.toNat]? with
  | none => rw [hs] at h; simp at h
  | some s =>
   rw [hs] at h
   simp only at h
   cases ha : QaO s.st e == 0 with
   | true => rw [ha] at h; simp at h
   | false =>
    rw [ha] at h
    obtain ⟨q1, q2, q3⟩ := Qtp e r _ l' hp2 (fun j hj => h0 j (by simp [hj])) h
    have hlt : i.toNat < l.length := (List.getElem?_eq_some_iff.1 hs).1
    refine ⟨by simpa using q1, fun k hk => ?_, fun k hk => ?_⟩
    ·simp only [List.mem_cons, not_or] at hk
     rw [q2 k hk.2, List.getElem?_set]
     have : i.toNat ≠ k := by omega
     simp [this]
    ·rcases List.mem_cons.1 hk with hk | hk
     ·subst hk
      have hn : ((k : Nat) : Int) ∉ r := fun hr => by have := hp1 _ hr; omega
      rw [Int.toNat_natCast] at hs hlt
      refine ⟨s, hs, by simpa using ha, ?_⟩
      rw [q2 k hn, Int.toNat_natCast, List.getElem?_set]
      simp [hlt]
     ·obtain ⟨t, ht, h1, h2⟩ := q3 k hk
      have := hp1 _ hk
      have hne : i.toNat ≠ k := by omega
      rw [List.getElem?_set] at ht
      simp [hne] at ht
      exact ⟨t, ht, h1, h2⟩
structure Stay (l l' : List Sg) : Prop where
 len : l'.length = l.length
 seg : ∀ (k : Nat) s s', l[k]? = some s → l'[k]? = some s' → s' = QdX s s'.st ∧ (s.st = 7 → s'.st = 7)
 pair : ∀ (k m : Nat) s t s' t', l[k]? = some s → l[m]? = some t → l'[k]? = some s' → l'[m]? = some t' → s.mar > 0 → s.mar = t.mar → s.st = t.st → s'.st = t'.st
theorem QeQ {l : List Sg} {k : Nat} {s : Sg} (h : l[k]? = some s) : nthI (mars l) (k : Int) = s.mar := by
 unfold nthI mars
 rw [Int.toNat_natCast, List.getElem?_map, h]
 rfl
theorem QoP {l : List Sg} {x e : Int} (hm : marE (mars l) = 0) (h0 : 0 ≤ x) (h1 : x < (l.length : Int)) (h5 : e ≠ 5) (h6 : e ≠ 6) (h7 : e ≠ 7) : ∃ g ∈ QaL (mars l), x ∈ g ∧ allF l x e = g := by
 obtain ⟨g, hg⟩ := QoL (l := mars l) h0 (by simpa [mars] using h1)
 refine ⟨g, List.mem_of_find?_eq_some hg, by simpa using List.find?_some hg, ?_⟩
 unfold allF
 rw [show (e != 5 && (e != 6 && e != 7)) = true by simp [h5, h6, h7], if_pos hm, hg]
 rfl
theorem QsX {l l' : List Sg} {x e : Int} (hm : marE (mars l) = 0) (h0 : 0 ≤ x) (h1 : x < (l.length : Int)) (h5 : e ≠ 5) (h6 : e ≠ 6) (h7 : e ≠ 7) (h : chgF e (allF l x e) l = some l') : Stay l l' ∧ allF l x e ≠ [] := by
 obtain ⟨g, hg, hx, ha⟩ := QoP hm h0 h1 h5 h6 h7
 rw [ha] at h ⊢
 have mem := Qc9 (mars l) (mars l).length (Nat.le_refl _)
 rw [List.take_length] at mem
 obtain ⟨q1, q2, q3⟩ := Qtp e g l l' (Qht hg) (fun i hi => (mem g hg i hi).1) h
 have hml : (mars l).length = l.length := by simp [mars]
 refine ⟨⟨q1, fun k s s' hk hk' => ?_, fun k m s t s' t' hk hm2 hk' hm' hp he hst => ?_⟩, List.ne_nil_of_mem hx⟩
 ·by_cases hin : (k : Int) ∈ g
  ·obtain ⟨u, hu, a1, a2⟩ := q3 k hin
   rw [hk] at hu
   rw [hk'] at a2
   simp only [Option.some.injEq] at hu a2
   subst hu; subst a2
   refine ⟨rfl, fun h7' => ?_⟩
   rw [h7'] at a1
   exact absurd (Qoh e) a1
  ·have := q2 k hin
   rw [hk, hk'] at this
   simp only [Option.some.injEq] at this
   subst this
   exact ⟨rfl, id⟩
 ·have hklt : k < l.length := (List.getElem?_eq_some_iff.1 hk).1
  have hmlt : m < l.length := (List.getElem?_eq_some_iff.1 hm2).1
  have both : (k : Int) ∈ g ↔ (m : Int) ∈ g := ⟨fun hi => Qma hm hg hi (by omega) (by omega) (by rw [QeQ hk]; exact hp) (by rw [QeQ hk, QeQ hm2, he]),
   fun hi => Qma hm hg hi (by omega) (by omega) (by rw [QeQ hm2, ← he]; exact hp) (by rw [QeQ hk, QeQ hm2, he])⟩
  by_cases hin : (k : Int) ∈ g
  ·obtain ⟨u, hu, a1, a2⟩ := q3 k hin
   obtain ⟨v, hv, b1, b2⟩ := q3 m (both.1 hin)
   rw [hk] at hu
   rw [hk'] at a2
   rw [hm2] at hv
   rw [hm'] at b2
   simp only [Option.some.injEq] at hu a2 hv b2
   subst hu; subst a2; subst hv; subst b2
   show QaO s.st e = QaO t.st e
   rw [hst]
  ·have a := q2 k hin
   have b := q2 m (fun hi => hin (both.2 hi))
   rw [hk, hk'] at a
   rw [hm2, hm'] at b
   simp only [Option.some.injEq] at a b
   subst a; subst b
   exact hst
theorem Qu0 {l l' : List Sg} (h : Stay l l') : mars l' = mars l := by
 refine List.ext_getElem? fun k => ?_
 unfold mars
 rw [List.getElem?_map, List.getElem?_map]
 cases hk : l[k]? with
 | none =>
  have : l'[k]? = none := by rw [List.getElem?_eq_none_iff] at hk ⊢; rw [h.len]; exact hk
  rw [this]
 | some s =>
  have hlt : k < l'.length := by rw [h.len]; exact (List.getElem?_eq_some_iff.1 hk).1
  have hk' : l'[k]? = some l'[k] := List.getElem?_eq_getElem hlt
  rw [hk']
  have := (h.seg k s _ hk hk').1
  rw [this]; rfl
end Go.Proofs
