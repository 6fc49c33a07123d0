/- Chapter 10 on plain data: a change is written, by the program and by its reference. Conditions: as each says. -/
import Derived.Test.YtdcpdknginpohaaGreatDoorPA
import Derived.Test.YtdcpdknginpohaaGreatDoorNB
import Derived.Test.YtdcpdknginpohaaGreatDoorVt
import Derived.Test.YtdcpdknginpohaaGreatDoorPB
import Derived.Test.YtdcpdknginpohaaGreatDoorKC
import Derived.Test.YtdcpdknginpohaaGreatDoorW10
set_option linter.unusedSimpArgs false
set_option linter.unusedVariables false
namespace Go.Proofs
open Go.Am
variable (lb : Nat)
def Qak (k : Int) : Bs := if k = 1 then [110, 101, 119] else if k = 2 then [99, 97, 110, 99, 101, 108] else if k = 3 then [116, 105, 109, 101] else if k = 4 then [101, 113, 117, 105, 112] else if k = 5 then [114, 101, 112, 108, 97, 99, 101] else []
def Qbu (k : Int) : Bool := (k == 1) || (k == 5)
def QaW (r : Rv) : Bool := ((r.kind != 3) && (r.min != 0)) || (((r.kind != 4) && !(r.eq == [])) || (!Qbu r.kind && decide (((r.legs.map lgcv).length : Int) > 0)))
def QcS (r : Rv) : List Bs := if Qbu r.kind then r.legs.flatMap legWords else if r.kind = 3 then [Lib.itoa r.min] else if r.kind = 4 then [r.eq] else []
def rwl (r : Rv) : List Bs := Qak r.kind :: r.car :: Lib.itoa r.num :: perS r.fr r.to r.days :: QcS r
def rpE (r : Rv) : Int := if r.kind < 1 ∨ r.kind > 5 then 8 else if !Qa1 r.car then 5 else if r.num < 1 ∨ r.num > 9999 then 2 else if perE r.fr r.to r.days ≠ 0 then perE r.fr r.to r.days else
 if Qbu r.kind ∧ wrE (QcP r) ≠ 0 then wrE (QcP r) else if r.kind = 4 ∧ Qbs r.eq 3 3 = false then 5 else if QaW r then 2 else 0
def QdE (r : Rv) : CV := if rpE r ≠ 0 then .tup [.str [], .int .i64 (rpE r)] else .tup [.str (Qar (rwl r)), .int .i64 0]
structure POk (r : Rv) : Prop where
 short : Qnl (QcP r)
 eq : r.eq.length ≤ 281474976710656
 min : -9223372036854775808 ≤ r.min ∧ r.min ≤ 9223372036854775807
theorem QyU (k : Int) (n : Nat) : top lb n QaO [.int .i64 k] = some (.bool (Qbu k)) := by
 rw [Qot]
 unfold Qbu
 cases k == 1 <;> rfl
theorem Qfw (k : Int) : Ret lb QaO [.int .i64 k] (.bool (Qbu k)) := .top rfl (.all fun n => QyU lb k n)
theorem Qm3 (k : Int) : Ret lb QaG [.int .i64 k] (.bool (Qbu k)) := .top rfl (.all fun n => by
 rw [QtN]
 unfold Qbu
 cases k == 1 <;> rfl)
theorem Qij (k : Int) : Ret lb QaM [.int .i64 k] (.str (Qak k)) := .top rfl (.all fun n => by
 rw [QoK]
 unfold Qak
 by_cases h1 : k = 1
 ·rw [if_pos h1]; exact stT (beqT h1) rfl
 rw [if_neg h1]
 refine stF (beqF h1) ?_
 by_cases h2 : k = 2
 ·rw [if_pos h2]; exact stT (beqT h2) rfl
 rw [if_neg h2]
 refine stF (beqF h2) ?_
 by_cases h3 : k = 3
 ·rw [if_pos h3]; exact stT (beqT h3) rfl
 rw [if_neg h3]
 refine stF (beqF h3) ?_
 by_cases h4 : k = 4
 ·rw [if_pos h4]; exact stT (beqT h4) rfl
 rw [if_neg h4]
 refine stF (beqF h4) ?_
 by_cases h5 : k = 5
 ·rw [if_pos h5]; exact stT (beqT h5) rfl
 ·rw [if_neg h5]; exact stF (beqF h5) rfl)
theorem kinds {k : Int} (h : ¬ (k < 1 ∨ k > 5)) : k = 1 ∨ k = 2 ∨ k = 3 ∨ k = 4 ∨ k = 5 := by omega
theorem Qmp (k : Int) (h : 1 ≤ k ∧ k ≤ 5) : Ret lb Qdg [.int .i64 k] (.str (Qak k)) := .top rfl (.all fun n => by
 rw [QtM]
 rcases kinds (k := k) (by omega) with rfl | rfl | rfl | rfl | rfl <;> rfl)
theorem Qgo (r : Rv) : Ret lb QbF [rvcv r] (.bool (QaW r)) := by
 refine .top rfl ((Qfw lb r.kind).mono fun n hL => ?_)
 have Lg : ∀ d : Bool, (optO (C lb n QaO [.int .i64 r.kind]) fun jC => optO (CV.asB jC) fun j9 => bif (!j9) then (some (.bool d)) else (some (.bool false))) = some (CV.bool (!Qbu r.kind && d)) := fun d => by
  refine stO _ hL (stO _ rfl ?_)
  cases Qbu r.kind <;> rfl
 rw [Ql3]
 unfold QaW
 have L := Lg (decide (((r.legs.map lgcv).length : Int) > 0))
 generalize decide (((r.legs.map lgcv).length : Int) > 0) = d at L ⊢
 rw [L]
 generalize (r.kind != 3) = b1
 generalize (r.min != 0) = b2
 generalize (r.kind != 4) = b3
 generalize (!(r.eq == [])) = b4
 cases b1 <;> cases b2 <;> cases b3 <;> cases b4 <;> rfl
theorem QoJ (k : Int) : (Qak k).length ≤ 7 := by unfold Qak; (repeat' split) <;> decide
theorem Qvj {k : Int} (h : 1 ≤ k ∧ k ≤ 5) {l : List Bs} (hl : l ≠ []) : Qar (Qak k :: l) = (Qak k ++ [32]) ++ Qar l := by
 rw [QcG _ hl]
 have : QaJ (Qak k) = Qak k := by
  rcases kinds (k := k) (by omega) with rfl | rfl | rfl | rfl | rfl <;> decide +kernel
 rw [this]; simp
theorem Qjb {r : Rv} (h : Qbu r.kind = true) : rwl r = Qak r.kind :: wl (QcP r) := by
 unfold rwl QcS
 rw [h]; rfl
theorem QyP {s : Bs} (h : Qbs s 3 3 = true) : s.length = 3 := by have := Qls h; omega
theorem QtR {s : Bs} (h : Qa1 s = true) : s.length ≤ 10 := by
 have := Qls (Bool.and_eq_true_iff.1 h).1
 omega
theorem Qka {r : Rv} (h : QaW r = false) : (r.kind ≠ 3 → r.min = 0) ∧ (r.kind ≠ 4 → r.eq = []) ∧ (Qbu r.kind = false → r.legs = []) := by
 unfold QaW at h
 simp only [Bool.or_eq_false_iff, Bool.and_eq_false_iff, Bool.not_eq_false'] at h
 obtain ⟨h1, h2, h3⟩ := h
 refine ⟨fun k => ?_, fun k => ?_, fun k => ?_⟩
 ·rcases h1 with h1 | h1
  ·exact absurd (by simpa using h1) k
  ·simpa using h1
 ·rcases h2 with h2 | h2
  ·exact absurd (by simpa using h2) k
  ·simpa using h2
 ·rcases h3 with h3 | h3
  ·rw [k] at h3; cases h3
  ·have := of_decide_eq_false h3
   rw [List.length_map] at this
   exact List.length_eq_zero_iff.1 (by omega)
theorem Qix {r : Rv} (h : rpE r = 0) : (1 ≤ r.kind ∧ r.kind ≤ 5) ∧ Qa1 r.car = true ∧ (1 ≤ r.num ∧ r.num ≤ 9999) ∧ perE r.fr r.to r.days = 0 ∧ (Qbu r.kind = true → wrE (QcP r) = 0) ∧ (r.kind = 4 → Qbs r.eq 3 3 = true) ∧ QaW r = false := by
 unfold rpE at h
 split at h
 ·cases h
 rename_i h1
 split at h
 ·cases h
 rename_i h2
 split at h
 ·cases h
 rename_i h3
 split at h
 ·rename_i h4; exact absurd h h4
 rename_i h4
 split at h
 ·rename_i h5; exact absurd h h5.2
 rename_i h5
 split at h
 ·cases h
 rename_i h6
 split at h
 ·cases h
 rename_i h7
 refine ⟨by omega, by simpa using h2, by omega, Decidable.not_not.1 h4, fun k => ?_, fun k => ?_, by simpa using h7⟩
 ·exact Decidable.not_not.1 fun e => h5 ⟨k, e⟩
 ·cases hc : Qbs r.eq 3 3 with
  | true => rfl
  | false => exact absurd ⟨k, hc⟩ h6
theorem Qpg {r : Rv} (hp : POk r) (h : rpE r = 0) : (rwl r).length ≤ 200 ∧ QaL (rwl r) ≤ 3000 := by
 obtain ⟨h1, h2, h3, h4, h5, h6, h7⟩ := Qix h
 have l0 := QoJ r.kind
 cases hl : Qbu r.kind with
 | true =>
  obtain ⟨w1, w2⟩ := QhJ (h5 hl)
  rw [Qjb hl, Qb5]
  simp only [List.length_cons]
  omega
 | false =>
  have l1 := QtR h2
  have l3 := QfX (z := r.num) (by omega) (by omega)
  have l4 := Qtc r.fr r.to r.days
  have lt : (QcS r).length ≤ 1 ∧ QaL (QcS r) ≤ 30 := by
   unfold QcS
   rw [hl]
   simp only [Bool.false_eq_true, if_false]
   split
   ·have := QfX (z := r.min) hp.min.1 hp.min.2
    simp [QaL]; omega
   ·split
    ·rename_i k
     have := QyP (h6 k)
     simp [QaL]; omega
    ·simp [QaL]
  unfold rwl
  simp only [Qb5, List.length_cons]
  omega
def leg2 (r : Rv) (s : Bs) : CV := if QaW r then .tup [.str [], .int .i64 2] else .tup [.str ((Qak r.kind ++ [32]) ++ s), .int .i64 0]
def non2 (r : Rv) : CV := if r.kind = 4 ∧ Qbs r.eq 3 3 = false then .tup [.str [], .int .i64 5] else if QaW r then .tup [.str [], .int .i64 2] else .tup [.str (Qar (rwl r)), .int .i64 0]
theorem Qw0 (n : Nat) (r : Rv) (wg : CV) (ya : Bs) (wN : Bool) (kR kS : CV) (s : Bs) (hs : s.length ≤ 100000) (b4 : (r.kind == 4) = false) (hl : Qbu r.kind = true)
  (hF : C lb n QbF [rvcv r] = some (.bool (QaW r))) (hL : C lb n QaO [.int .i64 r.kind] = some (.bool (Qbu r.kind))) (hW : C lb n QaM [.int .i64 r.kind] = some (.str (Qak r.kind))) :
  revision_Print_J1 lb n r.kind r.car r.num r.fr r.to r.days r.min r.eq r.ln (r.legs.map lgcv) wg ya wN (.str s) kR kS = some (leg2 r s) := by
 have l0 := QoJ r.kind
 have d1 : decide ((Qak r.kind).length + [32].length ≤ 9223372036854775807) = true := decT (by simp; omega)
 have d2 : decide ((Qak r.kind ++ [32]).length + s.length ≤ 9223372036854775807) = true := decT (by simp; omega)
 rw [hl] at hL
 rw [Qk0]
 unfold leg2
 cases f : QaW r with
 | true => rw [f] at hF; exact stF b4 (stO _ hF (stO _ rfl (stT rfl rfl)))
 | false => rw [f] at hF; exact stF b4 (stO _ hF (stO _ rfl (stF rfl (stO _ hL (stO _ rfl (stT rfl (stO _ hW (stO _ rfl (stC d1 (stO _ rfl (stC d2 rfl)))))))))))
theorem Qxo (n : Nat) (r : Rv) (wg : CV) (ya : Bs) (wN : Bool) (hk : r.kind = 2 ∨ r.kind = 3 ∨ r.kind = 4) (hl : Qbu r.kind = false)
  (hF : C lb n QbF [rvcv r] = some (.bool (QaW r))) (hL : C lb n QaO [.int .i64 r.kind] = some (.bool (Qbu r.kind))) (hW : C lb n QaM [.int .i64 r.kind] = some (.str (Qak r.kind)))
  (hC : C lb n QcT [.str r.eq, .int .i64 3, .int .i64 3] = some (.bool (Qbs r.eq 3 3))) (hN : C lb n QaP [.int .i64 r.num] = some (.str (Lib.itoa r.num))) (hM : C lb n QaP [.int .i64 r.min] = some (.str (Lib.itoa r.min)))
  (hP : C lb n QaV [.agg [.int .i64 r.fr, .int .i64 r.to, .int .i64 r.days]] = some (.str (perS r.fr r.to r.days)))
  (hJ : QaW r = false → (r.kind = 4 → Qbs r.eq 3 3 = true) → C lb n QaH [.list false (scv (rwl r))] = some (.str (Qar (rwl r)))) :
  Qft lb n r.kind r.car r.num r.fr r.to r.days r.min r.eq r.ln (r.legs.map lgcv) wg ya wN = some (non2 r) := by
 rw [hl] at hL
 rw [QkU]
 unfold non2
 rcases hk with k | k | k
 ·have b3 : (r.kind == 3) = false := beqF (by omega)
  have b4 : (r.kind == 4) = false := beqF (by omega)
  have e : rwl r = [Qak r.kind, r.car, Lib.itoa r.num, perS r.fr r.to r.days] := by unfold rwl QcS; rw [hl, k]; rfl
  rw [if_neg (by omega)]
  cases f : QaW r with
  | true => rw [f] at hF; exact stF b4 (stO _ hF (stO _ rfl (stT rfl rfl)))
  | false =>
   have hJ := hJ f (fun h => by omega)
   rw [f] at hF
   rw [show scv (rwl r) = [[.str (Qak r.kind)], [.str r.car], [.str (Lib.itoa r.num)], [.str (perS r.fr r.to r.days)]] by rw [e]; rfl] at hJ
   exact stF b4 (stO _ hF (stO _ rfl (stF rfl (stO _ hL (stO _ rfl (stF rfl (stO _ hW (stO _ hN (stO _ hP (stC rfl (stC rfl (stC rfl (stF b3 (stF b4 (stO _ hJ rfl)))))))))))))))
 ·have b3 : (r.kind == 3) = true := beqT k
  have b4 : (r.kind == 4) = false := beqF (by omega)
  have e : rwl r = [Qak r.kind, r.car, Lib.itoa r.num, perS r.fr r.to r.days, Lib.itoa r.min] := by unfold rwl QcS; rw [hl, k]; rfl
  rw [if_neg (by omega)]
  cases f : QaW r with
  | true => rw [f] at hF; exact stF b4 (stO _ hF (stO _ rfl (stT rfl rfl)))
  | false =>
   have hJ := hJ f (fun h => by omega)
   rw [f] at hF
   rw [show scv (rwl r) = [[.str (Qak r.kind)], [.str r.car], [.str (Lib.itoa r.num)], [.str (perS r.fr r.to r.days)], [.str (Lib.itoa r.min)]] by rw [e]; rfl] at hJ
   exact stF b4 (stO _ hF (stO _ rfl (stF rfl (stO _ hL (stO _ rfl (stF rfl (stO _ hW (stO _ hN (stO _ hP (stC rfl (stC rfl (stC rfl (stT b3 (stO _ hM (stC rfl (stO _ hJ rfl))))))))))))))))
 ·have b3 : (r.kind == 3) = false := beqF (by omega)
  have b4 : (r.kind == 4) = true := beqT k
  have e : rwl r = [Qak r.kind, r.car, Lib.itoa r.num, perS r.fr r.to r.days, r.eq] := by unfold rwl QcS; rw [hl, k]; rfl
  cases c : Qbs r.eq 3 3 with
  | false =>
   rw [c] at hC
   rw [if_pos ⟨k, rfl⟩]
   exact stT b4 (stO _ hC (stO _ rfl (stT rfl rfl)))
  | true =>
   rw [c] at hC
   rw [if_neg fun h => by cases h.2]
   cases f : QaW r with
   | true => rw [f] at hF; exact stT b4 (stO _ hC (stO _ rfl (stF rfl (stO _ hF (stO _ rfl (stT rfl rfl))))))
   | false =>
    have hJ := hJ f (fun h => c)
    rw [f] at hF
    rw [show scv (rwl r) = [[.str (Qak r.kind)], [.str r.car], [.str (Lib.itoa r.num)], [.str (perS r.fr r.to r.days)], [.str r.eq]] by rw [e]; rfl] at hJ
    exact stT b4 (stO _ hC (stO _ rfl (stF rfl (stO _ hF (stO _ rfl (stF rfl (stO _ hL (stO _ rfl (stF rfl (stO _ hW (stO _ hN (stO _ hP (stC rfl (stC rfl (stC rfl (stF b3 (stT b4 (stO _ hJ rfl))))))))))))))))))
theorem QxZ (n : Nat) (r : Rv) (jo jq jy : CV) (s : Bs) (wV wP : CV) (b3 : (r.kind == 3) = false) (b4 : (r.kind == 4) = false) (hl : Qbu r.kind = true)
  (hL : C lb n QaG [.int .i64 r.kind] = some (.bool (Qbu r.kind))) :
  QiJ lb n r.kind r.car r.num r.fr r.to r.days r.min r.eq r.ln (r.legs.map lgcv) jo jq jy ((Qak r.kind ++ [32]) ++ s) wV wP = some (leg2 r s) := by
 have n3 : (r.kind != 3) = true := by simpa using b3
 have n4 : (r.kind != 4) = true := by simpa using b4
 rw [hl] at hL
 rw [Qph]
 refine stF b4 ?_
 rw [QoZ]
 refine stF b3 ?_
 rw [Qpo]
 have ef : QaW r = ((r.min != 0) || !(r.eq == [])) := by unfold QaW; rw [n3, n4, hl]; simp
 unfold leg2
 rw [ef]
 cases h2 : (r.min != 0) with
 | true => exact stT n3 (stT rfl rfl)
 | false =>
  cases h4 : (!(r.eq == [])) with
  | true => exact stT n3 (stF rfl (stT n4 (stT rfl rfl)))
  | false => exact stT n3 (stF rfl (stT n4 (stF rfl (stO _ hL (stO _ rfl (stF rfl (stO _ hL (stO _ rfl (stT rfl rfl)))))))))
theorem Qyn (n : Nat) (r : Rv) (hk : r.kind = 2 ∨ r.kind = 3 ∨ r.kind = 4) (hl : Qbu r.kind = false)
  (hL : C lb n QaG [.int .i64 r.kind] = some (.bool (Qbu r.kind)))
  (hC : C lb n Qbb [.str r.eq, .int .i64 3, .int .i64 3] = some (.bool (Qbs r.eq 3 3))) (hM : C lb n QaR [.int .i64 r.min] = some (.str (Lib.itoa r.min)))
  (hJ : QaW r = false → (r.kind = 4 → Qbs r.eq 3 3 = true) → C lb n Qap [.list false (scv (rwl r))] = some (.str (Qar (rwl r)))) :
  QiI lb n r.kind r.car r.num r.fr r.to r.days r.min r.eq r.ln (r.legs.map lgcv) (.str (Qak r.kind)) (.str (Lib.itoa r.num)) (.str (perS r.fr r.to r.days)) = some (non2 r) := by
 rw [hl] at hL
 rw [Qp5]
 unfold non2
 rcases hk with k | k | k
 ·have b3 : (r.kind == 3) = false := beqF (by omega)
  have b4 : (r.kind == 4) = false := beqF (by omega)
  have n3 : (r.kind != 3) = true := by simpa using b3
  have n4 : (r.kind != 4) = true := by simpa using b4
  have e : rwl r = [Qak r.kind, r.car, Lib.itoa r.num, perS r.fr r.to r.days] := by unfold rwl QcS; rw [hl, k]; rfl
  have ef : QaW r = ((r.min != 0) || (!(r.eq == []) || decide (((r.legs.map lgcv).length : Int) > 0))) := by unfold QaW; rw [n3, n4, hl]; simp
  rw [if_neg (by omega)]
  refine stF b4 ?_
  rw [Qgz]
  refine stF b3 ?_
  rw [Qgh]
  rw [ef] at hJ ⊢
  cases h2 : (r.min != 0) with
  | true => exact stT n3 (stT rfl rfl)
  | false =>
   cases h4 : (!(r.eq == [])) with
   | true => exact stT n3 (stF rfl (stT n4 (stT rfl rfl)))
   | false =>
    cases h5 : decide (((r.legs.map lgcv).length : Int) > 0) with
    | true => exact stT n3 (stF rfl (stT n4 (stF rfl (stO _ hL (stO _ rfl (stT rfl (stT rfl rfl)))))))
    | false =>
     rw [h2, h4, h5] at hJ
     have hJ := hJ rfl (fun h => by omega)
     rw [show scv (rwl r) = [[.str (Qak r.kind)], [.str r.car], [.str (Lib.itoa r.num)], [.str (perS r.fr r.to r.days)]] by rw [e]; rfl] at hJ
     exact stT n3 (stF rfl (stT n4 (stF rfl (stO _ hL (stO _ rfl (stT rfl (stF rfl (stO _ hL (stO _ rfl (stF rfl (stO _ hJ rfl)))))))))))
 ·have b3 : (r.kind == 3) = true := beqT k
  have b4 : (r.kind == 4) = false := beqF (by omega)
  have n3 : (r.kind != 3) = false := bneF k
  have n4 : (r.kind != 4) = true := by simpa using b4
  have e : rwl r = [Qak r.kind, r.car, Lib.itoa r.num, perS r.fr r.to r.days, Lib.itoa r.min] := by unfold rwl QcS; rw [hl, k]; rfl
  have ef : QaW r = (!(r.eq == []) || decide (((r.legs.map lgcv).length : Int) > 0)) := by unfold QaW; rw [n3, n4, hl]; simp
  rw [if_neg (by omega)]
  refine stF b4 ?_
  rw [Qgz]
  refine stT b3 (stO _ hM (stC rfl (stC rfl ?_)))
  rw [Qgh]
  rw [ef] at hJ ⊢
  cases h4 : (!(r.eq == [])) with
  | true => exact stF n3 (stT n4 (stT rfl rfl))
  | false =>
   cases h5 : decide (((r.legs.map lgcv).length : Int) > 0) with
   | true => exact stF n3 (stT n4 (stF rfl (stO _ hL (stO _ rfl (stT rfl (stT rfl rfl))))))
   | false =>
    rw [h4, h5] at hJ
    have hJ := hJ rfl (fun h => by omega)
    rw [show scv (rwl r) = [[.str (Qak r.kind)], [.str r.car], [.str (Lib.itoa r.num)], [.str (perS r.fr r.to r.days)], [.str (Lib.itoa r.min)]] by rw [e]; rfl] at hJ
    exact stF n3 (stT n4 (stF rfl (stO _ hL (stO _ rfl (stT rfl (stF rfl (stO _ hL (stO _ rfl (stF rfl (stO _ hJ rfl))))))))))
 ·have b3 : (r.kind == 3) = false := beqF (by omega)
  have b4 : (r.kind == 4) = true := beqT k
  have n3 : (r.kind != 3) = true := by simpa using b3
  have n4 : (r.kind != 4) = false := bneF k
  have e : rwl r = [Qak r.kind, r.car, Lib.itoa r.num, perS r.fr r.to r.days, r.eq] := by unfold rwl QcS; rw [hl, k]; rfl
  have ef : QaW r = ((r.min != 0) || decide (((r.legs.map lgcv).length : Int) > 0)) := by unfold QaW; rw [n3, n4, hl]; simp
  cases c : Qbs r.eq 3 3 with
  | false =>
   rw [c] at hC
   rw [if_pos ⟨k, rfl⟩]
   exact stT b4 (stO _ hC (stO _ rfl (stT rfl rfl)))
  | true =>
   rw [c] at hC
   rw [if_neg fun h => by cases h.2]
   refine stT b4 (stO _ hC (stO _ rfl (stF rfl ?_)))
   rw [Qgz]
   refine stF b3 ?_
   rw [Qgh]
   rw [ef] at hJ ⊢
   cases h2 : (r.min != 0) with
   | true => exact stT n3 (stT rfl rfl)
   | false =>
    cases h5 : decide (((r.legs.map lgcv).length : Int) > 0) with
    | true => exact stT n3 (stF rfl (stF n4 (stO _ hL (stO _ rfl (stT rfl (stT rfl rfl))))))
    | false =>
     rw [h2, h5] at hJ
     have hJ := hJ rfl (fun h => c)
     rw [show scv (rwl r) = [[.str (Qak r.kind)], [.str r.car], [.str (Lib.itoa r.num)], [.str (perS r.fr r.to r.days)], [.str r.eq]] by rw [e]; rfl] at hJ
     exact stT n3 (stF rfl (stF n4 (stO _ hL (stO _ rfl (stT rfl (stF rfl (stO _ hL (stO _ rfl (stF rfl (stO _ hJ rfl))))))))))
theorem Qc1 {r : Rv} {e : Int} (h : rpE r = e) (he : e ≠ 0) : QdE r = .tup [.str [], .int .i64 e] := by
 unfold QdE
 rw [h, if_pos he]
theorem Qug {r : Rv} (h1 : ¬ (r.kind < 1 ∨ r.kind > 5)) (h2 : Qa1 r.car = true) (h3 : ¬ (r.num < 1 ∨ r.num > 9999)) (h4 : perE r.fr r.to r.days = 0) (hl : Qbu r.kind = true) (hw : wrE (QcP r) = 0) : QdE r = leg2 r (Qar (wl (QcP r))) := by
 have e : rpE r = if QaW r then 2 else 0 := by
  unfold rpE
  rw [if_neg h1, if_neg (by simp [h2]), if_neg h3, if_neg (fun h => h h4), if_neg (fun h => h.2 hw), if_neg ?_]
  intro h
  rw [h.1] at hl
  cases hl
 unfold QdE leg2
 rw [e]
 cases f : QaW r with
 | true => rfl
 | false =>
  rw [Qjb hl, Qvj (by omega) (by simp [wl])]
  rfl
theorem Que {r : Rv} (h1 : ¬ (r.kind < 1 ∨ r.kind > 5)) (h2 : Qa1 r.car = true) (h3 : ¬ (r.num < 1 ∨ r.num > 9999)) (h4 : perE r.fr r.to r.days = 0) (hl : Qbu r.kind = false) : QdE r = non2 r := by
 have e : rpE r = if r.kind = 4 ∧ Qbs r.eq 3 3 = false then 5 else if QaW r then 2 else 0 := by
  unfold rpE
  rw [if_neg h1, if_neg (by simp [h2]), if_neg h3, if_neg (fun h => h h4), if_neg (fun h => by rw [hl] at h; cases h.1)]
 unfold QdE non2
 rw [e]
 by_cases q : r.kind = 4 ∧ Qbs r.eq 3 3 = false
 ·rw [if_pos q, if_pos q]; rfl
 ·rw [if_neg q, if_neg q]
  cases QaW r <;> rfl
theorem Qyb {k : Int} (h : ¬ (k < 1 ∨ k > 5)) : (Qak k == []) = false := by
 rcases kinds h with rfl | rfl | rfl | rfl | rfl <;> rfl
theorem QwZ {k : Int} (h : k < 1 ∨ k > 5) : Qak k = [] := by
 unfold Qak
 rw [if_neg (by omega), if_neg (by omega), if_neg (by omega), if_neg (by omega), if_neg (by omega)]
theorem Qmt {k : Int} (h : ¬ (k < 1 ∨ k > 5)) : (Qbu k = true ∧ (k == 3) = false ∧ (k == 4) = false) ∨ (Qbu k = false ∧ (k = 2 ∨ k = 3 ∨ k = 4)) := by
 rcases kinds h with rfl | rfl | rfl | rfl | rfl
 ·exact .inl ⟨rfl, rfl, rfl⟩
 ·exact .inr ⟨rfl, by omega⟩
 ·exact .inr ⟨rfl, by omega⟩
 ·exact .inr ⟨rfl, by omega⟩
 ·exact .inl ⟨rfl, rfl, rfl⟩
theorem Quj {f : FuncId} (hj : ∀ l : List Bs, l.length ≤ 100000000 → QaL l ≤ 100000000 → Ret lb f [.list false (scv l)] (.str (Qar l))) {r : Rv} (hp : POk r) (h1 : ¬ (r.kind < 1 ∨ r.kind > 5)) (h2 : Qa1 r.car = true) (h3 : ¬ (r.num < 1 ∨ r.num > 9999)) (h4 : perE r.fr r.to r.days = 0) (hl : Qbu r.kind = false) :
  Evt fun n => QaW r = false → (r.kind = 4 → Qbs r.eq 3 3 = true) → C lb n f [.list false (scv (rwl r))] = some (.str (Qar (rwl r))) := by
 by_cases q : QaW r = false ∧ (r.kind = 4 → Qbs r.eq 3 3 = true)
 ·have e : rpE r = 0 := by
   unfold rpE
   rw [if_neg h1, if_neg (by simp [h2]), if_neg h3, if_neg (fun h => h h4), if_neg (fun h => by rw [hl] at h; cases h.1), if_neg ?_, if_neg ?_]
   ·rw [q.1]; simp
   ·intro h
    have := q.2 h.1
    rw [h.2] at this
    cases this
  obtain ⟨w1, w2⟩ := Qpg hp e
  exact (hj (rwl r) (by omega) (by omega)).mono fun n h _ _ => h
 ·exact .all fun n a b => absurd ⟨a, b⟩ q
theorem Qe0 (r : Rv) (hp : POk r) : Ret lb Qa7 [rvcv r] (QdE r) := by
 have hW := Qij lb r.kind
 have hC := Qje lb r.car hp.short.1
 have hQ := Qel lb r.fr r.to r.days
 have hL := Qfw lb r.kind
 by_cases h1 : r.kind < 1 ∨ r.kind > 5
 ·refine .top rfl (hW.mono fun n a => ?_)
  rw [Qcb, Qc1 (e := 8) (by unfold rpE; rw [if_pos h1]) (by decide)]
  exact stO _ a (stO _ rfl (stT (by rw [QwZ h1]; rfl) rfl))
 have wn := Qyb h1
 cases h2 : Qa1 r.car with
 | false =>
  refine .top rfl (Evt.imp2 hW hC fun n a b => ?_)
  rw [Qcb, Qc1 (e := 5) (by unfold rpE; rw [if_neg h1, if_pos (by rw [h2]; rfl)]) (by decide)]
  exact stO _ a (stO _ rfl (stF wn (stO _ b (stO _ rfl (stT (by rw [h2]; rfl) rfl)))))
 | true =>
  have e2 : ¬ (!Qa1 r.car) = true := by simp [h2]
  by_cases h3 : r.num < 1 ∨ r.num > 9999
  ·refine .top rfl (Evt.imp2 hW hC fun n a b => ?_)
   rw [Qcb, Qc1 (e := 2) (by unfold rpE; rw [if_neg h1, if_neg e2, if_pos h3]) (by decide)]
   refine stO _ a (stO _ rfl (stF wn (stO _ b (stO _ rfl (stF (by rw [h2]; rfl) ?_)))))
   by_cases q : r.num < 1
   ·exact stT (decT q) rfl
   ·exact stF (decF q) (stT (decT (by omega)) rfl)
  by_cases h4 : perE r.fr r.to r.days = 0
  ·rw [h4] at hQ
   rcases Qmt h1 with ⟨hl, b3, b4⟩ | ⟨hl, hk⟩
   ·have hf := Qop lb (QcP r) hp.short
    rw [hl] at hL
    by_cases hw : wrE (QcP r) = 0
    ·rw [Qug h1 h2 h3 h4 hl hw]
     unfold Qe5 at hf
     rw [if_neg (fun h => h hw)] at hf
     obtain ⟨w1, w2⟩ := QhJ hw
     have w3 := Qhx (wl (QcP r))
     refine .top rfl (Evt.imp2 (hW.and (Evt.and hC hQ)) (hL.and (Evt.and hf (Qgo lb r))) fun n ⟨a, b, c⟩ ⟨d, e, f⟩ => ?_)
     have j := Qw0 lb n r (.int .i64 0) (Qak r.kind) (Qa1 r.car) (.str (Qar (wl (QcP r)))) (.int .i64 0) (Qar (wl (QcP r))) (by omega) b4 hl f (by rw [hl]; exact d) a
     rw [Qcb]
     exact stO _ a (stO _ rfl (stF wn (stO _ b (stO _ rfl (stF (by rw [h2]; rfl) (stF (decF (by omega)) (stF (decF (by omega)) (stO _ c (stO _ rfl (stF rfl (stO _ d (stO _ rfl (stT rfl (stO _ e (stO _ rfl (stO _ rfl (stO _ rfl (stO _ rfl (stO _ rfl (stF rfl j))))))))))))))))))))
    ·unfold Qe5 at hf
     rw [if_pos hw] at hf
     refine .top rfl (Evt.imp2 (hW.and (Evt.and hC hQ)) (hL.and hf) fun n ⟨a, b, c⟩ ⟨d, e⟩ => ?_)
     rw [Qcb, Qc1 (e := wrE (QcP r)) (by unfold rpE; rw [if_neg h1, if_neg e2, if_neg h3, if_neg (fun h => h h4), if_pos ⟨hl, hw⟩]) hw]
     exact stO _ a (stO _ rfl (stF wn (stO _ b (stO _ rfl (stF (by rw [h2]; rfl) (stF (decF (by omega)) (stF (decF (by omega)) (stO _ c (stO _ rfl (stF rfl (stO _ d (stO _ rfl (stT rfl (stO _ e (stO _ rfl (stO _ rfl (stO _ rfl (stO _ rfl (stO _ (Qae ..) (stT (bneT hw) rfl))))))))))))))))))))
   ·rw [Que h1 h2 h3 h4 hl]
    have hj := Quj lb (f := QaH) (fun l a b => QhY lb false l a b) hp h1 h2 h3 h4 hl
    refine .top rfl (Evt.imp2 (hW.and (Evt.and hC (hQ.and hL))) ((Qgo lb r).and (Evt.and (Qh4 lb r.eq 3 3 hp.eq) (Evt.and (Qea lb r.num (by omega) (by omega)) (Evt.and (Qea lb r.min hp.min.1 hp.min.2) (Evt.and (QiR lb r.fr r.to r.days) hj))))) fun n ⟨a, b, c, d⟩ ⟨f, g, i, j, k, m⟩ => ?_)
    have J := Qxo lb n r (.int .i64 0) (Qak r.kind) (Qa1 r.car) hk hl f d a g i j k m
    rw [hl] at d
    rw [Qcb]
    exact stO _ a (stO _ rfl (stF wn (stO _ b (stO _ rfl (stF (by rw [h2]; rfl) (stF (decF (by omega)) (stF (decF (by omega)) (stO _ c (stO _ rfl (stF rfl (stO _ d (stO _ rfl (stF rfl J)))))))))))))
  ·refine .top rfl (Evt.imp2 (hW.and hC) hQ fun n ⟨a, b⟩ c => ?_)
   rw [Qcb, Qc1 (e := perE r.fr r.to r.days) (by unfold rpE; rw [if_neg h1, if_neg e2, if_neg h3, if_pos h4]) h4]
   exact stO _ a (stO _ rfl (stF wn (stO _ b (stO _ rfl (stF (by rw [h2]; rfl) (stF (decF (by omega)) (stF (decF (by omega)) (stO _ c (stO _ (Qae ..) (stT (bneT h4) rfl))))))))))
theorem Qh8 (r : Rv) (hp : POk r) : Ret lb QaQ [rvcv r] (QdE r) := by
 have hC := QjW lb r.car hp.short.1
 have hQ := QfL lb r.fr r.to r.days
 have hL := Qm3 lb r.kind
 by_cases h1 : r.kind < 1 ∨ r.kind > 5
 ·refine .top rfl (.all fun n => ?_)
  rw [Qdq, Qc1 (e := 8) (by unfold rpE; rw [if_pos h1]) (by decide)]
  by_cases q : r.kind < 1
  ·exact stT (decT q) rfl
  ·exact stF (decF q) (stT (decT (by omega)) rfl)
 have hW := Qmp lb r.kind (by omega)
 cases h2 : Qa1 r.car with
 | false =>
  refine .top rfl (hC.mono fun n b => ?_)
  rw [Qdq, Qc1 (e := 5) (by unfold rpE; rw [if_neg h1, if_pos (by rw [h2]; rfl)]) (by decide)]
  exact stF (decF (by omega)) (stF (decF (by omega)) (stO _ b (stO _ rfl (stT (by rw [h2]; rfl) rfl))))
 | true =>
  have e2 : ¬ (!Qa1 r.car) = true := by simp [h2]
  by_cases h3 : r.num < 1 ∨ r.num > 9999
  ·refine .top rfl (hC.mono fun n b => ?_)
   rw [Qdq, Qc1 (e := 2) (by unfold rpE; rw [if_neg h1, if_neg e2, if_pos h3]) (by decide)]
   refine stF (decF (by omega)) (stF (decF (by omega)) (stO _ b (stO _ rfl (stF (by rw [h2]; rfl) ?_))))
   by_cases q : r.num < 1
   ·exact stT (decT q) rfl
   ·exact stF (decF q) (stT (decT (by omega)) rfl)
  have hN := Qc8 lb r.num (by omega) (by omega)
  have hP := QlU lb r.fr r.to r.days
  have l0 := QoJ r.kind
  by_cases h4 : perE r.fr r.to r.days = 0
  ·rw [h4] at hQ
   rcases Qmt h1 with ⟨hl, b3, b4⟩ | ⟨hl, hk⟩
   ·have hf := QlJ lb (QcP r) hp.short
    have hL' := hL
    rw [hl] at hL
    by_cases hw : wrE (QcP r) = 0
    ·rw [Qug h1 h2 h3 h4 hl hw]
     unfold Qe5 at hf
     rw [if_neg (fun h => h hw)] at hf
     obtain ⟨w1, w2⟩ := QhJ hw
     have w3 := Qhx (wl (QcP r))
     refine .top rfl (Evt.imp2 (hW.and (Evt.and hC hQ)) (hL.and (Evt.and hf (hN.and hP))) fun n ⟨a, b, c⟩ ⟨d, e, f, g⟩ => ?_)
     have j := QxZ lb n r (.str (Qak r.kind)) (.str (Lib.itoa r.num)) (.str (perS r.fr r.to r.days)) (Qar (wl (QcP r))) (.str (Qar (wl (QcP r)))) (.int .i64 0) b3 b4 hl (by rw [hl]; exact d)
     rw [Qdq]
     exact stF (decF (by omega)) (stF (decF (by omega)) (stO _ b (stO _ rfl (stF (by rw [h2]; rfl) (stF (decF (by omega)) (stF (decF (by omega)) (stO _ c (stO _ rfl (stF rfl (stO _ a (stO _ f (stO _ g (stC rfl (stC rfl (stC rfl (stO _ d (stO _ rfl (stT rfl (stO _ e (stO _ rfl (stO _ rfl (stO _ rfl (stO _ rfl (stO _ rfl (stF rfl (stO _ rfl (stC (decT (by simp; omega)) (stO _ rfl (stC (decT (by simp; omega)) j)))))))))))))))))))))))))))))
    ·unfold Qe5 at hf
     rw [if_pos hw] at hf
     refine .top rfl (Evt.imp2 (hW.and (Evt.and hC hQ)) (hL.and (Evt.and hf (hN.and hP))) fun n ⟨a, b, c⟩ ⟨d, e, f, g⟩ => ?_)
     rw [Qdq, Qc1 (e := wrE (QcP r)) (by unfold rpE; rw [if_neg h1, if_neg e2, if_neg h3, if_neg (fun h => h h4), if_pos ⟨hl, hw⟩]) hw]
     exact stF (decF (by omega)) (stF (decF (by omega)) (stO _ b (stO _ rfl (stF (by rw [h2]; rfl) (stF (decF (by omega)) (stF (decF (by omega)) (stO _ c (stO _ rfl (stF rfl (stO _ a (stO _ f (stO _ g (stC rfl (stC rfl (stC rfl (stO _ d (stO _ rfl (stT rfl (stO _ e (stO _ rfl (stO _ rfl (stO _ rfl (stO _ rfl (stO _ (Qae ..) (stT (bneT hw) rfl)))))))))))))))))))))))))
   ·rw [Que h1 h2 h3 h4 hl]
    have hj := Quj lb (f := Qap) (fun l a b => QgN lb false l a b) hp h1 h2 h3 h4 hl
    refine .top rfl (Evt.imp2 (hW.and (Evt.and hC (hQ.and hL))) ((QiH lb r.eq 3 3 hp.eq).and (Evt.and hN (Evt.and (Qc8 lb r.min hp.min.1 hp.min.2) (Evt.and hP hj)))) fun n ⟨a, b, c, d⟩ ⟨g, i, j, k, m⟩ => ?_)
    have J := Qyn lb n r hk hl d g j m
    rw [hl] at d
    rw [Qdq]
    exact stF (decF (by omega)) (stF (decF (by omega)) (stO _ b (stO _ rfl (stF (by rw [h2]; rfl) (stF (decF (by omega)) (stF (decF (by omega)) (stO _ c (stO _ rfl (stF rfl (stO _ a (stO _ i (stO _ k (stC rfl (stC rfl (stC rfl (stO _ d (stO _ rfl (stF rfl J))))))))))))))))))
  ·refine .top rfl (Evt.imp2 hC hQ fun n b c => ?_)
   rw [Qdq, Qc1 (e := perE r.fr r.to r.days) (by unfold rpE; rw [if_neg h1, if_neg e2, if_neg h3, if_pos h4]) h4]
   exact stF (decF (by omega)) (stF (decF (by omega)) (stO _ b (stO _ rfl (stF (by rw [h2]; rfl) (stF (decF (by omega)) (stF (decF (by omega)) (stO _ c (stO _ (Qae ..) (stT (bneT h4) (stO _ c rfl))))))))))
end Go.Proofs
set_option linter.unusedSimpArgs false
set_option linter.unusedVariables false
namespace Go.Proofs
open Go.Am
variable (lb : Nat)
def QeL (w : Bs) : Int := if Qak 5 = w then 5 else if Qak 4 = w then 4 else if Qak 3 = w then 3 else if Qak 2 = w then 2 else if Qak 1 = w then 1 else 0
def Qr3 (w : Bs) : Int := if Qak 1 = w then 1 else if Qak 2 = w then 2 else if Qak 3 = w then 3 else if Qak 4 = w then 4 else if Qak 5 = w then 5 else 0
theorem QxV (w : Bs) : Qr3 w = QeL w := by
 unfold Qr3 QeL
 by_cases h1 : Qak 1 = w
 ·subst h1; decide
 by_cases h2 : Qak 2 = w
 ·subst h2; decide
 by_cases h3 : Qak 3 = w
 ·subst h3; decide
 by_cases h4 : Qak 4 = w
 ·subst h4; decide
 by_cases h5 : Qak 5 = w
 ·subst h5; decide
 rw [if_neg h1, if_neg h2, if_neg h3, if_neg h4, if_neg h5, if_neg h5, if_neg h4, if_neg h3, if_neg h2, if_neg h1]
theorem Qd7 {k : Int} (h : 1 ≤ k ∧ k ≤ 5) : QeL (Qak k) = k := by
 rcases kinds (k := k) (by omega) with rfl | rfl | rfl | rfl | rfl <;> decide
theorem Qwh {w : Bs} (h : QeL w ≠ 0) : (1 ≤ QeL w ∧ QeL w ≤ 5) ∧ Qak (QeL w) = w := by
 unfold QeL at h ⊢
 split
 ·rename_i e; exact ⟨by omega, e⟩
 split
 ·rename_i e; exact ⟨by omega, e⟩
 split
 ·rename_i e; exact ⟨by omega, e⟩
 split
 ·rename_i e; exact ⟨by omega, e⟩
 split
 ·rename_i e; exact ⟨by omega, e⟩
 ·rename_i h1 h2 h3 h4 h5
  rw [if_neg h1, if_neg h2, if_neg h3, if_neg h4, if_neg h5] at h
  exact absurd rfl h
theorem beqS (a b : Bs) : (a == b) = decide (a = b) := by
 by_cases h : a = b
 ·rw [decide_eq_true h, h]; simp
 ·rw [decide_eq_false h]; simpa using h
theorem QhF (n k : Nat) (bn : Bool) (w : Bs) (t : List Bs) (i j j' : Int) (hj : j ≤ 5) (hj' : IntKind.wrap .i64 (j + 1) = j') (hW : C lb n QaM [.int .i64 j] = some (.str (Qak j))) :
  Qcp lb n (k + 1) bn (scv (w :: t)) i j = Qcp lb n k bn (scv (w :: t)) (if Qak j = w then j else i) j' := by
 rw [Qge, hj']
 refine stT (decT hj) (stO _ hW (stO _ rfl (stC rfl (stO _ rfl (stO _ rfl (stO _ rfl ?_))))))
 by_cases h : Qak j = w
 ·rw [if_pos h]; exact stT (by rw [beqS]; exact decT h) rfl
 ·rw [if_neg h]; exact stF (by rw [beqS]; exact decF h) rfl
theorem QmG : Evt fun n => ∀ k : Int, 1 ≤ k ∧ k ≤ 5 → C lb n QaM [.int .i64 k] = some (.str (Qak k)) ∧ C lb n Qdg [.int .i64 k] = some (.str (Qak k)) := by
 have h := Evt.fin [(1 : Int), 2, 3, 4, 5] fun k hk => (Qij lb k).and (Qmp lb k (by simp at hk; omega))
 exact h.mono fun n h k hk => h k (by simp; omega)
theorem Qwv (n k : Nat) (bn : Bool) (w : Bs) (t : List Bs) (hW : ∀ k : Int, 1 ≤ k ∧ k ≤ 5 → C lb n QaM [.int .i64 k] = some (.str (Qak k)) ∧ C lb n Qdg [.int .i64 k] = some (.str (Qak k))) :
  Qcp lb n (k + 6) bn (scv (w :: t)) 0 1 = Qdr lb n bn (scv (w :: t)) (QeL w) 6 := by
 rw [QhF lb n (k + 5) bn w t 0 1 2 (by omega) rfl (hW 1 (by omega)).1, QhF lb n (k + 4) bn w t _ 2 3 (by omega) rfl (hW 2 (by omega)).1, QhF lb n (k + 3) bn w t _ 3 4 (by omega) rfl (hW 3 (by omega)).1,
  QhF lb n (k + 2) bn w t _ 4 5 (by omega) rfl (hW 4 (by omega)).1, QhF lb n (k + 1) bn w t _ 5 6 (by omega) rfl (hW 5 (by omega)).1, Qge]
 exact stF rfl rfl
theorem Qhy (n k : Nat) (w : Bs) (j j' : Int) (hj : j ≤ 5) (hj' : IntKind.wrap .i64 (j + 1) = j') (hW : C lb n Qdg [.int .i64 j] = some (.str (Qak j))) :
  QdP lb n (k + 1) w j = if Qak j = w then some (.int .i64 j) else QdP lb n k w j' := by
 rw [QiZ, hj']
 refine stT (decT hj) (stO _ hW (stO _ rfl ?_))
 by_cases h : Qak j = w
 ·rw [if_pos h]; exact stT (by rw [beqS]; exact decT h) rfl
 ·rw [if_neg h]; exact stF (by rw [beqS]; exact decF h) rfl
theorem Qm0 (w : Bs) : Ret lb Qby [.str w] (.int .i64 (QeL w)) := by
 refine .top rfl (Evt.imp2 (QmG lb) (Evt.ge 10) fun n hW hn => ?_)
 rw [QtC]
 obtain ⟨k, hk⟩ : ∃ k, n = k + 6 := ⟨n - 6, by omega⟩
 have key : QdP lb n (k + 6) w 1 = some (.int .i64 (Qr3 w)) := by
  rw [Qhy lb n (k + 5) w 1 2 (by omega) rfl (hW 1 (by omega)).2, Qhy lb n (k + 4) w 2 3 (by omega) rfl (hW 2 (by omega)).2, Qhy lb n (k + 3) w 3 4 (by omega) rfl (hW 3 (by omega)).2,
   Qhy lb n (k + 2) w 4 5 (by omega) rfl (hW 4 (by omega)).2, Qhy lb n (k + 1) w 5 6 (by omega) rfl (hW 5 (by omega)).2, QiZ]
  have e : (bif (decide ((6 : Int) ≤ 5)) then (optO (C lb n Qdg [.int .i64 6]) fun r9 => optO (CV.asS r9) fun s10 => bif (s10 == w) then (some (.int .i64 6)) else (QdP lb n k w (IntKind.wrap .i64 (6 + 1)))) else (Qkb lb n w 6)) = some (.int .i64 0) := stF rfl (Qqh ..)
  rw [e]
  unfold Qr3
  by_cases h1 : Qak 1 = w
  ·rw [if_pos h1, if_pos h1]
  rw [if_neg h1, if_neg h1]
  by_cases h2 : Qak 2 = w
  ·rw [if_pos h2, if_pos h2]
  rw [if_neg h2, if_neg h2]
  by_cases h3 : Qak 3 = w
  ·rw [if_pos h3, if_pos h3]
  rw [if_neg h3, if_neg h3]
  by_cases h4 : Qak 4 = w
  ·rw [if_pos h4, if_pos h4]
  rw [if_neg h4, if_neg h4]
  by_cases h5 : Qak 5 = w
  ·rw [if_pos h5, if_pos h5]
  ·rw [if_neg h5, if_neg h5]
 rw [QxV] at key
 rw [← hk] at key
 exact key
abbrev QpB (e : Int) : CV := .tup [.agg [.int .i64 0, .str [], .int .i64 0, .int .i64 0, .int .i64 0, .int .i64 0, .int .i64 0, .str [], .list true []], .int .i64 e]
def endR (x : Rv × Int) : CV := if x.2 ≠ 0 then QpB x.2 else if rpE x.1 ≠ 0 then QpB (rpE x.1) else .tup [rvcv x.1, .int .i64 0]
def EqR (a b : Rv) : Prop := a.kind = b.kind ∧ a.car = b.car ∧ a.num = b.num ∧ a.fr = b.fr ∧ a.to = b.to ∧ a.days = b.days ∧ a.min = b.min ∧ a.eq = b.eq ∧ a.legs = b.legs
def QxG (r : Rv) : Prop := -9223372036854775808 ≤ r.min ∧ r.min ≤ 9223372036854775807
def RdR (w : List Bs) (x : Rv × Int) : Prop :=
 (x.2 ≠ 0 ∧ ∀ r, rpE r = 0 → QxG r → w ≠ rwl r) ∨ (x.2 = 0 ∧ (rpE x.1 = 0 → w = rwl x.1) ∧ ∀ r, rpE r = 0 → QxG r → w = rwl r → EqR x.1 r)
theorem QwF {a b : Lg} (h : lgcv a = lgcv b) : a = b := by
 cases a; cases b
 simp [lgcv] at h
 simp [h]
theorem QsG : ∀ {a b : List Lg}, a.map lgcv = b.map lgcv → a = b
 | [], [], _ => rfl
 | [], _ :: _, h => by simp at h
 | _ :: _, [], h => by simp at h
 | x :: a, y :: b, h => by
  simp only [List.map_cons, List.cons.injEq] at h
  rw [QwF h.1, QsG h.2]
theorem QwS {r : Rv} (h : Qbu r.kind = false) : (QcS r).length = if r.kind = 3 ∨ r.kind = 4 then 1 else 0 := by
 unfold QcS
 rw [h]
 simp only [Bool.false_eq_true, if_false]
 by_cases h3 : r.kind = 3
 ·rw [if_pos h3, if_pos (.inl h3)]; rfl
 ·rw [if_neg h3]
  by_cases h4 : r.kind = 4
  ·rw [if_pos h4, if_pos (.inr h4)]; rfl
  ·rw [if_neg h4, if_neg (by omega)]; rfl
def sR (k : Int) (car : Bs) (num : Int) (q : Int × Int × Int) (mn : Int) (eq : Bs) : Rv := ⟨k, car, num, q.1, q.2.1, q.2.2, mn, eq, true, []⟩
def QbZ (k : Int) : Int := if k = 2 then 3 else 4
def Qde (k : Int) : List Bs → Rv × Int
 | car :: nu :: pe :: x => if ((car :: nu :: pe :: x).length : Int) ≠ QbZ k then (sR k [] 0 (0, 0, 0) 0 [], 3) else
   if (numB nu).2 ≠ 0 then (sR k car (numB nu).1 (0, 0, 0) 0 [], (numB nu).2) else
   if (pP pe).2 ≠ 0 then (sR k car (numB nu).1 (pP pe).1 0 [], (pP pe).2) else
   if k = 3 then (sR k car (numB nu).1 (pP pe).1 (numB (x.headD [])).1 [], (numB (x.headD [])).2) else
   if k = 4 then (sR k car (numB nu).1 (pP pe).1 0 (x.headD []), 0) else (sR k car (numB nu).1 (pP pe).1 0 [], 0)
 | _ => (sR k [] 0 (0, 0, 0) 0 [], 3)
theorem Qho (k : Int) (car nu pe : Bs) (x : List Bs) : Qde k (car :: nu :: pe :: x) = if ((car :: nu :: pe :: x).length : Int) ≠ QbZ k then (sR k [] 0 (0, 0, 0) 0 [], 3) else
   if (numB nu).2 ≠ 0 then (sR k car (numB nu).1 (0, 0, 0) 0 [], (numB nu).2) else
   if (pP pe).2 ≠ 0 then (sR k car (numB nu).1 (pP pe).1 0 [], (pP pe).2) else
   if k = 3 then (sR k car (numB nu).1 (pP pe).1 (numB (x.headD [])).1 [], (numB (x.headD [])).2) else
   if k = 4 then (sR k car (numB nu).1 (pP pe).1 0 (x.headD []), 0) else (sR k car (numB nu).1 (pP pe).1 0 [], 0) := rfl
theorem Qjr {k : Int} {t : List Bs} (h : (t.length : Int) ≠ QbZ k) : Qde k t = (sR k [] 0 (0, 0, 0) 0 [], 3) := by
 unfold Qde
 split
 ·rw [if_pos h]
 ·rfl
theorem Qiy {k : Int} {t : List Bs} (h : (t.length : Int) = QbZ k) : ∃ car nu pe x, t = car :: nu :: pe :: x ∧ (k ≠ 2 → ∃ m, x = [m]) ∧ (k = 2 → x = []) := by
 have h2 : k = 2 → t.length = 3 := fun e => by unfold QbZ at h; rw [if_pos e] at h; omega
 have h4 : k ≠ 2 → t.length = 4 := fun e => by unfold QbZ at h; rw [if_neg e] at h; omega
 by_cases e : k = 2
 ·have := h2 e
  match t, this with
  | [a, b, c], _ => exact ⟨a, b, c, [], rfl, fun h => absurd e h, fun _ => rfl⟩
 ·have := h4 e
  match t, this with
  | [a, b, c, d], _ => exact ⟨a, b, c, [d], rfl, fun _ => ⟨d, rfl⟩, fun h => absurd h e⟩
theorem Qiw {s : Bs} {z : Int} (h0 : -9223372036854775808 ≤ z) (h1 : z ≤ 9223372036854775807) (h : s = Lib.itoa z) : numB s = (z, 0) := by rw [h]; exact Qjx z h0 h1
theorem QyZ {s : Bs} (h : ¬ (pP s).2 ≠ 0) : s = perS (pP s).1.1 (pP s).1.2.1 (pP s).1.2.2 := by
 have := QiE s
 rw [Decidable.not_not.1 h] at this
 exact (Qr7 this).1
theorem QwW {k : Int} (hk : k = 2 ∨ k = 3 ∨ k = 4) (hl : Qbu k = false) (t : List Bs) : RdR (Qak k :: t) (Qde k t) := by
 have hk5 : 1 ≤ k ∧ k ≤ 5 := by omega
 have same : ∀ r, rpE r = 0 → Qak k :: t = rwl r → r.kind = k ∧ t = r.car :: Lib.itoa r.num :: perS r.fr r.to r.days :: QcS r := fun r h e => by
  obtain ⟨h1, _⟩ := Qix h
  unfold rwl at e
  obtain ⟨e1, e2⟩ := List.cons.inj e
  have := Qd7 hk5
  rw [e1, Qd7 h1] at this
  exact ⟨this, e2⟩
 by_cases hn : (t.length : Int) = QbZ k
 ·obtain ⟨car, nu, pe, x, rfl, x1, x2⟩ := Qiy hn
  rw [Qho, if_neg (show ¬ (((car :: nu :: pe :: x).length : Int) ≠ QbZ k) from fun h => h hn)]
  by_cases q1 : (numB nu).2 ≠ 0
  ·rw [if_pos q1]
   refine .inl ⟨q1, fun r h hm e => ?_⟩
   obtain ⟨_, e2⟩ := same r h e
   obtain ⟨_, _, h3, _⟩ := Qix h
   simp only [List.cons.injEq] at e2
   rw [Qiw (by omega) (by omega) e2.2.1] at q1
   exact q1 rfl
  rw [if_neg q1]
  by_cases q2 : (pP pe).2 ≠ 0
  ·rw [if_pos q2]
   refine .inl ⟨q2, fun r h hm e => ?_⟩
   obtain ⟨_, e2⟩ := same r h e
   obtain ⟨_, _, _, h4, _⟩ := Qix h
   simp only [List.cons.injEq] at e2
   rw [e2.2.2.1, Qob h4] at q2
   exact q2 rfl
  rw [if_neg q2]
  have n1 := Qkm q1
  have p1 := QyZ q2
  have eqs : ∀ r, rpE r = 0 → Qak k :: car :: nu :: pe :: x = rwl r → r.kind = k ∧ car = r.car ∧ (numB nu).1 = r.num ∧ (pP pe).1 = (r.fr, r.to, r.days) ∧ x = QcS r ∧ r.legs = [] ∧ (k ≠ 3 → r.min = 0) ∧ (k ≠ 4 → r.eq = []) := fun r h e => by
   obtain ⟨e1, e2⟩ := same r h e
   obtain ⟨_, _, h3, h4, _, _, h7⟩ := Qix h
   obtain ⟨f1, f2, f3⟩ := Qka h7
   simp only [List.cons.injEq] at e2
   rw [e1] at f1 f2 f3
   exact ⟨e1, e2.1, by rw [Qiw (by omega) (by omega) e2.2.1], by rw [e2.2.2.1, Qob h4], e2.2.2.2, f3 hl, f1, f2⟩
  by_cases k3 : k = 3
  ·obtain ⟨m, rfl⟩ := x1 (by omega)
   rw [if_pos k3]
   by_cases q3 : (numB m).2 ≠ 0
   ·refine .inl ⟨q3, fun r h hm e => ?_⟩
    obtain ⟨e1, _, _, _, e5, _⟩ := eqs r h e
    unfold QcS at e5
    rw [e1, hl, if_pos k3] at e5
    simp only [Bool.false_eq_true, if_false, List.cons.injEq] at e5
    have e6 : numB m = (r.min, 0) := Qiw hm.1 hm.2 e5.1
    rw [e6] at q3
    exact q3 rfl
   ·refine .inr ⟨Decidable.not_not.1 q3, fun _ => ?_, fun r h hm e => ?_⟩
    ·unfold rwl QcS sR
     simp only [hl, if_pos k3, Bool.false_eq_true, if_false, List.headD_cons]
     rw [← n1, ← p1, ← Qkm q3]
    ·obtain ⟨e1, e2, e3, e4, e5, e6, e7, e8⟩ := eqs r h e
     unfold QcS at e5
     rw [e1, hl, if_pos k3] at e5
     simp only [Bool.false_eq_true, if_false, List.cons.injEq] at e5
     have e9 : numB m = (r.min, 0) := Qiw hm.1 hm.2 e5.1
     exact ⟨e1.symm, e2, e3, by show (pP pe).1.1 = _; rw [e4], by show (pP pe).1.2.1 = _; rw [e4], by show (pP pe).1.2.2 = _; rw [e4], by show (numB m).1 = _; rw [e9], (e8 (by omega)).symm, e6.symm⟩
  rw [if_neg k3]
  by_cases k4 : k = 4
  ·obtain ⟨m, rfl⟩ := x1 (by omega)
   rw [if_pos k4]
   refine .inr ⟨rfl, fun _ => ?_, fun r h hm e => ?_⟩
   ·unfold rwl QcS sR
    simp only [hl, if_neg k3, if_pos k4, Bool.false_eq_true, if_false, List.headD_cons]
    rw [← n1, ← p1]
   ·obtain ⟨e1, e2, e3, e4, e5, e6, e7, e8⟩ := eqs r h e
    unfold QcS at e5
    rw [e1, hl, if_neg k3, if_pos k4] at e5
    simp only [Bool.false_eq_true, if_false, List.cons.injEq] at e5
    exact ⟨e1.symm, e2, e3, by show (pP pe).1.1 = _; rw [e4], by show (pP pe).1.2.1 = _; rw [e4], by show (pP pe).1.2.2 = _; rw [e4], (e7 k3).symm, e5.1, e6.symm⟩
  rw [if_neg k4]
  have hx := x2 (by omega)
  subst hx
  refine .inr ⟨rfl, fun _ => ?_, fun r h hm e => ?_⟩
  ·unfold rwl QcS sR
   simp only [hl, if_neg k3, if_neg k4, Bool.false_eq_true, if_false]
   rw [← n1, ← p1]
  ·obtain ⟨e1, e2, e3, e4, e5, e6, e7, e8⟩ := eqs r h e
   exact ⟨e1.symm, e2, e3, by show (pP pe).1.1 = _; rw [e4], by show (pP pe).1.2.1 = _; rw [e4], by show (pP pe).1.2.2 = _; rw [e4], (e7 k3).symm, (e8 k4).symm, e6.symm⟩
 ·rw [Qjr hn]
  refine .inl ⟨show (3 : Int) ≠ 0 by decide, fun r h hm e => ?_⟩
  obtain ⟨e1, e2⟩ := same r h e
  have tl := QwS (r := r) (by rw [e1]; exact hl)
  rw [e2] at hn
  simp only [List.length_cons, tl, e1] at hn
  unfold QbZ at hn
  rcases hk with rfl | rfl | rfl <;> exact hn rfl
end Go.Proofs
set_option linter.unusedSimpArgs false
set_option linter.unusedVariables false
namespace Go.Proofs
open Go.Am
variable (lb : Nat)
theorem QmI (k : Int) (hk : k = 2 ∨ k = 3 ∨ k = 4) (t : List Bs) (bn : Bool) (ht : ∀ u ∈ t, u.length ≤ 10000000) : Ret (lb + 1) Qco [.int .i64 k, .list bn (scv t)] (.tup [rvcv (Qde k t).1, .int .i64 (Qde k t).2]) := by
 have top : ∀ n R, QdT (lb + 1) n k bn (scv t) (QbZ k) = R → top (lb + 1) n Qco [.int .i64 k, .list bn (scv t)] = R := fun n R h => by
  rw [Qnv]
  unfold QbZ at h
  by_cases e : k = 2
  ·rw [if_pos e] at h; exact stF (bneF e) h
  ·rw [if_neg e] at h; exact stT (bneT e) h
 by_cases hn : (t.length : Int) = QbZ k
 ·obtain ⟨car, nu, pe, x, rfl, x1, x2⟩ := Qiy hn
  have hnu := QeO lb nu (by have := ht nu (by simp); omega)
  have hpe := Qi5 (lb + 1) pe (by have := ht pe (by simp); omega)
  have hm := QeO lb (x.headD []) (by
   cases x with
   | nil => simp
   | cons a b => have := ht a (by simp); simp; omega)
  rw [QiE] at hpe
  refine .top rfl (Evt.imp2 hnu (Evt.and hpe hm) fun n a ⟨b, c⟩ => top n _ ?_)
  rw [QgA]
  rw [Qho, if_neg (show ¬ (((car :: nu :: pe :: x).length : Int) ≠ QbZ k) from fun h => h hn)]
  refine stF (bneF (by simpa [scv] using hn)) (stO _ rfl (stC rfl (stO _ rfl (stC rfl (stO _ rfl (stC rfl (stO _ rfl (stO _ a (stO _ rfl (stO _ rfl (stO _ rfl (stO _ rfl (stC rfl (stO _ (Qae ..) ?_))))))))))))))
  by_cases q1 : (numB nu).2 ≠ 0
  ·rw [if_pos q1]; exact stT (bneT q1) rfl
  rw [if_neg q1]
  refine stF (bneF (Decidable.not_not.1 q1)) (stO _ rfl (stC rfl (stO _ rfl (stO _ b (stO _ rfl (stO _ rfl (stO _ rfl (stO _ rfl (stO _ rfl (stC rfl (stO _ rfl (stO _ rfl (stO _ rfl (stO _ (Qae ..) ?_))))))))))))))
  by_cases q2 : (pP pe).2 ≠ 0
  ·rw [if_pos q2]; exact stT (bneT q2) rfl
  rw [if_neg q2]
  refine stF (bneF (Decidable.not_not.1 q2)) ?_
  by_cases k3 : k = 3
  ·obtain ⟨m, rfl⟩ := x1 (by omega)
   rw [if_pos k3]
   exact stT (beqT k3) (stO _ rfl (stC rfl (stO _ rfl (stO _ c (stO _ rfl (stO _ rfl (stO _ rfl (stO _ rfl (stC rfl rfl)))))))))
  rw [if_neg k3]
  refine stF (beqF k3) ?_
  by_cases k4 : k = 4
  ·obtain ⟨m, rfl⟩ := x1 (by omega)
   rw [if_pos k4]
   refine stT (beqT k4) (stO _ rfl (stC rfl (stO _ rfl (stC rfl ?_))))
   rw [Decidable.not_not.1 q2]; rfl
  ·rw [if_neg k4]
   refine stF (beqF k4) ?_
   rw [Decidable.not_not.1 q2]; rfl
 ·rw [Qjr hn]
  refine .top rfl (.all fun n => top n _ ?_)
  rw [QgA]
  exact stT (bneT (by simpa [scv] using hn)) rfl
theorem QsD (k : Int) (hk : k = 2 ∨ k = 3 ∨ k = 4) (t : List Bs) (bn : Bool) (ht : ∀ u ∈ t, u.length ≤ 10000000) : ∃ y : Rv, Ret (lb + 1) QcH [.list bn (scv (Qak k :: t))] (.tup [rvcv y, .int .i64 (Qde k t).2]) ∧ ((Qde k t).2 = 0 → y = (Qde k t).1) := by
 have hK := Qm0 (lb + 1) (Qak k)
 rw [Qd7 (by omega)] at hK
 have top : ∀ n R, C (lb + 1) n Qby [.str (Qak k)] = some (.int .i64 k) → QfH (lb + 1) n bn (scv (Qak k :: t)) [.str (Qak k)] (.str (Qak k)) (.int .i64 k) (QbZ k + 1) = R → top (lb + 1) n QcH [.list bn (scv (Qak k :: t))] = R := fun n R hK h => by
  rw [Qt4]
  unfold QbZ at h
  refine stO _ rfl (stC rfl (stO _ rfl (stO _ hK (stC rfl (stO _ (Qae ..) ?_)))))
  by_cases e : k = 2
  ·rw [if_pos e] at h; exact stT (beqT e) h
  ·rw [if_neg e] at h; exact stF (beqF e) h
 by_cases hn : (t.length : Int) = QbZ k
 ·obtain ⟨car, nu, pe, x, rfl, x1, x2⟩ := Qiy hn
  have hnu := Qfl (lb + 1) nu (by have := ht nu (by simp); omega)
  have hpe := QlF (lb + 1) pe (by have := ht pe (by simp); omega)
  have hm := Qfl (lb + 1) (x.headD []) (by
   cases x with
   | nil => simp
   | cons a b => have := ht a (by simp); simp; omega)
  rw [QiE] at hpe
  have hb : (((scv (Qak k :: car :: nu :: pe :: x)).length : Int) != QbZ k + 1) = false := bneF (by have := hn; simp [scv] at this ⊢; omega)
  rw [Qho, if_neg (show ¬ (((car :: nu :: pe :: x).length : Int) ≠ QbZ k) from fun h => h hn)]
  by_cases q1 : (numB nu).2 ≠ 0
  ·rw [if_pos q1]
   refine ⟨sR k [] 0 (0, 0, 0) 0 [], .top rfl (Evt.imp2 hK hnu fun n h a => top n _ h ?_), fun h => absurd h q1⟩
   rw [Qfd]
   exact stF hb (stO _ rfl (stC rfl (stO _ rfl (stO _ a (stO _ rfl (stO _ rfl (stO _ rfl (stO _ rfl (stO _ (Qae ..) (stT (bneT q1) rfl))))))))))
  rw [if_neg q1]
  by_cases q2 : (pP pe).2 ≠ 0
  ·rw [if_pos q2]
   refine ⟨sR k [] 0 (0, 0, 0) 0 [], .top rfl (Evt.imp2 hK (Evt.and hnu hpe) fun n h ⟨a, b⟩ => top n _ h ?_), fun h => absurd h q2⟩
   rw [Qfd]
   exact stF hb (stO _ rfl (stC rfl (stO _ rfl (stO _ a (stO _ rfl (stO _ rfl (stO _ rfl (stO _ rfl (stO _ (Qae ..) (stF (bneF (Decidable.not_not.1 q1)) (stO _ rfl (stC rfl (stO _ rfl (stO _ b (stO _ rfl (stO _ rfl (stO _ rfl (stO _ rfl (stO _ rfl (stC rfl (stO _ rfl (stO _ rfl (stO _ rfl (stO _ (Qae ..) (stT (bneT q2) rfl)))))))))))))))))))))))))
  rw [if_neg q2]
  have pre : ∀ n R, C (lb + 1) n Qan [.str nu] = some (numR nu) → C (lb + 1) n Qah [.str pe] = some (.tup [.agg [.int .i64 (pP pe).1.1, .int .i64 (pP pe).1.2.1, .int .i64 (pP pe).1.2.2], .int .i64 (pP pe).2]) →
    (bif (k == 4) then
     (optO (atL (scv (Qak k :: car :: nu :: pe :: x)) 4) fun c34 => chkO (c34.length == 1) (optO (c34[0]?) fun jR => chkO (CV.isCell jR) (
      Qfz (lb + 1) n bn (scv (Qak k :: car :: nu :: pe :: x)) (QbZ k + 1) (.int .i64 (numB nu).1) (.int .i64 (pP pe).2) [.str (Qak k)] (.str (Qak k)) (.int .i64 k) (numR nu) [.str nu] (.str nu) (.int .i64 (numB nu).2) (.tup [.agg [.int .i64 (pP pe).1.1, .int .i64 (pP pe).1.2.1, .int .i64 (pP pe).1.2.2], .int .i64 (pP pe).2]) [.str pe] (.str pe) (.agg [.int .i64 (pP pe).1.1, .int .i64 (pP pe).1.2.1, .int .i64 (pP pe).1.2.2]) [.str car] (.str car) (.int .i64 (pP pe).1.1) (.int .i64 (pP pe).1.2.1) (.int .i64 (pP pe).1.2.2) jR)))
    else
     (Qfz (lb + 1) n bn (scv (Qak k :: car :: nu :: pe :: x)) (QbZ k + 1) (.int .i64 (numB nu).1) (.int .i64 (pP pe).2) [.str (Qak k)] (.str (Qak k)) (.int .i64 k) (numR nu) [.str nu] (.str nu) (.int .i64 (numB nu).2) (.tup [.agg [.int .i64 (pP pe).1.1, .int .i64 (pP pe).1.2.1, .int .i64 (pP pe).1.2.2], .int .i64 (pP pe).2]) [.str pe] (.str pe) (.agg [.int .i64 (pP pe).1.1, .int .i64 (pP pe).1.2.1, .int .i64 (pP pe).1.2.2]) [.str car] (.str car) (.int .i64 (pP pe).1.1) (.int .i64 (pP pe).1.2.1) (.int .i64 (pP pe).1.2.2) (.str []))) = R →
    QfH (lb + 1) n bn (scv (Qak k :: car :: nu :: pe :: x)) [.str (Qak k)] (.str (Qak k)) (.int .i64 k) (QbZ k + 1) = R := fun n R a b h => by
   rw [Qfd]
   exact stF hb (stO _ rfl (stC rfl (stO _ rfl (stO _ a (stO _ rfl (stO _ rfl (stO _ rfl (stO _ rfl (stO _ (Qae ..) (stF (bneF (Decidable.not_not.1 q1)) (stO _ rfl (stC rfl (stO _ rfl (stO _ b (stO _ rfl (stO _ rfl (stO _ rfl (stO _ rfl (stO _ rfl (stC rfl (stO _ rfl (stO _ rfl (stO _ rfl (stO _ (Qae ..) (stF (bneF (Decidable.not_not.1 q2)) (stO _ rfl (stC rfl (stO _ rfl (stC rfl (stC rfl (stO _ (Qae ..) h)))))))))))))))))))))))))))))))
  by_cases k3 : k = 3
  ·obtain ⟨m, rfl⟩ := x1 (by omega)
   rw [if_pos k3]
   refine ⟨_, .top rfl (Evt.imp2 hK (Evt.and hnu (hpe.and hm)) fun n h ⟨a, b, c⟩ => top n _ h (pre n _ a b (stF (beqF (by omega)) ?_))), fun _ => rfl⟩
   rw [QgY]
   exact stO _ (Qae ..) (stT (beqT k3) (stO _ rfl (stC rfl (stO _ rfl (stO _ c (stO _ rfl (stO _ rfl (stO _ rfl (stO _ rfl (stC rfl rfl))))))))))
  rw [if_neg k3]
  by_cases k4 : k = 4
  ·obtain ⟨m, rfl⟩ := x1 (by omega)
   rw [if_pos k4]
   refine ⟨_, .top rfl (Evt.imp2 hK (Evt.and hnu hpe) fun n h ⟨a, b⟩ => top n _ h (pre n _ a b (stT (beqT k4) (stO _ rfl (stC rfl (stO _ rfl (stC rfl ?_))))))), fun _ => rfl⟩
   rw [QgY]
   refine stO _ (Qae ..) (stF (beqF k3) ?_)
   rw [Decidable.not_not.1 q2]; rfl
  ·rw [if_neg k4]
   refine ⟨_, .top rfl (Evt.imp2 hK (Evt.and hnu hpe) fun n h ⟨a, b⟩ => top n _ h (pre n _ a b (stF (beqF k4) ?_))), fun _ => rfl⟩
   rw [QgY]
   refine stO _ (Qae ..) (stF (beqF k3) ?_)
   rw [Decidable.not_not.1 q2]; rfl
 ·rw [Qjr hn]
  refine ⟨sR k [] 0 (0, 0, 0) 0 [], .top rfl (hK.mono fun n h => top n _ h ?_), fun h => by cases h⟩
  rw [Qfd]
  exact stT (bneT (by rw [show ((scv (Qak k :: t)).length : Int) = (t.length : Int) + 1 by simp [scv]]; omega)) rfl
theorem Qrs : ∀ l : List Bs, QaL l ≤ (Qar l).length
 | [] => by simp [QaL]
 | [w] => by
  have := (Qd3 w).1
  simpa [QaL, Qar] using this
 | w :: x :: r => by
  have h2 := Qrs (x :: r)
  have h3 := (Qd3 w).1
  rw [QcG w (by simp), Qb5]
  simp only [List.length_append, List.length_cons]
  omega
theorem QuX (w : Bs) (t : List Bs) : (Qar t).length ≤ (Qar (w :: t)).length := by
 cases t with
 | nil => simp [Qar]
 | cons x r =>
  rw [QcG w (by simp)]
  simp only [List.length_append, List.length_cons]
  omega
def mkR (k : Int) (f : Fl) : Rv := ⟨k, f.car, f.num, f.fr, f.to, f.days, 0, [], f.ln, f.legs⟩
theorem Qs7 {f : Fl} {t : List Bs} (ht : t = wl f) (hb : ∀ u ∈ t, u.length ≤ 10000000) : Qnl f := by
 refine ⟨by have := hb f.car (by rw [ht]; simp [wl]); omega, fun x hx => ?_⟩
 have key : ∀ w ∈ legWords x, w.length ≤ 10000000 := fun w hw2 => hb w (by
  rw [ht]
  unfold wl
  exact List.mem_append_right _ (List.mem_flatMap.2 ⟨x, hx, hw2⟩))
 have k1 := key x.fro (by simp [legWords])
 have k2 := key x.to (by simp [legWords])
 have k3 := key x.eq (by simp [legWords])
 omega
theorem Qyp {k : Int} (hk : 1 ≤ k ∧ k ≤ 5) (hl : Qbu k = true) {f : Fl} (hp : Qe2 (Qar (wl f)) = .tup [flcv f, .int .i64 0]) : RdR (Qak k :: wl f) (mkR k f, 0) := by
 refine .inr ⟨rfl, fun _ => ?_, fun r h hm e => ?_⟩
 ·rw [Qjb (r := mkR k f) hl]; rfl
 ·obtain ⟨h1, _, h3, h4, h5, h6, h7⟩ := Qix h
  have ek : k = r.kind := by
   have := (List.cons.inj e).1
   have h := Qd7 hk
   rw [this, Qd7 h1] at h
   exact h.symm
  have hlr : Qbu r.kind = true := by rw [← ek]; exact hl
  rw [Qjb hlr] at e
  have e2 := (List.cons.inj e).2
  rw [e2, QmY (h5 hlr)] at hp
  simp only [mkF, QcP, CV.tup.injEq, List.cons.injEq, CV.agg.injEq, CV.str.injEq, CV.int.injEq, CV.list.injEq, true_and, and_true] at hp
  obtain ⟨f1, f2, f3⟩ := Qka h7
  obtain ⟨c1, c2, c3, c4, c5, c6, c7⟩ := hp
  have n3 : r.kind ≠ 3 := fun z => by rw [z] at hlr; cases hlr
  have n4 : r.kind ≠ 4 := fun z => by rw [z] at hlr; cases hlr
  exact ⟨ek, c1.symm, c2.symm, c3.symm, c4.symm, c5.symm, (f1 n3).symm, (f2 n4).symm, QsG c7.symm⟩
theorem QyG {w : Bs} {t : List Bs} (h : QeL w = 0) : RdR (w :: t) (sR 0 [] 0 (0, 0, 0) 0 [], 3) := by
 refine .inl ⟨show (3 : Int) ≠ 0 by decide, fun r hr hm e => ?_⟩
 obtain ⟨h1, _⟩ := Qix hr
 have := (List.cons.inj e).1
 rw [this, Qd7 h1] at h
 omega
theorem QyI : RdR [] (sR 0 [] 0 (0, 0, 0) 0 [], 3) := .inl ⟨show (3 : Int) ≠ 0 by decide, fun r hr hm e => by cases e⟩
theorem QyN {k : Int} (hk : 1 ≤ k ∧ k ≤ 5) (hl : Qbu k = true) {t : List Bs} {e : Int} (hp : Qe2 (Qar t) = QfK e) (he : e ≠ 0) : RdR (Qak k :: t) (sR k [] 0 (0, 0, 0) 0 [], e) := by
 refine .inl ⟨he, fun r h hm q => ?_⟩
 obtain ⟨h1, _, _, _, h5, _⟩ := Qix h
 have ek : k = r.kind := by
  have := (List.cons.inj q).1
  have h := Qd7 hk
  rw [this, Qd7 h1] at h
  exact h.symm
 have hlr : Qbu r.kind = true := by rw [← ek]; exact hl
 rw [Qjb hlr] at q
 have e2 := (List.cons.inj q).2
 rw [e2, QmY (h5 hlr)] at hp
 exact Qxl he hp.symm
theorem Qq8 {k : Int} (hl : Qbu k = false) {t : List Bs} (ht : ∀ u ∈ t, u.length ≤ 10000000) (h : (Qde k t).2 = 0) : POk (Qde k t).1 := by
 by_cases hn : (t.length : Int) = QbZ k
 ·obtain ⟨car, nu, pe, x, rfl, x1, x2⟩ := Qiy hn
  have hc := ht car (by simp)
  have hx : (x.headD []).length ≤ 10000000 := by
   cases x with
   | nil => simp
   | cons a b => have := ht a (by simp); simpa using this
  have sh : ∀ num q mn eq, Qnl (QcP (sR k car num q mn eq)) := fun num q mn eq => ⟨by show car.length ≤ _; omega, fun y hy => by cases hy⟩
  rw [Qho, if_neg (show ¬ (((car :: nu :: pe :: x).length : Int) ≠ QbZ k) from fun h => h hn)] at h ⊢
  by_cases q1 : (numB nu).2 ≠ 0
  ·rw [if_pos q1] at h; exact absurd h q1
  rw [if_neg q1] at h ⊢
  by_cases q2 : (pP pe).2 ≠ 0
  ·rw [if_pos q2] at h; exact absurd h q2
  rw [if_neg q2] at h ⊢
  by_cases k3 : k = 3
  ·rw [if_pos k3] at h ⊢
   have hz : numB (x.headD []) = ((numB (x.headD [])).1, 0) := Prod.ext rfl h
   obtain ⟨_, z1, z2⟩ := Qrm hz
   exact ⟨sh _ _ _ _, by show ([] : Bs).length ≤ _; simp, ⟨z1, z2⟩⟩
  rw [if_neg k3] at h ⊢
  by_cases k4 : k = 4
  ·rw [if_pos k4] at h ⊢
   exact ⟨sh _ _ _ _, by show (x.headD []).length ≤ _; omega, by show (_ : Int) ≤ 0 ∧ (0 : Int) ≤ _; omega⟩
  ·rw [if_neg k4] at h ⊢
   exact ⟨sh _ _ _ _, by show ([] : Bs).length ≤ _; simp, by show (_ : Int) ≤ 0 ∧ (0 : Int) ≤ _; omega⟩
 ·rw [Qjr hn] at h; cases h
theorem Qlx (w : Bs) (t : List Bs) : (((scv (w :: t)).take (((scv (w :: t)).length : Int).toNat)).drop 1) = scv t := by
 rw [Int.toNat_natCast, List.take_length]; rfl
theorem QvS (s : Bs) (w : List Bs) (hw : Qdd s = some w) (hs : s.length ≤ 10000000) : ∃ x : Rv × Int, RdR w x ∧ (x.2 = 0 → POk x.1) ∧ Ret (lb + 1) Qa3 [.list s.isEmpty (scv w)] (.tup [rvcv x.1, .int .i64 x.2]) ∧ Ret (lb + 1) Qa0 [.str s] (endR x) := by
 have hWr := Qh2 (lb + 1) s hs
 rw [hw] at hWr
 have hj := Qev hw
 obtain ⟨m1, m2⟩ := QhC (l := w)
 rw [← hj] at m1 m2
 cases w with
 | nil =>
  refine ⟨_, QyI, fun h => (by cases h), .top rfl (.all fun n => ?_), .top rfl (hWr.mono fun n a => ?_)⟩
  ·rw [show scv ([] : List Bs) = [] from rfl, Qi8]; exact stT rfl rfl
  ·rw [QdX]
   exact stO _ a (stO _ rfl (stO _ rfl (stO _ rfl (stO _ rfl (stO _ rfl (stF rfl (stO _ rfl (stT rfl rfl))))))))
 | cons wd t =>
  have hb : ∀ u ∈ t, u.length ≤ 10000000 := fun u hu => by have := m1 u (by simp [hu]); omega
  have hK := Qm0 (lb + 1) wd
  have pread : ∀ n R, (∀ k : Int, 1 ≤ k ∧ k ≤ 5 → C (lb + 1) n QaM [.int .i64 k] = some (.str (Qak k)) ∧ C (lb + 1) n Qdg [.int .i64 k] = some (.str (Qak k))) → 10 ≤ n → Qdr (lb + 1) n s.isEmpty (scv (wd :: t)) (QeL wd) 6 = R → top (lb + 1) n Qa3 [.list s.isEmpty (scv (wd :: t))] = R := fun n R hW hn h => by
   obtain ⟨k, hk⟩ : ∃ k, n = k + 6 := ⟨n - 6, by omega⟩
   have z := Qwv (lb + 1) n k s.isEmpty wd t hW
   rw [← hk] at z
   rw [Qi8]
   exact stF (beqF (by simp [scv]; omega)) (z.trans h)
  by_cases h0 : QeL wd = 0
  ·refine ⟨_, QyG h0, fun h => (by cases h), .top rfl (Evt.imp2 (QmG (lb + 1)) (Evt.ge 10) fun n hW hn => pread n _ hW hn ?_), .top rfl (Evt.imp2 hWr hK fun n a b => ?_)⟩
   ·rw [h0, QeH]; exact stT rfl rfl
   ·rw [h0] at b
    rw [QdX]
    exact stO _ a (stO _ rfl (stO _ rfl (stO _ rfl (stO _ rfl (stO _ rfl (stF rfl (stO _ rfl (stF (beqF (by simp [scv]; omega)) (stO _ rfl (stO _ rfl (stC rfl (stO _ rfl (stO _ b (stO _ rfl (stT rfl rfl)))))))))))))))
  ·obtain ⟨k1, k2⟩ := Qwh h0
   generalize hkk : QeL wd = k at h0 k1 k2 hK pread
   subst k2
   have hLp := Qfw (lb + 1) k
   have hLr := Qm3 (lb + 1) k
   have kz : (k == 0) = false := beqF h0
   rcases Qmt (k := k) (by omega) with ⟨hl, b3, b4⟩ | ⟨hl, hk⟩
   ·have ts := Qrs t
    have tt := QuX (Qak k) t
    rw [← hj] at tt
    obtain ⟨_, u2⟩ := QhC (l := t)
    have j1 := QhY (lb + 1) s.isEmpty t (by omega) (by omega)
    have j2 := QgN (lb + 1) s.isEmpty t (by omega) (by omega)
    have f1 := Qox lb (Qar t) (by omega)
    have f2 := Qrx (lb + 1) (Qar t) (by omega)
    rw [hl] at hLp hLr
    have pro : ∀ n (c : List CV) (e : Int) (R : Option CV) (hc : c.length = 6) (hcell : ∀ x0 x1 x2 x3 x4 x5, c = [x0, x1, x2, x3, x4, x5] → CV.isCell x0 = true ∧ CV.isCell x1 = true ∧ CV.isCell x5 = true ∧ some (.tup [.agg [.int .i64 k, x0, x1, x2, x3, x4, .int .i64 0, .str [], x5], .int .i64 e]) = R),
      C (lb + 1) n QaO [.int .i64 k] = some (.bool true) → C (lb + 1) n QaH [.list s.isEmpty (scv t)] = some (.str (Qar t)) → C (lb + 1) n Qbd [.str (Qar t)] = some (.tup [.agg c, .int .i64 e]) → Qdr (lb + 1) n s.isEmpty (scv (Qak k :: t)) k 6 = R := fun n c e R hc hcell a b d => by
     match c, hc with
     | [x0, x1, x2, x3, x4, x5], _ =>
      obtain ⟨q1, q2, q3, q4⟩ := hcell x0 x1 x2 x3 x4 x5 rfl
      rw [QeH, Qlx]
      exact stF kz (stO _ a (stO _ rfl (stF rfl (stC (by simp [scv]) (stC (decT (by simp [scv]; omega)) (stO _ b (stO _ d (stO _ rfl (stO _ rfl (stO _ rfl (stO _ rfl (stO _ rfl (stC rfl (stO _ rfl (stO _ rfl (stO _ rfl (stO _ rfl (stO _ rfl (stO _ rfl (stC q1 (stC q2 (stC q3 q4))))))))))))))))))))))
    rcases QtU (Qar t) with ⟨e, hp, he⟩ | ⟨f, hp, hwr, hjt⟩
    ·rw [hp] at f1 f2
     refine ⟨_, QyN k1 hl hp he, fun h => absurd h he, .top rfl (Evt.imp2 ((QmG (lb + 1)).and (Evt.ge 10)) (Evt.and hLp (j1.and f1)) fun n ⟨hW, hn⟩ ⟨a, b, d⟩ => pread n _ hW hn (pro n _ e _ rfl (fun x0 x1 x2 x3 x4 x5 hx => ?_) a b d)), .top rfl (Evt.imp2 (hWr.and hK) (Evt.and hLr (j2.and f2)) fun n ⟨a, b⟩ ⟨c, d, f⟩ => ?_)⟩
     ·simp only [List.cons.injEq] at hx
      obtain ⟨rfl, rfl, rfl, rfl, rfl, rfl, _⟩ := hx
      exact ⟨rfl, rfl, rfl, rfl⟩
     ·rw [QdX]
      refine stO _ a (stO _ rfl (stO _ rfl (stO _ rfl (stO _ rfl (stO _ rfl (stF rfl (stO _ rfl (stF (beqF (by simp [scv]; omega)) (stO _ rfl (stO _ rfl (stC rfl (stO _ rfl (stO _ b (stO _ (Qae ..) (stF kz (stO _ rfl (stO _ rfl (stC rfl (stO _ rfl (stO _ b (stC rfl (stO _ c (stO _ rfl (stT rfl (stO _ rfl (stC (by simp [scv]) (stC (decT (by simp [scv]; omega)) ?_)))))))))))))))))))))))))))
      rw [show ((((s.isEmpty, scv (Qak k :: t)) : Bool × List (List CV)).2.take (((((s.isEmpty, scv (Qak k :: t)) : Bool × List (List CV)).2.length : Int)).toNat)).drop 1) = scv t from Qlx (Qak k) t]
      refine stO _ d (stO _ f (stO _ rfl (stO _ rfl (stO _ rfl (stO _ rfl (stO _ rfl (stC rfl (stO _ rfl (stO _ rfl (stO _ rfl (stO _ rfl (stO _ rfl (stO _ rfl (stC rfl (stC rfl (stC rfl ?_))))))))))))))))
      rw [Qj3]
      refine stO _ (Qae ..) (stF (beqF he) ?_)
      rw [QgE]
      refine stO _ (Qae ..) (stT (bneT he) ?_)
      unfold endR
      rw [if_pos he]
    ·have htw := Qwo hjt
     rw [hp] at f1 f2
     have hsh := Qs7 htw hb
     have pk : POk (mkR k f) := ⟨hsh, by show ([] : Bs).length ≤ _; simp, by show (_ : Int) ≤ 0 ∧ (0 : Int) ≤ _; omega⟩
     rw [htw] at hp
     have rd := Qyp k1 hl hp
     rw [← htw] at rd
     have pr := Qh8 (lb + 1) (mkR k f) pk
     refine ⟨_, rd, fun _ => pk, .top rfl (Evt.imp2 ((QmG (lb + 1)).and (Evt.ge 10)) (Evt.and hLp (j1.and f1)) fun n ⟨hW, hn⟩ ⟨a, b, d⟩ => pread n _ hW hn (pro n _ 0 _ rfl (fun x0 x1 x2 x3 x4 x5 hx => ?_) a b d)), .top rfl (Evt.imp2 (hWr.and (Evt.and hK pr)) (Evt.and hLr (j2.and f2)) fun n ⟨a, b, g⟩ ⟨c, d, fz⟩ => ?_)⟩
     ·simp only [List.cons.injEq] at hx
      obtain ⟨rfl, rfl, rfl, rfl, rfl, rfl, _⟩ := hx
      exact ⟨rfl, rfl, rfl, rfl⟩
     ·rw [QdX]
      refine stO _ a (stO _ rfl (stO _ rfl (stO _ rfl (stO _ rfl (stO _ rfl (stF rfl (stO _ rfl (stF (beqF (by simp [scv]; omega)) (stO _ rfl (stO _ rfl (stC rfl (stO _ rfl (stO _ b (stO _ (Qae ..) (stF kz (stO _ rfl (stO _ rfl (stC rfl (stO _ rfl (stO _ b (stC rfl (stO _ c (stO _ rfl (stT rfl (stO _ rfl (stC (by simp [scv]) (stC (decT (by simp [scv]; omega)) ?_)))))))))))))))))))))))))))
      rw [show ((((s.isEmpty, scv (Qak k :: t)) : Bool × List (List CV)).2.take (((((s.isEmpty, scv (Qak k :: t)) : Bool × List (List CV)).2.length : Int)).toNat)).drop 1) = scv t from Qlx (Qak k) t]
      refine stO _ d (stO _ fz (stO _ rfl (stO _ rfl (stO _ rfl (stO _ rfl (stO _ rfl (stC rfl (stO _ rfl (stO _ rfl (stO _ rfl (stO _ rfl (stO _ rfl (stO _ rfl (stC rfl (stC rfl (stC rfl ?_))))))))))))))))
      rw [Qj3]
      unfold QdE at g
      unfold endR
      rw [if_neg (show ¬ ((mkR k f, (0 : Int)).2 ≠ 0) from fun h => h rfl)]
      refine stO _ (Qae ..) (stT rfl ?_)
      by_cases q : rpE (mkR k f) ≠ 0
      ·rw [if_pos q] at g
       rw [if_pos (show rpE (mkR k f, (0 : Int)).1 ≠ 0 from q)]
       refine stO _ g (stO _ rfl (stO _ rfl (stO _ rfl (stO _ rfl ?_))))
       rw [QgE]
       exact stO _ (Qae ..) (stT (bneT q) rfl)
      ·rw [if_neg q] at g
       rw [if_neg (show ¬ rpE (mkR k f, (0 : Int)).1 ≠ 0 from q)]
       refine stO _ g (stO _ rfl (stO _ rfl (stO _ rfl (stO _ rfl ?_))))
       rw [QgE]
       exact stO _ (Qae ..) (stF rfl rfl)
   ·have rd := QwW hk hl t
    have sp := QmI lb k hk t s.isEmpty hb
    obtain ⟨y, sr, sy⟩ := QsD lb k hk t s.isEmpty hb
    rw [hl] at hLp hLr
    refine ⟨_, rd, Qq8 hl hb, .top rfl (Evt.imp2 ((QmG (lb + 1)).and (Evt.ge 10)) (Evt.and hLp sp) fun n ⟨hW, hn⟩ ⟨a, b⟩ => pread n _ hW hn ?_), ?_⟩
    ·rw [QeH, Qlx]
     exact stF kz (stO _ a (stO _ rfl (stT rfl (stC (by simp [scv]) (stC (decT (by simp [scv]; omega)) (stO _ b (stO _ rfl (stO _ rfl (stO _ rfl (stO _ rfl (stO _ rfl (stC rfl (stO _ rfl (stO _ rfl (stO _ rfl (stO _ rfl (stO _ rfl (stO _ rfl (stO _ rfl (stO _ rfl (stO _ rfl rfl)))))))))))))))))))))
    ·have pre : ∀ n R, C (lb + 1) n QbE [.str s] = some (Qi7 s.isEmpty (some (Qak k :: t))) → C (lb + 1) n Qby [.str (Qak k)] = some (.int .i64 k) → C (lb + 1) n QaG [.int .i64 k] = some (.bool false) → C (lb + 1) n QcH [.list s.isEmpty (scv (Qak k :: t))] = some (.tup [rvcv y, .int .i64 (Qde k t).2]) →
       QiY (lb + 1) n s (.list s.isEmpty (scv (Qak k :: t))) (Qi7 s.isEmpty (some (Qak k :: t))) (.int .i64 0) [.str (Qak k)] (.str (Qak k)) (.int .i64 k) (.int .i64 (Qde k t).2) (.int .i64 y.kind) (.str y.car) (.int .i64 y.num) (.int .i64 y.fr) (.int .i64 y.to) (.int .i64 y.days) (.int .i64 y.min) (.str y.eq) (.list y.ln (y.legs.map lgcv)) = R →
       top (lb + 1) n Qa0 [.str s] = R := fun n R a b c d h => by
      rw [QdX]
      exact stO _ a (stO _ rfl (stO _ rfl (stO _ rfl (stO _ rfl (stO _ rfl (stF rfl (stO _ rfl (stF (beqF (by simp [scv]; omega)) (stO _ rfl (stO _ rfl (stC rfl (stO _ rfl (stO _ b (stO _ (Qae ..) (stF kz (stO _ rfl (stO _ rfl (stC rfl (stO _ rfl (stO _ b (stC rfl (stO _ c (stO _ rfl (stF rfl (stO _ d (stO _ rfl (stO _ rfl (stO _ rfl (stO _ rfl (stO _ rfl (stC rfl (stO _ rfl (stO _ rfl (stO _ rfl (stO _ rfl (stO _ rfl (stO _ rfl (stO _ rfl (stO _ rfl (stO _ rfl h))))))))))))))))))))))))))))))))))))))))
     by_cases he : (Qde k t).2 = 0
     ·have hy := sy he
      have pk := Qq8 hl hb he
      have pr := Qh8 (lb + 1) (Qde k t).1 pk
      rw [hy] at sr pre
      refine .top rfl (Evt.imp2 (hWr.and (Evt.and hK pr)) (Evt.and hLr sr) fun n ⟨a, b, g⟩ ⟨c, d⟩ => pre n _ a b c d ?_)
      rw [QjX]
      unfold QdE at g
      unfold endR
      rw [if_neg (fun h => h he), he]
      refine stO _ (Qae ..) (stT rfl ?_)
      by_cases q : rpE (Qde k t).1 ≠ 0
      ·rw [if_pos q] at g ⊢
       refine stO _ g (stO _ rfl (stO _ rfl (stO _ rfl (stO _ rfl ?_))))
       rw [QgH]
       exact stO _ (Qae ..) (stT (bneT q) rfl)
      ·rw [if_neg q] at g ⊢
       refine stO _ g (stO _ rfl (stO _ rfl (stO _ rfl (stO _ rfl ?_))))
       rw [QgH]
       exact stO _ (Qae ..) (stF rfl rfl)
     ·refine .top rfl (Evt.imp2 (hWr.and hK) (Evt.and hLr sr) fun n ⟨a, b⟩ ⟨c, d⟩ => pre n _ a b c d ?_)
      rw [QjX]
      refine stO _ (Qae ..) (stF (beqF he) ?_)
      rw [QgH]
      unfold endR
      rw [if_pos he]
      exact stO _ (Qae ..) (stT (bneT he) rfl)
theorem Qpk (s : Bs) (hs : s.length ≤ 10000000) : (Qdd s = none ∧ Ret (lb + 1) Qa6 [.str s] (QpB 3) ∧ Ret (lb + 1) Qa0 [.str s] (QpB 3)) ∨
  ∃ w x, Qdd s = some w ∧ RdR w x ∧ (x.2 = 0 → POk x.1) ∧ Ret (lb + 1) Qa6 [.str s] (endR x) ∧ Ret (lb + 1) Qa0 [.str s] (endR x) := by
 have h1 := QkN (lb + 1) s (by omega)
 have h2 := Qh2 (lb + 1) s hs
 cases hw : Qdd s with
 | none =>
  rw [hw] at h1 h2
  refine .inl ⟨rfl, .top rfl (h1.mono fun n a => ?_), .top rfl (h2.mono fun n a => ?_)⟩
  ·rw [Qfv]
   exact stO _ a (stO _ rfl (stO _ rfl (stO _ rfl (stO _ rfl (stO _ rfl (stT rfl rfl))))))
  ·rw [QdX]
   exact stO _ a (stO _ rfl (stO _ rfl (stO _ rfl (stO _ rfl (stO _ rfl (stT rfl rfl))))))
 | some w =>
  obtain ⟨x, rd, pk, rp, rr⟩ := QvS lb s w hw hs
  rw [hw] at h1
  refine .inr ⟨w, x, rfl, rd, pk, ?_, rr⟩
  unfold endR
  by_cases he : x.2 = 0
  ·have pr := Qe0 (lb + 1) x.1 (pk he)
   rw [if_neg (fun h => h he)]
   rw [he] at rp
   unfold QdE at pr
   refine .top rfl (Evt.imp2 h1 (Evt.and rp pr) fun n a ⟨b, g⟩ => ?_)
   rw [Qfv]
   refine stO _ a (stO _ rfl (stO _ rfl (stO _ rfl (stO _ rfl (stO _ rfl (stF rfl (stO _ b (stO _ rfl (stO _ rfl (stO _ rfl (stO _ rfl (stO _ rfl (stC rfl (stO _ rfl (stO _ rfl (stO _ rfl (stO _ rfl (stO _ rfl (stO _ rfl (stO _ rfl (stO _ rfl (stO _ rfl (stO _ rfl (stT rfl ?_))))))))))))))))))))))))
   by_cases q : rpE x.1 ≠ 0
   ·rw [if_pos q] at g ⊢
    refine stO _ g (stO _ rfl (stO _ rfl (stO _ rfl (stO _ rfl ?_))))
    rw [Qek]
    exact stO _ (Qae ..) (stT (bneT q) rfl)
   ·rw [if_neg q] at g ⊢
    refine stO _ g (stO _ rfl (stO _ rfl (stO _ rfl (stO _ rfl ?_))))
    rw [Qek]
    exact stO _ (Qae ..) (stF rfl rfl)
  ·rw [if_pos he]
   refine .top rfl (Evt.imp2 h1 rp fun n a b => ?_)
   rw [Qfv]
   refine stO _ a (stO _ rfl (stO _ rfl (stO _ rfl (stO _ rfl (stO _ rfl (stF rfl (stO _ b (stO _ rfl (stO _ rfl (stO _ rfl (stO _ rfl (stO _ rfl (stC rfl (stO _ rfl (stO _ rfl (stO _ rfl (stO _ rfl (stO _ rfl (stO _ rfl (stO _ rfl (stO _ rfl (stO _ rfl (stO _ (Qae ..) (stF (beqF he) ?_))))))))))))))))))))))))
   rw [Qek]
   exact stO _ (Qae ..) (stT (bneT he) rfl)
end Go.Proofs
set_option linter.unusedSimpArgs false
set_option linter.unusedVariables false
namespace Go.Proofs
open Go.Am
variable (lb : Nat)
def QkY (a b : Rv) : Bool := (a.kind == b.kind) && ((a.car == b.car) && ((a.num == b.num) && (((a.fr == b.fr) && ((a.to == b.to) && ((a.days == b.days) && true))) && ((a.min == b.min) && ((a.eq == b.eq) && lgsB a.legs b.legs)))))
theorem Qm7 (a b : Rv) (ha : a.legs.length ≤ 1000) (hb : b.legs.length ≤ 1000) : Ret lb Qfj [rvcv a, rvcv b] (.bool (QkY a b)) := by
 refine .top rfl ((Qod lb a.ln b.ln a.legs b.legs ha hb).mono fun n h => ?_)
 rw [QtF, h]
 unfold QkY
 generalize (a.kind == b.kind) = b1
 generalize (a.car == b.car) = b2
 generalize (a.num == b.num) = b3
 generalize ((a.fr == b.fr) && ((a.to == b.to) && ((a.days == b.days) && true))) = b4
 generalize (a.min == b.min) = b5
 generalize (a.eq == b.eq) = b6
 cases b1 <;> cases b2 <;> cases b3 <;> cases b4 <;> cases b5 <;> cases b6 <;> rfl
theorem Qu4 (a : Rv) : QkY a a = true := by simp [QkY, Qmy]
theorem Qw8 {a b : Rv} (h : EqR a b) : QkY a b = true := by
 obtain ⟨h1, h2, h3, h4, h5, h6, h7, h8, h9⟩ := h
 unfold QkY
 rw [h1, h2, h3, h4, h5, h6, h7, h8, h9]
 simp [Qmy]
theorem QyM {a b : Rv} (h : EqR a b) : rpE a = rpE b := by
 obtain ⟨h1, h2, h3, h4, h5, h6, h7, h8, h9⟩ := h
 cases a; cases b
 simp only at h1 h2 h3 h4 h5 h6 h7 h8 h9
 subst h1 h2 h3 h4 h5 h6 h7 h8 h9
 rfl
def rpT (r : Rv) : Bs := if rpE r ≠ 0 then [] else Qar (rwl r)
theorem Qxc (r : Rv) : QdE r = .tup [.str (rpT r), .int .i64 (rpE r)] := by
 unfold QdE rpT
 by_cases h : rpE r ≠ 0
 ·rw [if_pos h, if_pos h]
 ·rw [if_neg h, if_neg h, Decidable.not_not.1 h]
theorem Qsq {r : Rv} (h : rpE r = 0) : r.legs.length ≤ 1000 := by
 obtain ⟨_, _, _, _, h5, _, h7⟩ := Qix h
 cases hl : Qbu r.kind with
 | true =>
  obtain ⟨_, _, _, _, _, h6, _⟩ := QrZ (h5 hl)
  have : (QcP r).legs = r.legs := rfl
  rw [this] at h6
  omega
 | false => rw [(Qka h7).2.2 hl]; simp
theorem QsQ (s : Bs) (hs : s.length ≤ 10000000) : ∃ (c : Rv) (e : Int), Ret (lb + 1) Qa6 [.str s] (.tup [rvcv c, .int .i64 e]) ∧ Ret (lb + 1) Qa0 [.str s] (.tup [rvcv c, .int .i64 e]) ∧ c.legs.length ≤ 1000 ∧ (e = 0 → rpE c = 0 ∧ s = Qar (rwl c) ∧ POk c) := by
 have z : ∀ e : Int, QpB e = .tup [rvcv (sR 0 [] 0 (0, 0, 0) 0 []), .int .i64 e] := fun e => rfl
 rcases Qpk lb s hs with ⟨_, h1, h2⟩ | ⟨w, x, hw, rd, pk, h1, h2⟩
 ·rw [z] at h1 h2
  exact ⟨_, 3, h1, h2, by show ([] : List Lg).length ≤ _; simp, fun h => by cases h⟩
 ·unfold endR at h1 h2
  by_cases he : x.2 ≠ 0
  ·rw [if_pos he, z] at h1 h2
   exact ⟨_, _, h1, h2, by show ([] : List Lg).length ≤ _; simp, fun h => absurd h he⟩
  rw [if_neg he] at h1 h2
  by_cases hp : rpE x.1 ≠ 0
  ·rw [if_pos hp, z] at h1 h2
   exact ⟨_, _, h1, h2, by show ([] : List Lg).length ≤ _; simp, fun h => absurd h hp⟩
  rw [if_neg hp] at h1 h2
  have he := Decidable.not_not.1 he
  have hp := Decidable.not_not.1 hp
  refine ⟨x.1, 0, h1, h2, Qsq hp, fun _ => ⟨hp, ?_, pk he⟩⟩
  rcases rd with ⟨h, _⟩ | ⟨_, h, _⟩
  ·exact absurd he h
  ·rw [Qev hw, ← h hp]
theorem Qtw {r : Rv} (h : rpE r = 0) (hp : POk r) : ∃ c, Ret (lb + 1) Qa6 [.str (Qar (rwl r))] (.tup [rvcv c, .int .i64 0]) ∧ QkY c r = true ∧ c.legs.length ≤ 1000 := by
 obtain ⟨w1, w2⟩ := Qpg hp h
 have w3 := Qhx (rwl r)
 rcases Qpk lb (Qar (rwl r)) (by omega) with ⟨hn, _⟩ | ⟨w, x, hw, rd, pk, h1, _⟩
 ·rw [Qez] at hn; cases hn
 ·rw [Qez, Option.some.injEq] at hw
  rcases rd with ⟨_, hb⟩ | ⟨he, _, hg⟩
  ·exact absurd hw.symm (hb r h hp.min)
  ·have e := hg r h hp.min hw.symm
   have ep : rpE x.1 = 0 := by rw [QyM e]; exact h
   unfold endR at h1
   rw [if_neg (fun q => q he), if_neg (fun q => q ep)] at h1
   exact ⟨x.1, h1, Qw8 e, Qsq ep⟩
theorem Qol (r : Rv) (hr : ArgR r) (hm : -9223372036854775808 ≤ r.min ∧ r.min ≤ 9223372036854775807) (s : Bs) : Ret (lb + 1) Qbx [rvcv r, .str s] (.bool true) := by
 have aw := QvC (lb + 1)
 have sm := QrI (lb + 1) r hr
 cases hS : QpW r with
 | false =>
  refine .top rfl (Evt.imp2 sm aw fun n h1 h2 => ?_)
  rw [Qei]
  exact stO _ h1 (stO _ rfl (stT (by rw [hS]; rfl) (stO _ h2 rfl)))
 | true =>
  by_cases hs : s.length > 400
  ·refine .top rfl (Evt.imp2 sm aw fun n h1 h2 => ?_)
   rw [Qei]
   exact stO _ h1 (stO _ rfl (stF (by rw [hS]; rfl) (stT (decT (by omega)) (stO _ h2 rfl))))
  have hS2 := hS
  unfold QpW at hS2
  simp only [Bool.and_eq_true, Bool.not_eq_true', decide_eq_true_eq] at hS2
  obtain ⟨c1, c2, c3, _⟩ := QuO hS2.2
  have hp : POk r := ⟨⟨by have : r.car.length ≤ 400 := c1; show r.car.length ≤ _; omega, fun x hx => by have := c2 x hx; omega⟩, by omega, hm⟩
  have hl : r.legs.length ≤ 1000 := by have : r.legs.length ≤ 12 := c3; omega
  have p1 := Qe0 (lb + 1) r hp
  have p2 := Qh8 (lb + 1) r hp
  rw [Qxc] at p1 p2
  obtain ⟨c, e, q1, q2, q3, q4⟩ := QsQ lb s (by omega)
  have sc := Qm7 (lb + 1) c c q3 q3
  rw [Qu4] at sc
  have half : Evt fun n => rpE r = 0 → ∃ d, C (lb + 1) n Qa6 [.str (rpT r)] = some (.tup [rvcv d, .int .i64 0]) ∧ C (lb + 1) n Qfj [rvcv d, rvcv r] = some (.bool true) := by
   by_cases h0 : rpE r = 0
   ·obtain ⟨d, d1, d2, d3⟩ := Qtw lb h0 hp
    have sd := Qm7 (lb + 1) d r d3 hl
    rw [d2] at sd
    have e : rpT r = Qar (rwl r) := by unfold rpT; rw [if_neg (fun h => h h0)]
    rw [← e] at d1
    exact Evt.imp2 d1 sd fun n a b _ => ⟨d, a, b⟩
   ·exact .all fun n h => absurd h h0
  have pc : Evt fun n => e = 0 → C (lb + 1) n Qa7 [rvcv c] = some (.tup [.str s, .int .i64 0]) := by
   by_cases h0 : e = 0
   ·obtain ⟨k1, k2, k3⟩ := q4 h0
    have pr := Qe0 (lb + 1) c k3
    unfold QdE at pr
    rw [if_neg (fun h => h k1), ← k2] at pr
    exact pr.mono fun n a _ => a
   ·exact .all fun n h => absurd h h0
  refine .top rfl (Evt.imp2 ((sm.and aw).and (p1.and p2)) (Evt.and (q1.and q2) (Evt.and (sc.and half) pc)) fun n ⟨⟨h1, h2⟩, h3, h4⟩ ⟨⟨h5, h6⟩, ⟨h7, h8⟩, h9⟩ => ?_)
  rw [Qei]
  refine stO _ h1 (stO _ rfl (stF (by rw [hS]; rfl) (stF (decF (by omega)) (stO _ h3 (stO _ rfl (stO _ rfl (stO _ rfl (stO _ rfl (stO _ h4 (stO _ rfl (stO _ rfl (stO _ rfl (stO _ rfl ?_)))))))))))))
  refine stO _ h5 (stO _ rfl (stO _ rfl (stO _ rfl (stO _ rfl (stO _ rfl (stC rfl (stO _ rfl (stO _ rfl (stO _ rfl (stO _ rfl (stO _ rfl (stO _ rfl (stO _ rfl (stO _ rfl (stO _ rfl ?_)))))))))))))))
  refine stO _ h6 (stO _ rfl (stO _ rfl (stO _ rfl (stO _ rfl (stO _ rfl (stC rfl (stO _ rfl (stO _ rfl (stO _ rfl (stO _ rfl (stO _ rfl (stO _ rfl (stO _ rfl (stO _ rfl (stO _ rfl ?_)))))))))))))))
  refine stO _ (QbO _) (stO _ (QbO _) (stF (by simp) (stO _ (Qae ..) (stO _ (Qae ..) (stF (bneF rfl) (stO _ h7 (stO _ rfl (stF rfl (stO _ (Qae ..) (stO _ (Qae ..) (stF (bneF rfl) (stO _ (Qae ..) ?_))))))))))))
  by_cases he : e = 0
  ·refine stT (beqT he) (stO _ (h9 he) (stO _ rfl (stO _ rfl (stO _ rfl (stO _ rfl (stO _ (QbO _) (stF (by simp) (stO _ (Qae ..) (stF rfl ?_)))))))))
   rw [Qjm]
   by_cases h0 : rpE r = 0
   ·obtain ⟨d, d1, d2⟩ := h8 h0
    exact stO _ (Qae ..) (stF (bneF h0) (stO _ d1 (stO _ rfl (stO _ rfl (stO _ rfl (stO _ rfl (stO _ rfl (stC rfl (stO _ rfl (stO _ rfl (stO _ rfl (stO _ rfl (stO _ rfl (stO _ rfl (stO _ rfl (stO _ rfl (stO _ rfl (stO _ d2 (stO _ rfl (stT rfl (stO _ (Qae ..) (stT rfl (stO _ h2 rfl)))))))))))))))))))))))
   ·exact stO _ (Qae ..) (stT (bneT h0) (stO _ (QbO _) (stT (by unfold rpT; rw [if_pos h0]; rfl) (stO _ h2 rfl))))
  ·refine stF (beqF he) ?_
   rw [Qjl]
   by_cases h0 : rpE r = 0
   ·obtain ⟨d, d1, d2⟩ := h8 h0
    exact stO _ (Qae ..) (stF (bneF h0) (stO _ d1 (stO _ rfl (stO _ rfl (stO _ rfl (stO _ rfl (stO _ rfl (stC rfl (stO _ rfl (stO _ rfl (stO _ rfl (stO _ rfl (stO _ rfl (stO _ rfl (stO _ rfl (stO _ rfl (stO _ rfl (stO _ d2 (stO _ rfl (stT rfl (stO _ (Qae ..) (stT rfl (stO _ h2 rfl)))))))))))))))))))))))
   ·exact stO _ (Qae ..) (stT (bneT h0) (stO _ (QbO _) (stT (by unfold rpT; rw [if_pos h0]; rfl) (stO _ h2 rfl))))
end Go.Proofs
