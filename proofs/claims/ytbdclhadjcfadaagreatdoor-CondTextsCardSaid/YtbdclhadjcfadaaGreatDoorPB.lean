/- Chapter 4: weekdays, there and back. Conditions: none. -/
import Derived.Test.YtbdclhadjcfadaaGreatDoorPA
set_option linter.unusedVariables false
namespace Go.Proofs
open Go.Am
theorem QA0:∀ d:Fin 128,wkV (-1) 0 (dayS d.val 7) = some (d.val:Int) := by decide +kernel
end Go.Proofs
set_option linter.unusedVariables false
namespace Go.Proofs
open Go.Am
theorem QrF (y:Int):∀ (k m:Nat) (rest:Int) (t:Int × Int × Int),Qbt y k (m:Int) rest = .inl t → (m:Int) + 1 ≤ t.2.1 ∧ rest = Qa4 y (t.2.1 - 1).toNat - Qa4 y m + (t.2.2 - 1)
 | 0,m,rest,t,h => by cases h
 | k + 1,m,rest,t,h => by
  unfold Qbt at h
  split at h
  ·cases h
   refine ⟨Int.le_refl _, ?_⟩
   show rest = Qa4 y ((m:Int) + 1 - 1).toNat - Qa4 y m + (rest + 1 - 1)
   rw [show ((m:Int) + 1 - 1).toNat = m by omega]
   omega
  ·obtain ⟨h1,h2⟩ := QrF y k (m + 1) (rest - lenF y ((m:Int) + 1)) t h
   have h3:Qa4 y (m + 1) = Qa4 y m + lenF y ((m:Int) + 1) := rfl
   refine ⟨by omega,by omega⟩
theorem QwQ {D:Int} (h0:0 ≤ D) (hD:D < 36525):Qjv (Qa0 D).1 (Qa0 D).2.1 (Qa0 D).2.2 ∧ dayN (Qa0 D).1 (Qa0 D).2.1 (Qa0 D).2.2 = D := by
 have hr := Qe1 h0 hD
 have hy := Qki h0 hD
 have hi := Qk2 h0 hD
 have h := (Qle (Qd0 D) 12 0 (D - QaA (Qd0 D)) (by have := hy.2.2.1; omega)).1 _ hi
 obtain ⟨h1,h2,h3,h4,h5⟩ := h
 obtain ⟨_,hv⟩ := QrF (Qd0 D) 12 0 (D - QaA (Qd0 D)) (Qa0 D) hi
 have hz:Qa4 (Qd0 D) 0 = 0 := rfl
 refine ⟨⟨hr.1,hr.2.1,hr.2.2.1,hr.2.2.2.1,hr.2.2.2.2.1,by rw [h1]; exact h5⟩, ?_⟩
 unfold dayN
 rw [h1]
 omega
end Go.Proofs
set_option linter.unusedVariables false
namespace Go.Proofs
open Go.Am
end Go.Proofs
set_option linter.unusedVariables false
namespace Go.Proofs
open Go.Am
theorem Qzz:∀ z:Fin 100,digV 0 (twoS (z.val:Int)) = some (z.val:Int) := by decide +kernel
theorem Qye:∀ z:Fin 100,digV 0 (twoS (IntKind.wrap .i64 (Int.tdiv (2000 + (z.val:Int)) 100)) ++ twoS (Int.tmod (2000 + (z.val:Int)) 100)) = some (2000 + (z.val:Int)) := by decide +kernel
theorem Qq3 {z:Int} (h:0 ≤ z ∧ z < 100):digV 0 (twoS z) = some z := by
 obtain ⟨k,rfl⟩ : ∃ k:Nat,z = k := ⟨z.toNat,by omega⟩
 exact Qzz ⟨k,by omega⟩
theorem QwE {y:Int} (h:2000 ≤ y ∧ y ≤ 2099):digV 0 (twoS (IntKind.wrap .i64 (Int.tdiv y 100)) ++ twoS (Int.tmod y 100)) = some y := by
 obtain ⟨k,rfl⟩ : ∃ k:Nat,y = 2000 + (k:Int) := ⟨(y - 2000).toNat,by omega⟩
 exact Qye ⟨k,by omega⟩
theorem Qrx {D:Int} (h0:0 ≤ D) (hD:D < 36525):QfY (QbO D) = .tup [.int .i64 D, .int .i64 0] := by
 obtain ⟨hg,hd⟩ := QwQ h0 hD
 have hr := Qe1 h0 hD
 have a1:((QbO D).take 4).drop 0 = twoS (IntKind.wrap .i64 (Int.tdiv (Qa0 D).1 100)) ++ twoS (Int.tmod (Qa0 D).1 100) := rfl
 have a2:((QbO D).take 7).drop 5 = twoS (Qa0 D).2.1 := rfl
 have a3:((QbO D).take (QbO D).length).drop 8 = twoS (Qa0 D).2.2 := rfl
 unfold QfY
 rw [if_pos ⟨QgC D,rfl,rfl⟩,a1,a2,a3,QwE (by omega),Qq3 (by omega),Qq3 (by omega)]
 show dayV (Qa0 D).1 (Qa0 D).2.1 (Qa0 D).2.2 = _
 unfold dayV
 rw [if_pos hg,hd]
end Go.Proofs
set_option linter.unusedVariables false
namespace Go.Proofs
open Go.Am
theorem Qz2:∀ z:Fin 100,(47:UInt8) ∉ twoS (z.val:Int) := by decide +kernel
theorem QBI:∀ z:Fin 100,(47:UInt8) ∉ twoS (IntKind.wrap .i64 (Int.tdiv (2000 + (z.val:Int)) 100)) ++ twoS (Int.tmod (2000 + (z.val:Int)) 100) := by decide +kernel
theorem QCj:∀ d:Fin 128,(47:UInt8) ∉ dayS d.val 7 := by decide +kernel
theorem Qv7 {D:Int} (h0:0 ≤ D) (hD:D < 36525):(47:UInt8) ∉ QbO D := by
 have hr := Qe1 h0 hD
 obtain ⟨y,hy⟩ : ∃ k:Nat,(Qa0 D).1 = 2000 + (k:Int) := ⟨((Qa0 D).1 - 2000).toNat,by omega⟩
 obtain ⟨m,hm⟩ : ∃ k:Nat,(Qa0 D).2.1 = k := ⟨((Qa0 D).2.1).toNat,by omega⟩
 obtain ⟨d,hd⟩ : ∃ k:Nat,(Qa0 D).2.2 = k := ⟨((Qa0 D).2.2).toNat,by omega⟩
 have h1 := QBI ⟨y,by omega⟩
 have h2 := Qz2 ⟨m,by omega⟩
 have h3 := Qz2 ⟨d,by omega⟩
 simp only at h1 h2 h3
 unfold QbO
 rw [hy,hm,hd]
 simp only [List.mem_append,not_or] at h1 ⊢
 exact ⟨⟨⟨⟨h1,by decide⟩,h2⟩,by decide⟩,h3⟩
theorem Qok {c:UInt8} : ∀ {a:Bs},c ∉ a → QaJ c a = [a]
 | [],_ => rfl
 | x :: a,h => by
  have h1:x ≠ c := fun e => h (by simp [e])
  unfold QaJ
  rw [if_neg h1,Qok (fun e => h (List.mem_cons_of_mem _ e))]
theorem Qkz {c:UInt8} {r:Bs} : ∀ {a:Bs},c ∉ a → QaJ c (a ++ c :: r) = a :: QaJ c r
 | [],_ => by simp [QaJ]
 | x :: a,h => by
  have h1:x ≠ c := fun e => h (by simp [e])
  have h2:QaJ c (x :: (a ++ c :: r)) = if x = c then [] :: QaJ c (a ++ c :: r) else match QaJ c (a ++ c :: r) with
   | w :: ws => (x :: w) :: ws
   | [] => [[x]] := rfl
  rw [List.cons_append,h2,if_neg h1,Qkz (fun e => h (List.mem_cons_of_mem _ e))]
theorem QzT {fr to days:Int} (h:perE fr to days = 0):perP (perS fr to days) = .tup [.agg [.int .i64 fr, .int .i64 to, .int .i64 days], .int .i64 0] := by
 obtain ⟨b1,b2,b3,b4,b5⟩ := QoF h
 obtain ⟨d,rfl⟩ : ∃ d:Nat,days = d := ⟨days.toNat,by omega⟩
 have hs:QaJ 47 (perS fr to (d:Int)) = [QbO fr,QbO to,dayS d 7] := by
  unfold perS
  rw [if_neg (fun e => e h),Int.toNat_natCast,show ((QbO fr ++ [47]) ++ QbO to ++ [47]) ++ dayS d 7 = QbO fr ++ 47 :: (QbO to ++ 47 :: dayS d 7) by simp,Qkz (Qv7 (by omega) (by omega)),Qkz (Qv7 (by omega) (by omega)),Qok (QCj ⟨d,by omega⟩)]
 have e1:pD (QbO fr) = (fr,0) := by unfold pD; rw [Qrx (by omega) (by omega)]
 have e2:pD (QbO to) = (to,0) := by unfold pD; rw [Qrx (by omega) (by omega)]
 have e3:wkR (dayS d 7) = some (d:Int) := by
  have h1 := QA0 ⟨d,by omega⟩
  unfold wkR
  by_cases hc:dayS d 7 = []
  ·simp only [hc] at h1
   have:(0:Int) = (d:Int) := by simpa [wkV] using h1
   omega
  ·rw [if_neg hc]
   exact h1
 unfold perP
 rw [hs]
 simp only
 rw [e1,e2,e3]
 simp only
 rw [if_neg (by simp),if_neg (by simp)]
 unfold finV
 simp only
 rw [if_neg (fun e => e h)]
end Go.Proofs
