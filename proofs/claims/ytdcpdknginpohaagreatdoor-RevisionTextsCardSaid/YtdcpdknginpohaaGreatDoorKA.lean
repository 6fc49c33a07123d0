/- Chapter 7 on plain data: airports, zones, periods; finding an airport, the minute UTC of a local minute, the days of a period. Conditions: as each says. -/
import Derived.Test.YtdcpdknginpohaaGreatDoorGa
import Derived.Test.YtdcpdknginpohaaGreatDoorRA
set_option linter.unusedSimpArgs false
namespace Go.Proofs
open Go.Am
variable (lb : Nat)
abbrev Sh := Int × Int
def shcv (s : Sh) : List CV := [.int .i64 s.1, .int .i64 s.2]
structure Ap where
 code : Bs
 city : Bs
 ctry : Bs
 off : Int
 sn : Bool
 sh : List Sh
def apcv (a : Ap) : List CV := [.str a.code, .str a.city, .str a.ctry, .int .i64 a.off, .list a.sn (a.sh.map shcv)]
structure Di where
 fro : Bs
 to : Bs
 mi : Int
def dicv (d : Di) : List CV := [.str d.fro, .str d.to, .int .i64 d.mi]
structure Pc where
 an : Bool
 aps : List Ap
 dn : Bool
 dis : List Di
abbrev pcv (p : Pc) : CV := .agg [.list p.an (p.aps.map apcv), .list p.dn (p.dis.map dicv)]
structure Lg where
 fro : Bs
 to : Bs
 dep : Int
 arr : Int
 eq : Bs
def lgcv (l : Lg) : List CV := [.str l.fro, .str l.to, .int .i64 l.dep, .int .i64 l.arr, .str l.eq]
structure Fl where
 car : Bs
 num : Int
 fr : Int
 to : Int
 days : Int
 ln : Bool
 legs : List Lg
abbrev flcv (f : Fl) : CV := .agg [.str f.car, .int .i64 f.num, .int .i64 f.fr, .int .i64 f.to, .int .i64 f.days, .list f.ln (f.legs.map lgcv)]
end Go.Proofs
set_option linter.unusedSimpArgs false
namespace Go.Proofs
open Go.Am
variable (lb : Nat)
theorem Qel (fr to days : Int) : Ret lb Qdn [.agg [.int .i64 fr, .int .i64 to, .int .i64 days]] (.int .i64 (perE fr to days)) := by
 refine .top rfl (.eq (fun n => by rw [QpR]) (.of ?_))
 unfold perE
 by_cases h1 : fr < 0
 ·rw [decT h1, cond_true, if_pos (.inl h1)]
 by_cases h2 : to < fr
 ·rw [decF h1, cond_false, decT h2, cond_true, if_pos (.inr (.inl h2))]
 by_cases h3 : to ≥ 36525
 ·rw [decF h1, cond_false, decF h2, cond_false, decT h3, cond_true, if_pos (.inr (.inr h3))]
 rw [decF h1, cond_false, decF h2, cond_false, decF h3, cond_false, if_neg (by omega), Qag (by omega) (by omega)]
 by_cases h4 : to - fr ≥ 800
 ·rw [decT h4, cond_true, if_pos h4]
 rw [decF h4, cond_false, if_neg h4]
 by_cases h5 : days < 1
 ·rw [decT h5, cond_true, if_pos (.inl h5)]
 by_cases h6 : days > 127
 ·rw [decF h5, cond_false, decT h6, cond_true, if_pos (.inr h6)]
 rw [decF h5, cond_false, decF h6, cond_false, if_neg (by omega)]
theorem QfL (fr to days : Int) : Ret lb Qcf [.agg [.int .i64 fr, .int .i64 to, .int .i64 days]] (.int .i64 (perE fr to days)) := by
 refine .top rfl (.eq (fun n => by rw [Qte]) (.of ?_))
 unfold perE
 by_cases h1 : fr < 0
 ·rw [decT h1, cond_true, if_pos (.inl h1)]
 by_cases h2 : fr > to
 ·rw [decF h1, cond_false, decT h2, cond_true, if_pos (.inr (.inl h2))]
 by_cases h3 : to ≥ 36525
 ·rw [decF h1, cond_false, decF h2, cond_false, decT h3, cond_true, if_pos (.inr (.inr h3))]
 rw [decF h1, cond_false, decF h2, cond_false, decF h3, cond_false, if_neg (by omega), Qag (by omega) (by omega)]
 by_cases h4 : to - fr ≥ 800
 ·rw [decT h4, cond_true, if_pos h4]
 rw [decF h4, cond_false, if_neg h4]
 by_cases h5 : days < 1
 ·rw [decT h5, cond_true, if_pos (.inl h5)]
 by_cases h6 : days > 127
 ·rw [decF h5, cond_false, decT h6, cond_true, if_pos (.inr h6)]
 rw [decF h5, cond_false, decF h6, cond_false, if_neg (by omega)]
theorem Qx7 {n b : Nat} (h : n ≤ 1000000) (h2 : b ≤ 1000) : room n b = true := by
 unfold room
 have : n * b ≤ 1000000 * 1000 := Nat.mul_le_mul h h2
 exact decide_eq_true (by omega)
theorem Qw7 {α : Type} (l : List α) (x : α) (b : Bool) : (b && false) = (l ++ [x]).isEmpty := by simp
end Go.Proofs
set_option linter.unusedSimpArgs false
namespace Go.Proofs
open Go.Am
variable (lb : Nat)
theorem QhP (m : Int) : Ret lb QbY [.int .i64 m] (.bool (decide (-1440 ≤ m ∧ m < 5760))) := by
 refine .top rfl (.eq (fun n => by rw [Qnu]) (.of ?_))
 by_cases h : m ≥ -1440
 ·rw [decT h, cond_true]
  congr 2
  exact decide_eq_decide.2 ⟨fun q => ⟨h, q⟩, fun q => q.2⟩
 ·rw [decF h, cond_false, decF (by omega)]
theorem QnL (m : Int) : Ret lb Qdh [.int .i64 m] (.bool (!decide (-1440 ≤ m ∧ m < 5760))) := by
 refine .top rfl (.eq (fun n => by rw [Qvo]) (.of ?_))
 by_cases h : m < -1440
 ·rw [decT h, cond_true, decF (by omega)]
  rfl
 ·rw [decF h, cond_false, ← decide_not]
  congr 2
  exact decide_eq_decide.2 (by omega)
end Go.Proofs
