/- Check of chapter 22 and of its reference, on plain data: the same faults. Conditions: as each says. -/
import Derived.Test.YtgkcpfhahphaiaaDoorRa
set_option linter.unusedSimpArgs false
namespace Go.Proofs
open Go.Am
variable (lb : Bool)
def icv (l : List Int) : List (List CV) := l.map fun e => [CV.int .i64 e]
def lstI (l : List Int) : CV := .list l.isEmpty (icv l)
abbrev Ft := Int × Bs
def fcv (l : List Ft) : List (List CV) := l.map fun p => [CV.int .i64 p.1, CV.str p.2]
def lstF (l : List Ft) : CV := .list l.isEmpty (fcv l)
theorem icv_snoc (E : List Int) (e : Int) : icv E ++ [[CV.int .i64 e]] = icv (E ++ [e]) := by simp [icv]
theorem fcv_snoc (F : List Ft) (e : Int) (s : Bs) : fcv F ++ [[CV.int .i64 e, CV.str s]] = fcv (F ++ [(e, s)]) := by simp [fcv]
theorem nil_snoc {α : Type} (b : Bool) (E : List α) (e : α) : (b && false) = (E ++ [e]).isEmpty := by cases b <;> simp
theorem icv_len (E : List Int) : (icv E).length = E.length := by simp [icv]
theorem fcv_len (F : List Ft) : (fcv F).length = F.length := by simp [fcv]
def linkWord : Bs := [108, 105, 110, 107, 32]
def linkE (seen : List Lk) (x : Lk) : List Int :=
  (if airportB x.1 && airportB x.2 then [] else [5]) ++ ((if x.1 = x.2 then [2] else []) ++ (if x ∈ seen then [6] else []))
theorem linkE_len (p : List Lk) (x : Lk) : (linkE p x).length ≤ 3 := by
  unfold linkE
  simp only [List.length_append]
  split <;> split <;> split <;> simp
def linkF (seen : List Lk) (x : Lk) : List Ft := (linkE seen x).map fun e => (e, linkWord ++ Lib.itoa (seen.length : Int))
def loopF (p : List Lk) : List Lk → List Ft
  | [] => []
  | x :: t => linkF p x ++ loopF (p ++ [x]) t
def milesF (m : Int) : List Ft := if m < 0 ∨ m > 99999 then [(2, [109, 105, 108, 101, 115])] else []
def numF (m : Int) : List Ft := if m < 1 ∨ m > 9999 then [(2, [110, 117, 109, 98, 101, 114])] else []
def linksF (l : List Lk) : List Ft := if l.length > 128 then [(4, [108, 105, 110, 107, 115])] else loopF [] l
def checkF (num : Int) (l : List Lk) (miles : Int) : List Ft := numF num ++ (linksF l ++ milesF miles)
theorem room_small {n b : Nat} (hn : n ≤ 1000000) (hb : b ≤ 1000) : room n b = true := by
  unfold room
  have : n * b ≤ 1000000 * 1000 := Nat.mul_le_mul hn hb
  exact decT (by omega)

theorem link_J2 (an : Bool) (l p t : List Lk) (x : Lk) (h : p ++ t = l) (hl : l.length ≤ 1000000000) (c : List CV) (E : List Int) (hE : E.length ≤ 10) :
    Evt fun n => routing_link_J2 lb n an (lcv l) (p.length : Int) c (.str x.1) (.str x.2) E.isEmpty (icv E) = some (lstI (E ++ if x ∈ p then [6] else [])) := by
  refine .eq (fun n => by rw [routing_link_J2_eq]) ?_
  have hpl : p.length ≤ l.length := by rw [← h]; simp
  have htk : ((lcv l).take ((p.length : Int)).toNat).drop 0 = lcv p := by
    rw [Int.toNat_natCast, ← h, List.drop_zero]
    simp [lcv]
  rw [lcv_all, decT (by rw [lcv_len]; omega), htk]
  simp only [chkO_t]
  refine .call (contains_link_ret lb an p x (by omega)) ?_
  simp only [asB_b, optO_s]
  by_cases hx : x ∈ p
  · rw [decT hx, cond_true, if_pos hx, room_small (by rw [icv_len]; omega) (by omega), icv_snoc, nil_snoc E.isEmpty E 6]
    exact .done
  · rw [decF hx, cond_false, if_neg hx, List.append_nil]
    exact .done
theorem link_J1 (an : Bool) (l p t : List Lk) (x : Lk) (h : p ++ t = l) (hl : l.length ≤ 1000000000) (c : List CV) (E : List Int) (hE : E.length ≤ 9) :
    Evt fun n => routing_link_J1 lb n an (lcv l) (p.length : Int) c (.str x.1) (.str x.2) E.isEmpty (icv E) = some (lstI (E ++ ((if x.1 = x.2 then [2] else []) ++ if x ∈ p then [6] else []))) := by
  refine .eq (fun n => by rw [routing_link_J1_eq]) ?_
  simp only [asS_s, optO_s]
  by_cases hx : x.1 = x.2
  · have hx2 : (x.1 == x.2) = true := by simpa using hx
    simp only [hx2, cond_true, if_pos hx, room_small (n := (icv E).length + 1) (b := 8) (by rw [icv_len]; omega) (by omega), chkO_t, icv_snoc]
    rw [nil_snoc E.isEmpty E 2, ← List.append_assoc]
    exact link_J2 lb an l p t x h hl c (E ++ [2]) (by simp; omega)
  · have hx2 : (x.1 == x.2) = false := by simpa using hx
    simp only [hx2, cond_false, if_neg hx, List.nil_append]
    exact link_J2 lb an l p t x h hl c E (by omega)
theorem link_ret (an : Bool) (l p t : List Lk) (x : Lk) (h : p ++ x :: t = l) (hl : l.length ≤ 1000000000) (h1 : x.1.length ≤ 1000000000) (h2 : x.2.length ≤ 1000000000) :
    Ret lb F_routing_link [.list an (lcv l), .int .i64 (p.length : Int)] (lstI (linkE p x)) := by
  refine .top rfl (.eq (fun n => by rw [routing_link_eq]) ?_)
  have hat : atL (lcv l) (p.length : Int) = some [.str x.1, .str x.2] := atL_ok (by rw [← h]; simp [lcv, lenc])
  simp only [hat, optO_s, List.length_cons, List.length_nil, Nat.zero_add, beq_self_eq_true, chkO_t, get2a, get2b]
  have j5 := link_J1 lb an l p (x :: t) x h hl [.str x.1, .str x.2] [5] (by simp)
  have j0 := link_J1 lb an l p (x :: t) x h hl [.str x.1, .str x.2] [] (by simp)
  refine .call (text_Airport_ret lb x.1 (by omega)) ?_
  simp only [asB_b, optO_s]
  unfold linkE
  cases ha : airportB x.1 with
  | false =>
    simp only [Bool.not_false, cond_true, Bool.false_and]
    exact j5
  | true =>
    simp only [Bool.not_true, cond_false, Bool.true_and]
    refine .call (text_Airport_ret lb x.2 (by omega)) ?_
    simp only [asB_b, optO_s]
    cases hb : airportB x.2 with
    | false =>
      simp only [Bool.not_false, cond_true]
      exact j5
    | true =>
      simp only [Bool.not_true, cond_false]
      exact j0
end Go.Proofs
