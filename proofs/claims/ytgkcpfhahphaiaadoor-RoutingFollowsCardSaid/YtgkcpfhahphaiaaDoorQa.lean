/- The search of ways on plain data: pieces. Conditions: none. -/
import Derived.Test.YtgkcpfhahphaiaaDoorRi
import Derived.Test.YtgkcpfhahphaiaaDoorRf
import Derived.Test.YtgkcpfhahphaiaaDoorGw
namespace Go.Proofs
open Go.Am
variable (lb : Bool)
def wenc (w : List Bs) : List CV := [CV.list false (scv w)]
def wcv (W : Ws) : List (List CV) := W.map wenc
theorem wcv_len (W : Ws) : (wcv W).length = W.length := by simp [wcv]
theorem wcv_snoc (W : Ws) (w : List Bs) : wcv W ++ [[CV.list false (scv w)]] = wcv (W ++ [w]) := by simp [wcv, wenc]
theorem wcv_dec (W : Ws) : decide (((wcv W).length : Int) ≤ 1024) = decide (W.length ≤ 1024) := decide_eq_decide.2 (by rw [wcv_len]; omega)
theorem lcv_at {l : List Lk} {i : Nat} {x : Lk} (h : l[i]? = some x) : atL (lcv l) (i : Int) = some [CV.str x.1, CV.str x.2] := atL_ok (by simp [lcv, lenc, h])
theorem wcv_at {W : Ws} {i : Nat} {w : List Bs} (h : W[i]? = some w) : atL (wcv W) (i : Int) = some [CV.list false (scv w)] := atL_ok (by simp [wcv, wenc, h])
theorem last_at {w : List Bs} (h : w ≠ []) (hl : w.length ≤ 1000) : atL (scv w) (IntKind.wrap .i64 (((scv w).length : Int) - 1)) = some [.str (lastB w)] := by
  have hp := List.length_pos_iff.2 h
  rw [scv_len, wrap64 (by omega) (by omega), show (w.length : Int) - 1 = ((w.length - 1 : Nat) : Int) by omega]
  refine atL_ok (scv_get ?_)
  unfold lastB
  rw [List.getLast?_eq_getElem?, List.getElem?_eq_getElem (by omega)]
  rfl
theorem goB_skip (f : List Bs → Ws → Bool × Ws) (w : List Bs) {x : Lk} (t : List Lk) {W : Ws} (h : x.1 ≠ lastB w ∨ x.2 ∈ w) : goB f w (x :: t) W = goB f w t W := by
  show (if _ then _ else _) = _
  rw [if_pos h]
theorem goB_stop (f : List Bs → Ws → Bool × Ws) (w : List Bs) {x : Lk} (t : List Lk) {W : Ws} (h : x.1 = lastB w) (h2 : x.2 ∉ w) (hb : (f (w ++ [x.2]) W).1 = false) : goB f w (x :: t) W = (false, (f (w ++ [x.2]) W).2) := by
  show (if _ then _ else _) = _
  rw [if_neg (fun e => e.elim (fun e => e h) h2), if_neg (by rw [hb]; simp)]
theorem goB_step (f : List Bs → Ws → Bool × Ws) (w : List Bs) {x : Lk} (t : List Lk) {W : Ws} (h : x.1 = lastB w) (h2 : x.2 ∉ w) (hb : (f (w ++ [x.2]) W).1 = true) : goB f w (x :: t) W = goB f w t (f (w ++ [x.2]) W).2 := by
  show (if _ then _ else _) = _
  rw [if_neg (fun e => e.elim (fun e => e h) h2), if_pos hb]
theorem walkB_at {L : List Lk} {to : Bs} {s : Nat} {w : List Bs} {W : Ws} (e : lastB w = to) : walkB L to (s + 1) w W = (true, W) := if_pos e
theorem walkB_go {L : List Lk} {to : Bs} {s : Nat} {w : List Bs} {W : Ws} (e : ¬ lastB w = to) : walkB L to (s + 1) w W = goB (walkB L to s) w L W := if_neg e
theorem walkB_0t {L : List Lk} {to : Bs} {w : List Bs} {W : Ws} (e : lastB w = to) : walkB L to 0 w W = (decide ((W ++ [w]).length ≤ 1024), W ++ [w]) := by
  unfold walkB
  simp only [if_pos e]
theorem walkB_0f {L : List Lk} {to : Bs} {w : List Bs} {W : Ws} (e : ¬ lastB w = to) : walkB L to 0 w W = (decide (W.length ≤ 1024), W) := by
  unfold walkB
  simp only [if_neg e]
/-! lists of texts -/
def strAt (i : Nat) (x : Bs) : List Bs → Int
  | [] => -1
  | y :: t => if x = y then (i : Int) else strAt (i + 1) x t
theorem strAt_ge (x : Bs) : ∀ (l : List Bs) (i : Nat), (0 ≤ strAt i x l) ↔ x ∈ l
  | [], i => by simp [strAt]
  | y :: t, i => by
    unfold strAt
    by_cases h : x = y
    · simp [h]
    · rw [if_neg h, strAt_ge x t (i + 1)]
      simp [h]
theorem index_str_ret (an : Bool) (l : List Bs) (x : Bs) (hl : l.length ≤ 1000000000) : Ret lb F_slices_Index_string [.list an (scv l), .str x] (.int .i64 (strAt 0 x l)) := by
  refine .top rfl (.eq (fun n => by rw [slices_Index_string_eq]) ?_)
  refine Evt.diag (m := l.length) (loopL (enc := fun s => [CV.str s]) (l := l) (by omega) (P := fun p t n k => slices_Index_string_L1 lb n k an (scv l) x (p.length : Int) = some (.int .i64 (strAt p.length x t))) ?_ ?_ l [] rfl)
  · refine .all fun n k => ?_
    rw [slices_Index_string_L1_succ]
    refine stF (decF (by rw [scv_len]; omega)) ?_
    rw [slices_Index_string_J2_eq]
    rfl
  · intro p y t hp hlt hat hw hev
    refine hev.mono fun n hn k hk => ?_
    rw [slices_Index_string_L1_succ]
    refine stT (decT hlt) (stO _ hat (stC rfl (stO _ rfl (stO _ rfl ?_))))
    unfold strAt
    by_cases h : x = y
    · refine stT (by simp [h]) ?_
      rw [if_pos h]
    · refine stF (by simp [h]) ?_
      rw [if_neg h, hw, hn k hk]
      simp
theorem contains_str_ret (an : Bool) (l : List Bs) (x : Bs) (hl : l.length ≤ 1000000000) : Ret lb F_slices_Contains_string [.list an (scv l), .str x] (.bool (decide (x ∈ l))) := by
  refine .top rfl (.eq (fun n => by rw [slices_Contains_string_eq]) ?_)
  refine .call (index_str_ret lb an l x hl) (.all fun n => stO _ (asI_i ..) ?_)
  rw [show decide (strAt 0 x l ≥ 0) = decide (x ∈ l) from decide_eq_decide.2 (strAt_ge x l 0)]
theorem clip_ret (an : Bool) (l : List Bs) : Ret lb F_slices_Clip_string [.list an (scv l)] (.list an (scv l)) := by
  refine .top rfl (.eq (fun n => by rw [slices_Clip_string_eq]) ?_)
  refine .all fun n => stC (all_one_scv l) (stC (decT (by omega)) (stC (decT (by omega)) (stC (beqT rfl) ?_)))
  simp
end Go.Proofs
