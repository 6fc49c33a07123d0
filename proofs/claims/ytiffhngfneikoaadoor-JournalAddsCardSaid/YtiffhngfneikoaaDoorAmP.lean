/- The operations of the abstract machine that only compute or read. Conditions: none. -/
import Derived.Test.YtiffhngfneikoaaDoorAmO
import Derived.Laws.Strings
import Derived.Laws.Strings2
import Derived.Laws.Slices
import Derived.Laws.StructEq
namespace Go.Am
open Go.RowKit
variable {P : Program} {B : Nat} {W0 : Base} {d : Nat} {σ : St} {a : Act} {w : World} {G : Gh} {β : Type} {call : FuncId → List CV → Option CV}
  {acc : List Loc} {r : β} {o : Oper} {ops : List Oper}

def OpDone (P : Program) (B : Nat) (W0 : Base) (d : Nat) (o : Oper) (σ : St) (a : Act) (w : World) (G : Gh) (k : List W → List Loc → Option β) (r : β) : Prop :=
  ∃ ws rs, k ws rs = some r ∧ ∀ (next : Act → World → Prop) (Q : Exit → Act → World → Prop),
    (∀ a' w' G', Sim P B W0 d (applyW σ ws) a' w' G' → Keeps B d w w' G G' → next a' w') → o.wp P a w next Q

theorem OpDone.value {k : List W → List Loc → Option β} {ws : List W} {rs : List Loc} {x : Value} {w' : World} {G' : Gh} (hk : k ws rs = some r)
    (hrun : (execOp a.eval o).run P w = .ok (.value x) w') (S' : Sim P B W0 d (applyW σ ws) (a.put o.dst x) w' G') (K : Keeps B d w w' G G') : OpDone P B W0 d o σ a w G k r :=
  ⟨ws, rs, hk, fun next Q hn => by unfold Oper.wp Oper.upon; rw [hrun]; exact hn _ _ _ S' K⟩
theorem OpDone.pure {k : List W → List Loc → Option β} {rs : List Loc} {x : Value} {v : AV} (S : Sim P B W0 d σ a w G) (hk : k (put o v) rs = some r)
    (hrun : (execOp a.eval o).run P w = .ok (.value x) w) (hv : ∀ t, o.dst = some t → ARep P w G (.tmp d t) v x) : OpDone P B W0 d o σ a w G k r :=
  OpDone.value hk hrun (S.put o hv) (Keeps.refl _ _ _ _)

theorem op_move (S : Sim P B W0 d σ a w G) {x : Operand} (ho : o.op = .move x) {k : List W → List Loc → Option β} (h : (opM P d ops o).exec call σ acc k = some r) : OpDone P B W0 d o σ a w G k r := by
  unfold opM at h
  rw [ho] at h
  simp only [M.exec_bind'] at h
  obtain ⟨v, acc', h, hv⟩ := opdT_sound S _ _ h
  have hrun : (execOp a.eval o).run P w = .ok (.value (a.eval x)) w := by simp [execOp, ho]
  split at h
  · obtain ⟨G', S', K⟩ := S.handOn o x hv
    exact OpDone.value h hrun S' K
  · exact OpDone.pure S h hrun fun t _ => hv.copy
theorem op_assign (S : Sim P B W0 d σ a w G) {x : Operand} (ho : o.op = .assign x) {k : List W → List Loc → Option β} (h : (opM P d ops o).exec call σ acc k = some r) : OpDone P B W0 d o σ a w G k r := by
  unfold opM at h
  rw [ho] at h
  simp only [M.exec_bind'] at h
  obtain ⟨v, acc', h, hv⟩ := opdT_sound S _ _ h
  obtain ⟨G', S', K⟩ := S.handOn o x hv
  exact OpDone.value h (by simp [execOp, ho]) S' K

theorem op_pick (S : Sim P B W0 d σ a w G) {c x y : Operand} (ho : o.op = .pick c x y) {k : List W → List Loc → Option β} (h : (opM P d ops o).exec call σ acc k = some r) : OpDone P B W0 d o σ a w G k r := by
  unfold opM at h
  rw [ho] at h
  simp only [M.exec_bind'] at h
  obtain ⟨v, acc', h, hv⟩ := opd_sound S _ h
  obtain ⟨b, h, hb⟩ := cv_sound hv h
  obtain ⟨u, acc', h, hu⟩ := opd_sound S _ h
  obtain ⟨z, acc', h, hz⟩ := opd_sound S _ h
  simp only [M.exec] at h
  obtain ⟨t, ht, h⟩ := optO_some h
  rw [asB_some ht] at hb
  simp only [CRep] at hb
  cases t with
  | true =>
    simp only [cond_true] at h
    exact OpDone.pure S (x := a.eval x) h (by simp [execOp, ho, hb, asBool]) fun t _ => hu.copy
  | false =>
    simp only [cond_false] at h
    exact OpDone.pure S (x := a.eval y) h (by simp [execOp, ho, hb, asBool]) fun t _ => hz.copy

/-! arithmetic -/
theorem run_eqGuard (op : BinOp) (t : TypeId) (x y : Operand) {u v : Value} (h1 : u ≠ .nilIface) (h2 : ∀ c, u ≠ .agg c) : (eqGuard op t x y u v).run P w = .ok () w := by
  cases op <;> cases u <;> first | rfl | exact absurd rfl h1 | exact absurd rfl (h2 _)

theorem intBin_sound {op : BinOp} {k : IntKind} {x y : Int} {t : TypeId} {f : CV → List Loc → Option β} (h1 : op ≠ .shl) (h2 : op ≠ .shr) (h : (intBin op k x y).exec call σ acc f = some r) :
    ∃ c v, f c acc = some r ∧ (∀ w' hw, CRep w' hw c v) ∧ (binOp op t (.int k x) (.int k y)).run P w = .ok v w := by
  cases op <;> simp only [intBin, M.exec, reduceCtorEq] at h
  case quo =>
    obtain ⟨hb, h⟩ := chkO_some h
    refine ⟨_, _, h, fun _ _ => by simp only [CRep]; rfl, ?_⟩
    have : y ≠ 0 := by simpa using hb
    simp [binOp, Op.intDiv, this]
  case rem =>
    obtain ⟨hb, h⟩ := chkO_some h
    refine ⟨_, _, h, fun _ _ => by simp only [CRep]; rfl, ?_⟩
    have : y ≠ 0 := by simpa using hb
    simp [binOp, Op.intDiv, this]
  all_goals
    first
      | exact absurd rfl h1
      | exact absurd rfl h2
      | (refine ⟨_, _, h, fun _ _ => by simp only [CRep]; rfl, ?_⟩
         simp [binOp, Op.intArith, Op.intBits, Op.intCmp])

theorem strBin_sound {op : BinOp} {x y : List UInt8} {t : TypeId} {f : CV → List Loc → Option β} (h : (strBin op x y).exec call σ acc f = some r) :
    ∃ c v, f c acc = some r ∧ (∀ w' hw, CRep w' hw c v) ∧ (binOp op t (.string ⟨x.toArray⟩) (.string ⟨y.toArray⟩)).run P w = .ok v w := by
  cases op <;> simp only [strBin, M.exec, reduceCtorEq] at h
  case add =>
    obtain ⟨hb, h⟩ := chkO_some h
    refine ⟨_, _, h, fun _ _ => by simp only [CRep]; rfl, ?_⟩
    have hb : x.length + y.length ≤ 9223372036854775807 := by simpa using hb
    have e : ¬ (((x.length + y.length : Nat) : Int) > IntKind.i64.max) := by
      have : IntKind.i64.max = 9223372036854775807 := by decide
      rw [this]; omega
    have e1 : (⟨x.toArray⟩ : ByteArray).size = x.length := by simp [ByteArray.size]
    have e2 : (⟨y.toArray⟩ : ByteArray).size = y.length := by simp [ByteArray.size]
    have e3 : (⟨x.toArray⟩ : ByteArray) ++ ⟨y.toArray⟩ = ⟨(x ++ y).toArray⟩ := by
      apply ByteArray.ext
      simp
    simp only [binOp, Op.stringOp, e1, e2, e3]
    rw [if_neg e]; rfl
  all_goals
    (refine ⟨_, _, h, fun _ _ => by simp only [CRep]; rfl, ?_⟩
     simp [binOp, Op.stringOp])

theorem eqOp_sound {op : BinOp} {b : Bool} {f : CV → List Loc → Option β} (h : (eqOp op b).exec call σ acc f = some r) :
    (op = .eql ∧ f (.bool b) acc = some r) ∨ (op = .neq ∧ f (.bool !b) acc = some r) := by
  cases op <;> simp only [eqOp, M.exec, reduceCtorEq] at h
  · exact .inl ⟨rfl, h⟩
  · exact .inr ⟨rfl, h⟩

theorem equal_eq (t : TypeId) (x y : Value) : Op.equal t x y = Op.equalIn (9999 + 1) t x y := rfl
theorem run_equal_bool {t : TypeId} (ht : P.underlying t = some .bool) (x y : Bool) : (Op.equal t (.bool x) (.bool y)).run P w = .ok (x == y) w := by
  rw [equal_eq]; exact run_equalIn_bool' w _ t x y ht
theorem run_equal_slice {t e : TypeId} (ht : P.underlying t = some (.slice e)) {x y : Option Addr} {n c n' c' : Nat} (h : x = none ∨ y = none) :
    (Op.equal t (.slice x n c) (.slice y n' c')).run P w = .ok (x.isNone && y.isNone) w := by
  rw [equal_eq]
  generalize 9999 = D
  rcases h with rfl | rfl
  · simp [Op.equalIn, run_underlying ht]
  · cases x <;> simp [Op.equalIn, run_underlying ht]
theorem run_equal_pointer {t e : TypeId} (ht : P.underlying t = some (.pointer e)) {x y : Option Addr} (h : x = none ∨ y = none) :
    (Op.equal t (.pointer x) (.pointer y)).run P w = .ok (x.isNone && y.isNone) w := by
  rw [equal_eq]
  generalize 9999 = D
  rcases h with rfl | rfl
  · simp [Op.equalIn, run_underlying ht]
  · cases x <;> simp [Op.equalIn, run_underlying ht]
theorem run_equal_if0 {t : TypeId} {ms : Array (String × TypeId)} (ht : P.underlying t = some (.interface ms)) : (Op.equal t .nilIface .nilIface).run P w = .ok true w := by
  rw [equal_eq]; generalize 9999 = d; simp [Op.equalIn, run_underlying ht]
theorem run_equal_if1 {t : TypeId} {ms : Array (String × TypeId)} (ht : P.underlying t = some (.interface ms)) (ty : TypeId) (z : Value) : (Op.equal t .nilIface (.iface ty z)).run P w = .ok false w := by
  rw [equal_eq]; generalize 9999 = d; simp [Op.equalIn, run_underlying ht]
theorem run_equal_if2 {t : TypeId} {ms : Array (String × TypeId)} (ht : P.underlying t = some (.interface ms)) (ty : TypeId) (z : Value) : (Op.equal t (.iface ty z) .nilIface).run P w = .ok false w := by
  rw [equal_eq]; generalize 9999 = d; simp [Op.equalIn, run_underlying ht]
def isNilF : Value → Bool | .nilFunc => true | _ => false
theorem run_equal_func {t : TypeId} {ps rs : Array TypeId} {v : Bool} (ht : P.underlying t = some (.func ps rs v)) {x y : Value}
    (h : (x = .nilFunc ∧ (y = .nilFunc ∨ ∃ f p q, y = .func f p q)) ∨ (y = .nilFunc ∧ ∃ f p q, x = .func f p q)) :
    (Op.equal t x y).run P w = .ok (isNilF x && isNilF y) w := by
  rw [equal_eq]
  generalize 9999 = D
  rcases h with ⟨rfl, rfl | ⟨f, p, q, rfl⟩⟩ | ⟨rfl, f, p, q, rfl⟩ <;> simp [Op.equalIn, run_underlying ht, isNilF]

theorem run_eq_of {t : TypeId} {x y : Value} {b : Bool} {op : BinOp} (h : (Op.equal t x y).run P w = .ok b w)
    (h1 : binOp .eql t x y = (do pure (.bool (← Op.equal t x y)))) (h2 : binOp .neq t x y = (do pure (.bool (!(← Op.equal t x y)))))
    {f : CV → List Loc → Option β} (hh : (eqOp op b).exec call σ acc f = some r) :
    ∃ c v, f c acc = some r ∧ (∀ w' hw, CRep w' hw c v) ∧ (binOp op t x y).run P w = .ok v w := by
  rcases eqOp_sound hh with ⟨rfl, hh⟩ | ⟨rfl, hh⟩
  · exact ⟨_, .bool b, hh, fun _ _ => by simp only [CRep], by rw [h1]; simp [h]⟩
  · exact ⟨_, .bool !b, hh, fun _ _ => by simp only [CRep], by rw [h2]; simp [h]⟩

theorem shiftOp_sound {op : BinOp} {k k' : IntKind} {x y : Int} {t : TypeId} {f : CV → List Loc → Option β} (h : (shiftOp op k x y).exec call σ acc f = some r) :
    ∃ c v, f c acc = some r ∧ (∀ w' hw, CRep w' hw c v) ∧ (binOp op t (.int k x) (.int k' y)).run P w = .ok v w := by
  cases op <;> simp only [shiftOp, M.exec, reduceCtorEq] at h
  all_goals
    obtain ⟨hb, h⟩ := chkO_some h
    have hb : ¬ y < 0 := by have : 0 ≤ y := by simpa using hb
                            omega
    refine ⟨_, _, h, fun _ _ => by simp only [CRep]; rfl, ?_⟩
    simp [binOp, Op.shift, hb]

theorem ARepL.get {w : World} {G : Gh} : ∀ {cs : List AV} {vs : List Value}, ARepL P w G cs vs → ∀ {i : Nat}, i < cs.length →
    ∃ v, vs[i]? = some v ∧ ARep P w G .none (nthD .any cs i) v
  | [], _, _, i, hi => by simp at hi
  | x :: r, vs, hx, i, hi => by
    simp only [ARepL] at hx
    obtain ⟨v, s, rfl, h3, h4⟩ := hx
    cases i with
    | zero => exact ⟨v, by simp, by simpa [nthD] using h3⟩
    | succ i =>
      obtain ⟨u, h1, h2⟩ := ARepL.get h4 (i := i) (by simpa using hi)
      exact ⟨u, by simpa using h1, by simpa [nthD] using h2⟩
theorem CRep.slice_nil {w : World} {h : Hw} {n : Bool} {l : List (List CV)} {v : Value} (x : CRep w h (.list n l) v) : ∃ a len cap, v = .slice a len cap ∧ n = a.isNone := by
  simp only [CRep] at x
  rcases x with ⟨h1, _, rfl⟩ | ⟨h1, b, off, cap, es, rfl, _⟩
  · exact ⟨none, 0, 0, rfl, by simp [h1]⟩
  · exact ⟨_, _, _, rfl, by simp [h1]⟩

/-- '==' of structs (its proof stands in the next file) -/
def StructEqOk (P : Program) : Prop := ∀ {β : Type} {call : FuncId → List CV → Option CV} {σ : St} {acc : List Loc} {r : β} {f : CV → List Loc → Option β} {op : BinOp} {t : TypeId} {ts : List TypeDesc} {a b : List CV}
  {vs us : List Value} {w : World} {h : Hw} {fs : Array Field}, P.underlying t = some (.struct fs) → topEq P t = some ts → CRepV w h a vs → CRepV w h b us →
  ((eqFlat ts a b).bind fun r => eqOp op r).exec call σ acc f = some r →
  ∃ c v acc', f c acc' = some r ∧ CRep w h c v ∧ (binOp op t (.agg vs.toArray) (.agg us.toArray)).run P w = .ok v w ∧ ∀ ox oy, (eqGuard op t ox oy (.agg vs.toArray) (.agg us.toArray)).run P w = .ok () w

theorem asE_some {c : CV} {b : Bool} (h : c.asE = some b) : (c = .nilif ∧ b = true) ∨ (c = .err ∧ b = false) := by
  cases c <;> simp [CV.asE] at h
  · exact .inl ⟨rfl, h⟩
  · exact .inr ⟨rfl, h⟩
theorem cvNths_exec {c : List CV} : ∀ {n off : Nat} {acc : List Loc} {f : List CV → List Loc → Option β}, (cvNths c off n).exec call σ acc f = some r → f ((c.drop off).take n) acc = some r
  | 0, off, acc, f, h => by simpa [cvNths, M.exec] using h
  | n + 1, off, acc, f, h => by
    simp only [cvNths, M.exec] at h
    obtain ⟨x, hx, h⟩ := optO_some h
    rw [M.exec_bind] at h
    have h := cvNths_exec h
    simp only [M.exec] at h
    have hl : off < c.length := (List.getElem?_eq_some_iff.1 hx).1
    have e := (List.getElem?_eq_some_iff.1 hx).2
    rw [List.drop_eq_getElem_cons hl, List.take_succ_cons, e]
    exact h
theorem eqFlat_take : ∀ (ts : List TypeDesc) (a b : List CV), eqFlat ts (a.take ts.length) (b.take ts.length) = eqFlat ts a b
  | [], a, b => by simp [eqFlat]
  | t :: ts, [], b => by simp [eqFlat]
  | t :: ts, x :: xs, [] => by simp [eqFlat]
  | t :: ts, x :: xs, y :: ys => by
    simp only [List.length_cons, List.take_succ_cons]
    unfold eqFlat
    simp only [eqFlat_take ts xs ys]
theorem run_eqGuard_nil (op : BinOp) (t : TypeId) (ox oy : Operand) (h : (ox.isConst || oy.isConst) = true) : (eqGuard op t ox oy .nilIface .nilIface).run P w = .ok () w := by
  cases ox <;> cases oy <;> simp [Operand.isConst] at h <;> cases op <;> simp [eqGuard]
theorem binM_sound (SE : StructEqOk P) {lit : Bool} {op : BinOp} {t u : TypeId} {x y : AV} {px py : Place} {vx vy : Value} (hx : ARep P w G px x vx) (hy : ARep P w G py y vy)
    {f : CV → List Loc → Option β} (h : (binM P lit op t u x y).exec call σ acc f = some r) :
    ∃ c v acc', f c acc' = some r ∧ CRep w G.hw c v ∧ (binOp op t vx vy).run P w = .ok v w ∧ ∀ ox oy : Operand, (lit = true → (ox.isConst || oy.isConst) = true) → (eqGuard op t ox oy vx vy).run P w = .ok () w := by
  unfold binM at h
  split at h
  · -- int
    rename_i k ht
    simp only [M.exec_bind'] at h
    obtain ⟨a, h, ha⟩ := cv_sound hx h
    obtain ⟨b, h, hb⟩ := cv_sound hy h
    split at h
    · split at h
      · simp only [M.exec] at h
        obtain ⟨n, hn, h⟩ := optO_some h
        obtain ⟨m, hm, h⟩ := optO_some h
        rw [asI_some hn] at ha
        rw [asI_some hm] at hb
        simp only [CRep] at ha hb
        subst ha hb
        obtain ⟨c, v, h1, h2, h3⟩ := shiftOp_sound (t := t) (w := w) (P := P) h
        exact ⟨c, v, _, h1, h2 _ _, h3, fun ox oy _ => run_eqGuard _ _ _ _ (by simp) (by simp)⟩
      · simp [M.exec] at h
    · split at h
      · simp only [M.exec] at h
        obtain ⟨n, hn, h⟩ := optO_some h
        obtain ⟨m, hm, h⟩ := optO_some h
        rw [asI_some hn] at ha
        rw [asI_some hm] at hb
        simp only [CRep] at ha hb
        subst ha hb
        obtain ⟨c, v, h1, h2, h3⟩ := shiftOp_sound (t := t) (w := w) (P := P) h
        exact ⟨c, v, _, h1, h2 _ _, h3, fun ox oy _ => run_eqGuard _ _ _ _ (by simp) (by simp)⟩
      · simp [M.exec] at h
    · rename_i n1 n2
      simp only [M.exec] at h
      obtain ⟨n, hn, h⟩ := optO_some h
      obtain ⟨m, hm, h⟩ := optO_some h
      rw [asI_some hn] at ha
      rw [asI_some hm] at hb
      simp only [CRep] at ha hb
      subst ha hb
      obtain ⟨c, v, h1, h2, h3⟩ := intBin_sound (t := t) (w := w) (P := P) (by intro e; exact n1 e) (by intro e; exact n2 e) h
      exact ⟨c, v, _, h1, h2 _ _, h3, fun ox oy _ => run_eqGuard _ _ _ _ (by simp) (by simp)⟩
  · -- string
    simp only [M.exec_bind'] at h
    obtain ⟨a, h, ha⟩ := cv_sound hx h
    obtain ⟨b, h, hb⟩ := cv_sound hy h
    simp only [M.exec] at h
    obtain ⟨n, hn, h⟩ := optO_some h
    obtain ⟨m, hm, h⟩ := optO_some h
    rw [asS_some hn] at ha
    rw [asS_some hm] at hb
    simp only [CRep] at ha hb
    subst ha hb
    obtain ⟨c, v, h1, h2, h3⟩ := strBin_sound (t := t) (w := w) (P := P) h
    exact ⟨c, v, _, h1, h2 _ _, h3, fun ox oy _ => run_eqGuard _ _ _ _ (by simp) (by simp)⟩
  · -- bool
    rename_i ht
    simp only [M.exec_bind'] at h
    obtain ⟨a, h, ha⟩ := cv_sound hx h
    obtain ⟨b, h, hb⟩ := cv_sound hy h
    simp only [M.exec] at h
    obtain ⟨n, hn, h⟩ := optO_some h
    obtain ⟨m, hm, h⟩ := optO_some h
    rw [asB_some hn] at ha
    rw [asB_some hm] at hb
    simp only [CRep] at ha hb
    subst ha hb
    obtain ⟨c, v, h1, h2, h3⟩ := run_eq_of (run_equal_bool (w := w) ht n m) (by simp [binOp]) (by simp [binOp]) h
    exact ⟨c, v, _, h1, h2 _ _, h3, fun ox oy _ => run_eqGuard _ _ _ _ (by simp) (by simp)⟩
  · -- slice
    rename_i e ht
    simp only [M.exec_bind'] at h
    obtain ⟨a, h, ha⟩ := cv_sound hx h
    obtain ⟨b, h, hb⟩ := cv_sound hy h
    simp only [M.exec] at h
    obtain ⟨p, hp, h⟩ := optO_some h
    obtain ⟨q, hq, h⟩ := optO_some h
    obtain ⟨hc, h⟩ := chkO_some h
    rw [asL_some hp] at ha
    rw [asL_some hq] at hb
    obtain ⟨a1, l1, c1, rfl, e1⟩ := ha.slice_nil
    obtain ⟨a2, l2, c2, rfl, e2⟩ := hb.slice_nil
    rw [e1, e2] at h hc
    rw [Bool.and_comm] at h
    have hc' : a1 = none ∨ a2 = none := by
      cases a1 <;> cases a2 <;> simp at hc ⊢
    obtain ⟨c, v, h1, h2, h3⟩ := run_eq_of (run_equal_slice (w := w) ht hc') (by simp [binOp]) (by simp [binOp]) h
    exact ⟨c, v, _, h1, h2 _ _, h3, fun ox oy _ => run_eqGuard _ _ _ _ (by simp) (by simp)⟩
  · -- pointer
    rename_i e ht
    have fin : ∀ (p q : Option Addr), vx = .pointer p → vy = .pointer q → (p = none ∨ q = none) → ∀ {b : Bool}, b = (p.isNone && q.isNone) → (eqOp op b).exec call σ acc f = some r →
        ∃ c v acc', f c acc' = some r ∧ CRep w G.hw c v ∧ (binOp op t vx vy).run P w = .ok v w ∧ ∀ ox oy : Operand, (lit = true → (ox.isConst || oy.isConst) = true) → (eqGuard op t ox oy vx vy).run P w = .ok () w := by
      intro p q e1 e2 hc b hb h
      subst e1 e2 hb
      obtain ⟨c, v, h1, h2, h3⟩ := run_eq_of (run_equal_pointer (w := w) ht hc) (by simp [binOp]) (by simp [binOp]) h
      exact ⟨c, v, _, h1, h2 _ _, h3, fun ox oy _ => run_eqGuard _ _ _ _ (by simp) (by simp)⟩
    split at h
    · simp only [ARep, CRep] at hx hy
      exact fin none none hx hy (.inl rfl) rfl h
    · simp only [ARep, CRep] at hx hy
      obtain ⟨b, _, hx⟩ := hx
      exact fin _ none hx hy (.inr rfl) rfl h
    · simp only [ARep, CRep] at hx hy
      obtain ⟨b, _, hy⟩ := hy
      exact fin none _ hx hy (.inl rfl) rfl h
    · simp only [ARep, CRep] at hx hy
      obtain ⟨b, o', hx, _⟩ := hx
      exact fin _ none hx hy (.inr rfl) rfl h
    · simp only [ARep, CRep] at hx hy
      obtain ⟨b, o', hy, _⟩ := hy
      exact fin none _ hx hy (.inl rfl) rfl h
    · simp [M.exec] at h
  · -- func
    rename_i ps rs vv ht
    have fin : ∀ {b : Bool}, ((vx = .nilFunc ∧ (vy = .nilFunc ∨ ∃ f p q, vy = .func f p q)) ∨ (vy = .nilFunc ∧ ∃ f p q, vx = .func f p q)) → b = (isNilF vx && isNilF vy) → (eqOp op b).exec call σ acc f = some r →
        ∃ c v acc', f c acc' = some r ∧ CRep w G.hw c v ∧ (binOp op t vx vy).run P w = .ok v w ∧ ∀ ox oy : Operand, (lit = true → (ox.isConst || oy.isConst) = true) → (eqGuard op t ox oy vx vy).run P w = .ok () w := by
      intro b hc hb h
      subst hb
      obtain ⟨c, v, h1, h2, h3⟩ := run_eq_of (run_equal_func (w := w) ht hc) (by rcases hc with ⟨rfl, rfl | ⟨f, p, q, rfl⟩⟩ | ⟨rfl, f, p, q, rfl⟩ <;> simp [binOp]) (by rcases hc with ⟨rfl, rfl | ⟨f, p, q, rfl⟩⟩ | ⟨rfl, f, p, q, rfl⟩ <;> simp [binOp]) h
      refine ⟨c, v, _, h1, h2 _ _, h3, fun ox oy _ => run_eqGuard _ _ _ _ ?_ ?_⟩
      · rcases hc with ⟨rfl, _⟩ | ⟨_, f, p, q, rfl⟩ <;> simp
      · rcases hc with ⟨rfl, _⟩ | ⟨_, f, p, q, rfl⟩ <;> simp
    split at h
    · simp only [ARep, CRep] at hx hy
      subst hx hy
      exact fin (.inl ⟨rfl, .inl rfl⟩) rfl h
    · simp only [ARep, CRep] at hx hy
      subst hx hy
      exact fin (.inr ⟨rfl, _, _, _, rfl⟩) rfl h
    · simp only [ARep, CRep] at hx hy
      subst hx hy
      exact fin (.inl ⟨rfl, .inr ⟨_, _, _, rfl⟩⟩) rfl h
    · simp only [ARep, CRep] at hx hy
      obtain ⟨vs, hx, _⟩ := hx
      subst hx hy
      exact fin (.inr ⟨rfl, _, _, _, rfl⟩) rfl h
    · simp only [ARep, CRep] at hx hy
      obtain ⟨vs, hy, _⟩ := hy
      subst hx hy
      exact fin (.inl ⟨rfl, .inr ⟨_, _, _, rfl⟩⟩) rfl h
    · simp [M.exec] at h
  · -- interface
    rename_i ms ht
    split at h
    · simp only [M.exec_bind'] at h
      obtain ⟨a, h, ha⟩ := cv_sound hx h
      obtain ⟨b, h, hb⟩ := cv_sound hy h
      simp only [M.exec] at h
      obtain ⟨p, hp, h⟩ := optO_some h
      obtain ⟨q, hq, h⟩ := optO_some h
      obtain ⟨hc, h⟩ := chkO_some h
      rcases asE_some hp with ⟨rfl, rfl⟩ | ⟨rfl, rfl⟩ <;> rcases asE_some hq with ⟨rfl, rfl⟩ | ⟨rfl, rfl⟩
      · simp only [CRep] at ha hb
        subst ha hb
        obtain ⟨c, v, h1, h2, h3⟩ := run_eq_of (run_equal_if0 (w := w) ht) (by simp [binOp]) (by simp [binOp]) h
        exact ⟨c, v, _, h1, h2 _ _, h3, fun ox oy hl => run_eqGuard_nil _ _ _ _ (hl rfl)⟩
      · simp only [CRep] at ha hb
        obtain ⟨ty, z, hb⟩ := hb
        subst ha hb
        obtain ⟨c, v, h1, h2, h3⟩ := run_eq_of (run_equal_if1 (w := w) ht ty z) (by simp [binOp]) (by simp [binOp]) h
        exact ⟨c, v, _, h1, h2 _ _, h3, fun ox oy _ => by cases op <;> simp [eqGuard]⟩
      · simp only [CRep] at ha hb
        obtain ⟨ty, z, ha⟩ := ha
        subst ha hb
        obtain ⟨c, v, h1, h2, h3⟩ := run_eq_of (run_equal_if2 (w := w) ht ty z) (by simp [binOp]) (by simp [binOp]) h
        exact ⟨c, v, _, h1, h2 _ _, h3, fun ox oy _ => run_eqGuard _ _ _ _ (by simp) (by simp)⟩
      · simp at hc
    · simp [M.exec] at h
  · -- struct
    rename_i fs ht
    split at h
    · rename_i ts hts
      simp only [M.exec_bind'] at h
      obtain ⟨a, h, ha⟩ := cv_sound hx h
      obtain ⟨b, h, hb⟩ := cv_sound hy h
      simp only [M.exec] at h
      obtain ⟨p, hp, h⟩ := optO_some h
      obtain ⟨q, hq, h⟩ := optO_some h
      rw [asA_some hp] at ha
      rw [asA_some hq] at hb
      simp only [CRep] at ha hb
      obtain ⟨vs, rfl, ha⟩ := ha
      obtain ⟨us, rfl, hb⟩ := hb
      rw [M.exec_bind] at h
      have h := cvNths_exec h
      rw [M.exec_bind] at h
      have h := cvNths_exec h
      simp only [List.drop_zero, eqFlat_take, bind] at h
      obtain ⟨c, v, acc', h1, h2, h3, h4⟩ := SE ht hts ha hb h
      exact ⟨c, v, acc', h1, h2, h3, fun ox oy _ => h4 ox oy⟩
    · simp [M.exec] at h
  · simp [M.exec] at h

theorem op_binOp (SE : StructEqOk P) (S : Sim P B W0 d σ a w G) {op : BinOp} {t u : TypeId} {x y : Operand} (ho : o.op = .binOp op t x y u) {k : List W → List Loc → Option β}
    (h : (opM P d ops o).exec call σ acc k = some r) : OpDone P B W0 d o σ a w G k r := by
  unfold opM at h
  rw [ho] at h
  simp only [M.exec_bind'] at h
  obtain ⟨v, acc', h, hv⟩ := opd_sound S _ h
  obtain ⟨u, acc', h, hu⟩ := opd_sound S _ h
  obtain ⟨c, z, acc', h, hc, hrun, hg⟩ := binM_sound SE hv hu h
  have hg := hg x y id
  exact OpDone.pure (x := z) S h (by simp [execOp, ho, hg, hrun]) fun t _ => by simpa only [ARep] using hc

theorem op_unOp (S : Sim P B W0 d σ a w G) {op : UnOp} {t : TypeId} {x : Operand} (ho : o.op = .unOp op t x) {k : List W → List Loc → Option β}
    (h : (opM P d ops o).exec call σ acc k = some r) : OpDone P B W0 d o σ a w G k r := by
  unfold opM at h
  rw [ho] at h
  simp only [M.exec_bind'] at h
  obtain ⟨v, acc', h, hv⟩ := opd_sound S _ h
  unfold unM at h
  split at h
  · simp only [M.exec_bind'] at h
    obtain ⟨c, h, hc⟩ := cv_sound hv h
    simp only [M.exec] at h
    obtain ⟨b, hb, h⟩ := optO_some h
    rw [asB_some hb] at hc
    simp only [CRep] at hc
    exact OpDone.pure (x := .bool !b) S h (by simp [execOp, ho, hc, Op.unary]) fun t _ => by simp only [ARep, CRep]
  · rename_i q ht _
    simp only [M.exec_bind'] at h
    obtain ⟨c, h, hc⟩ := cv_sound hv h
    simp only [M.exec] at h
    obtain ⟨b, hb, h⟩ := optO_some h
    rw [asI_some hb] at hc
    simp only [CRep] at hc
    exact OpDone.pure (x := .int q (q.wrap (0 - b))) S h (by simp [execOp, ho, hc, Op.unary, Op.intArith]) fun t _ => by simp only [ARep, CRep]
  · simp [M.exec] at h

theorem op_extract (S : Sim P B W0 d σ a w G) {x : Operand} {i : Nat} (ho : o.op = .extract x i) {k : List W → List Loc → Option β}
    (h : (opM P d ops o).exec call σ acc k = some r) : OpDone P B W0 d o σ a w G k r := by
  unfold opM at h
  rw [ho] at h
  simp only [M.exec_bind'] at h
  obtain ⟨v, acc', h, hv⟩ := opd_sound S _ h
  split at h
  · rename_i c
    simp only [M.exec] at h
    obtain ⟨vs, hvs, h⟩ := optO_some h
    obtain ⟨z, hz, h⟩ := optO_some h
    simp only [ARep] at hv
    rw [asT_some hvs] at hv
    simp only [CRep] at hv
    obtain ⟨us, hus, hr⟩ := hv
    obtain ⟨q, hq, hr⟩ := hr.get hz
    exact OpDone.pure (x := q) S h (by simp [execOp, ho, hus, Instr.extract, hq]) fun t _ => by simpa only [ARep] using hr
  · rename_i vs
    simp only [M.exec] at h
    obtain ⟨h2, h⟩ := chkO_some h
    simp only [ARep] at hv
    obtain ⟨us, hus, hr⟩ := hv
    obtain ⟨q, hq, hr⟩ := hr.get (by simpa using h2)
    exact OpDone.pure (x := q) S h (by simp [execOp, ho, hus, Instr.extract, hq]) fun t _ => ARep.ofNone S.mem.noNone hr
  · simp [M.exec] at h
end Go.Am
