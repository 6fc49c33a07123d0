/- The operations of the abstract machine that only compute or read, continued. Conditions: none. -/
import Derived.Test.YtiffhngfneikoaaDoorAmP
namespace Go.Am
open Go.RowKit
variable {P : Program} {B : Nat} {W0 : Base} {d : Nat} {σ : St} {a : Act} {w : World} {G : Gh} {β : Type} {call : FuncId → List CV → Option CV}
  {acc : List Loc} {r : β} {o : Oper} {ops : List Oper}

theorem op_nilCheck (S : Sim P B W0 d σ a w G) {x : Operand} (ho : o.op = .nilCheck x) {k : List W → List Loc → Option β}
    (h : (opM P d ops o).exec call σ acc k = some r) : OpDone P B W0 d o σ a w G k r := by
  unfold opM at h
  rw [ho] at h
  simp only [M.exec_bind'] at h
  obtain ⟨v, acc', h, hv⟩ := opd_sound S _ h
  split at h
  · have hv' := hv
    simp only [ARep] at hv
    obtain ⟨b, hb, hx⟩ := hv
    exact OpDone.pure (x := a.eval x) S h (by simp [execOp, ho, hx]) fun t _ => by simpa only [ARep] using hv'
  · have hv' := hv
    simp only [ARep] at hv
    obtain ⟨b, o', hx, _⟩ := hv
    exact OpDone.pure (x := a.eval x) S h (by simp [execOp, ho, hx]) fun t _ => by simpa only [ARep] using hv'
  · have hv' := hv
    simp only [ARep] at hv
    obtain ⟨vs, hx, _⟩ := hv
    exact OpDone.pure (x := a.eval x) S h (by simp [execOp, ho, hx]) fun t _ => by simpa only [ARep] using hv'
  · simp only [M.exec] at h
    obtain ⟨f, hf, h⟩ := optO_some h
    simp only [ARep] at hv
    rw [asF_some hf] at hv
    simp only [CRep] at hv
    exact OpDone.pure (x := a.eval x) S h (by simp [execOp, ho, hv]) fun t _ => by simpa only [ARep, CRep] using hv
  · simp [M.exec] at h

theorem op_index (S : Sim P B W0 d σ a w G) {t : TypeId} {x i : Operand} (ho : o.op = .index t x i) {k : List W → List Loc → Option β}
    (h : (opM P d ops o).exec call σ acc k = some r) : OpDone P B W0 d o σ a w G k r := by
  unfold opM at h
  rw [ho] at h
  simp only [M.exec_bind'] at h
  obtain ⟨v, acc', h, hv⟩ := opd_sound S _ h
  obtain ⟨u, acc', h, hu⟩ := opd_sound S _ h
  obtain ⟨c, h, hc⟩ := cv_sound hv h
  obtain ⟨e, h, he⟩ := cv_sound hu h
  split at h
  · rename_i ht
    simp only [M.exec] at h
    obtain ⟨s, hs, h⟩ := optO_some h
    obtain ⟨n, hn, h⟩ := optO_some h
    obtain ⟨z, hz, h⟩ := optO_some h
    rw [asS_some hs] at hc
    obtain ⟨kn, hek⟩ := asN_some hn
    rw [hek] at he
    simp only [CRep] at hc he
    unfold atS at hz
    split at hz
    · rename_i h0
      refine OpDone.pure (x := .int .u8 z.toNat) S h ?_ fun t _ => by simp only [ARep, CRep]
      have hb : (⟨s.toArray⟩ : ByteArray)[n.toNat]? = some z := by
        have hl : n.toNat < s.length := (List.getElem?_eq_some_iff.1 hz).1
        have : (⟨s.toArray⟩ : ByteArray)[n.toNat]? = some ((⟨s.toArray⟩ : ByteArray)[n.toNat]'(by simpa [ByteArray.size] using hl)) := getElem?_pos _ _ _
        rw [this]
        have h2 := (List.getElem?_eq_some_iff.1 hz).2
        simp only [Option.some.injEq]
        rw [← h2]; rfl
      simp [execOp, ho, hc, he, Instr.index, asIntOf, run_underlying ht, h0, hb]
    · simp at hz
  · simp [M.exec] at h

theorem op_fieldAddr (S : Sim P B W0 d σ a w G) {t : TypeId} {x : Operand} {f : Nat} (ho : o.op = .fieldAddr t x f) {k : List W → List Loc → Option β}
    (h : (opM P d ops o).exec call σ acc k = some r) : OpDone P B W0 d o σ a w G k r := by
  unfold opM at h
  rw [ho] at h
  simp only [M.exec_bind'] at h
  obtain ⟨v, acc', h, hv⟩ := opd_sound S _ h
  simp only [M.exec] at h
  obtain ⟨p, hp, h⟩ := optO_some h
  obtain ⟨hs, h⟩ := chkO_some h
  unfold fieldOf at hp
  split at hp
  · rename_i fs ht
    simp only [Option.map_eq_some_iff] at hp
    obtain ⟨fd, hfd, rfl⟩ := hp
    have hs : P.cellsOf fd.type ≠ 0 := by simpa using hs
    have hi : ∃ i, P.info? fd.type = some i ∧ i.size = P.cellsOf fd.type := by
      unfold Program.cellsOf at hs ⊢
      cases hh : P.info? fd.type with
      | none => simp [hh] at hs
      | some i => exact ⟨i, rfl, by simp⟩
    obtain ⟨i, hi, hsz⟩ := hi
    have place : ∀ (b q : Nat), ((fieldPlace (cellA b q) fd).run P w) = .ok (cellA b (q + fd.offset)) w := by
      intro b q
      have : i.size ≠ 0 := by rw [hsz]; exact hs
      simp only [fieldPlace, sizeOf, typeInfo, Sem.run_bind, run_program, Result.andThen_ok, hi, Sem.run_pure, this, if_false]
      congr 1
      unfold Addr.add cellA
      split <;> simp_all
    split at h
    · simp only [ARep] at hv
      obtain ⟨b, hb, hx⟩ := hv
      refine OpDone.pure (x := .pointer (some (cellA b _))) S h ?_ fun t _ => by simp only [ARep]; exact ⟨b, hb, rfl⟩
      simp [execOp, ho, hx, Instr.fieldAt, run_underlying ht, hfd, Instr.sureAddr, place]
    · simp only [ARep] at hv
      obtain ⟨b, o', hx, h1, h2⟩ := hv
      refine OpDone.pure (x := .pointer (some (cellA b _))) S h ?_ fun t _ => by simp only [ARep]; exact ⟨b, o', rfl, h1, h2⟩
      simp [execOp, ho, hx, Instr.fieldAt, run_underlying ht, hfd, Instr.sureAddr, place, Nat.add_assoc]
    · simp [M.exec] at h
  · simp at hp

theorem run_sizeOf' {e : TypeId} (h : P.cellsOf e ≠ 0) (w : World) : (sizeOf e).run P w = .ok (P.cellsOf e) w := by
  unfold Program.cellsOf at h ⊢
  cases hh : P.info? e with
  | none => simp [hh] at h
  | some i => simp [sizeOf, typeInfo, hh]

theorem add_cellA (b q n : Nat) : (cellA b q).add n = cellA b (q + n) := by
  unfold Addr.add cellA
  split <;> simp_all

theorem op_indexAddr (S : Sim P B W0 d σ a w G) {t : TypeId} {x i : Operand} (ho : o.op = .indexAddr t x i) {k : List W → List Loc → Option β}
    (h : (opM P d ops o).exec call σ acc k = some r) : OpDone P B W0 d o σ a w G k r := by
  unfold opM at h
  rw [ho] at h
  simp only [M.exec_bind'] at h
  obtain ⟨v, acc', h, hv⟩ := opd_sound S _ h
  obtain ⟨u, acc', h, hu⟩ := opd_sound S _ h
  obtain ⟨e, h, he⟩ := cv_sound hu h
  split at h
  · rename_i el ht
    simp only [M.exec_bind'] at h
    obtain ⟨c, h, hc⟩ := cv_sound hv h
    simp only [M.exec] at h
    obtain ⟨p, hp, h⟩ := optO_some h
    obtain ⟨n, hn, h⟩ := optO_some h
    obtain ⟨z, hz, h⟩ := optO_some h
    obtain ⟨hlen, h⟩ := chkO_some h
    obtain ⟨hpos, h⟩ := chkO_some h
    rw [asL_some hp] at hc
    obtain ⟨kn, hek⟩ := asN_some hn
    rw [hek] at he
    simp only [CRep] at hc he
    have hpos : P.cellsOf el ≠ 0 := by simpa using hpos
    have hlen : z.length = P.cellsOf el := by simpa using hlen
    unfold atL at hz
    split at hz
    · rename_i h0
      rcases hc with ⟨_, hl, _⟩ | ⟨_, b, off, cap, es, hx, hcap, hes, hhw, hrep⟩
      · rw [hl] at hz; simp at hz
      · have hlt : n.toNat < p.2.length := (List.getElem?_eq_some_iff.1 hz).1
        have hmem : z ∈ p.2 := List.mem_of_getElem? hz
        have hee : es = P.cellsOf el := by rw [← hes z hmem, hlen]
        refine OpDone.pure (x := .pointer (some (cellA b (off + n.toNat * P.cellsOf el)))) S h ?_ fun t _ => ?_
        · have h1 : n < (p.2.length : Int) := by omega
          simp [execOp, ho, hx, he, Instr.indexAt, asIntOf, run_underlying ht, h0, h1, run_sizeOf' hpos, add_cellA]
        · simp only [ARep]
          refine ⟨b, off + n.toNat * es, by rw [hee]; simp, ?_, hrep.get hes hz⟩
          have h2 : (n.toNat + 1) * es ≤ p.2.length * es := Nat.mul_le_mul_right _ hlt
          rw [Nat.add_mul, Nat.one_mul] at h2
          rw [hlen, ← hee]
          omega
    · simp at hz
  · simp [M.exec] at h

/-! slicing -/
inductive OV (P : Program) (w : World) (G : Gh) : Option AV → Option Value → Prop where
  | none : OV P w G none none
  | some {p : Place} {v : AV} {x : Value} : ARep P w G p v x → OV P w G (some v) (some x)
theorem oopd_sound (S : Sim P B W0 d σ a w G) {f : Option AV → List Loc → Option β} : ∀ (x : Option Operand) {acc : List Loc}, (oopd x).exec call σ acc f = some r →
    ∃ v acc', f v acc' = some r ∧ OV P w G v (x.map a.eval)
  | none, acc, h => ⟨_, _, h, .none⟩
  | some x, acc, h => by
    simp only [oopd, M.exec_bind', M.exec] at h
    obtain ⟨v, acc', h, hv⟩ := opd_sound S _ h
    exact ⟨_, _, h, .some hv⟩

theorem bound_sound {p : Place} {v : AV} {x : Value} (hv : ARep P w G p v x) {hb : Int} {g : Int → List Loc → Option β}
    {df : Int} (e : (boundM (some v) df hb).exec call σ acc g = some r) :
    ∃ (kn : IntKind) (n : Nat), (n : Int) ≤ hb ∧ x = .int kn n ∧ g (n : Int) acc = some r := by
  simp only [boundM] at e
  rw [M.exec_bind] at e
  obtain ⟨c, e, hc⟩ := cv_sound hv e
  simp only [M.exec] at e
  obtain ⟨n, hn, e⟩ := optO_some e
  obtain ⟨hb', e⟩ := chkO_some e
  obtain ⟨kn, hek⟩ := asN_some hn
  rw [hek] at hc
  simp only [CRep] at hc
  have hb' : 0 ≤ n ∧ n ≤ hb := by simpa using hb'
  refine ⟨kn, n.toNat, by omega, ?_, ?_⟩
  · rw [hc, Int.toNat_of_nonneg hb'.1]
  · rw [Int.toNat_of_nonneg hb'.1]; exact e

theorem boundM_none {df hb : Int} {g : Int → List Loc → Option β} : (boundM none df hb).exec call σ acc g = g df acc := rfl
theorem lowHigh_sound {isSlice : Bool} {len cap : Nat} (hcap : len ≤ cap) {l h m : Option AV} {lx hx mx : Option Value} (hl : OV P w G l lx) (hh : OV P w G h hx) (hm : OV P w G m mx)
    (hmh : m.isSome = true → h.isSome = true) {f : Int × Int → List Loc → Option β} (e : (lowHigh len len l h m).exec call σ acc f = some r) :
    ∃ lo hi mm : Nat, f ((lo : Int), (hi : Int)) acc = some r ∧ lo ≤ hi ∧ hi ≤ len ∧ hi ≤ mm ∧ mm ≤ cap ∧ (mx = none → mm = cap) ∧ (∀ x, mx = some x → ∃ kn, x = .int kn mm) ∧
      (Instr.sliceBounds isSlice len cap lx hx mx).run P w = .ok (lo, hi, mm) w := by
  unfold lowHigh at e
  rw [M.exec_bind] at e
  cases hm with
  | none =>
    simp only [boundM_none] at e
    rw [M.exec_bind] at e
    cases hh with
    | none =>
      simp only [boundM_none] at e
      rw [M.exec_bind] at e
      cases hl with
      | none =>
        simp only [boundM_none] at e
        exact ⟨0, len, cap, e, Nat.zero_le _, Nat.le_refl _, hcap, Nat.le_refl _, fun _ => rfl, by simp, by simp [Instr.sliceBounds]⟩
      | some hv =>
        obtain ⟨kn, n, hn, hx, e⟩ := bound_sound hv e
        subst hx
        exact ⟨n, len, cap, e, by omega, Nat.le_refl _, hcap, Nat.le_refl _, fun _ => rfl, by simp, by
          simp [Instr.sliceBounds, run_sliceBound, (by omega : (0 : Int) ≤ n), (by omega : (n : Int) ≤ (len : Int))]⟩
    | some hv =>
      obtain ⟨kn, n, hn, hx, e⟩ := bound_sound hv e
      subst hx
      rw [M.exec_bind] at e
      have r1 := run_sliceBound (P := P) w kn (n : Int) cap (if isSlice then .sliceAcap else .sliceAlen) (by omega) (by omega)
      cases hl with
      | none =>
        simp only [boundM_none] at e
        exact ⟨0, n, cap, e, Nat.zero_le _, by omega, by omega, Nat.le_refl _, fun _ => rfl, by simp, by
          simp [Instr.sliceBounds, r1]⟩
      | some hv =>
        obtain ⟨kq, q, hq, hx, e⟩ := bound_sound hv e
        subst hx
        have r2 := run_sliceBound (P := P) w kq (q : Int) n .sliceB (by omega) (by omega)
        exact ⟨q, n, cap, e, by omega, by omega, by omega, Nat.le_refl _, fun _ => rfl, by simp, by
          simp [Instr.sliceBounds, r1, r2]⟩
  | some hv =>
    obtain ⟨kz, z, hz, hx, e⟩ := bound_sound hv e
    subst hx
    rw [M.exec_bind] at e
    have r0 := run_sliceBound (P := P) w kz (z : Int) cap (if isSlice then .slice3Acap else .slice3Alen) (by omega) (by omega)
    cases hh with
    | none => simp at hmh
    | some hv =>
      obtain ⟨kn, n, hn, hx, e⟩ := bound_sound hv e
      subst hx
      rw [M.exec_bind] at e
      have r1 := run_sliceBound (P := P) w kn (n : Int) z .slice3B (by omega) (by omega)
      cases hl with
      | none =>
        simp only [boundM_none] at e
        exact ⟨0, n, z, e, Nat.zero_le _, by omega, by omega, by omega, by simp, by simp, by
          simp [Instr.sliceBounds, r0, r1]⟩
      | some hv =>
        obtain ⟨kq, q, hq, hx, e⟩ := bound_sound hv e
        subst hx
        have r2 := run_sliceBound (P := P) w kq (q : Int) n .slice3C (by omega) (by omega)
        exact ⟨q, n, z, e, by omega, by omega, by omega, by omega, by simp, by simp, by
          simp [Instr.sliceBounds, r0, r1, r2]⟩

theorem ba_extract (s : List UInt8) (lo hi : Nat) : (⟨s.toArray⟩ : ByteArray).extract lo hi = ⟨((s.take hi).drop lo).toArray⟩ := by
  apply ByteArray.ext
  simp only [ByteArray.data_extract, List.extract_toArray, List.extract_eq_take_drop]
  congr 1
  by_cases h : lo ≤ hi
  · rw [List.take_drop]; congr 2; omega
  · have e1 : hi - lo = 0 := by omega
    rw [e1, List.take_zero]
    symm
    apply List.drop_eq_nil_of_le
    simp; omega

theorem CRepLL.part {w : World} {h : Hw} {b es lo hi : Nat} {l : List (List CV)} {off : Nat} (hes : ∀ c ∈ l, c.length = es) (hlo : lo ≤ hi) (hhi : hi ≤ l.length) (x : CRepLL w h b off l) :
    CRepLL w h b (off + lo * es) ((l.take hi).drop lo) := by
  have h1 := (x.take hi).drop lo
  have h2 : ((List.take lo (List.take hi l)).map List.length).sum = lo * es := by
    rw [sum_len (es := es) (fun c hc => hes c (List.mem_of_mem_take (List.mem_of_mem_take hc)))]
    congr 1
    simp; omega
  rw [h2] at h1
  exact h1

theorem op_slice (S : Sim P B W0 d σ a w G) {t : TypeId} {x : Operand} {l h m : Option Operand} (ho : o.op = .slice t x l h m) {k : List W → List Loc → Option β}
    (e : (opM P d ops o).exec call σ acc k = some r) : OpDone P B W0 d o σ a w G k r := by
  unfold opM at e
  rw [ho] at e
  simp only [M.exec_bind'] at e
  obtain ⟨v, acc', e, hv⟩ := opd_sound S _ e
  obtain ⟨lv, acc', e, hl⟩ := oopd_sound S _ e
  obtain ⟨hv', acc', e, hh⟩ := oopd_sound S _ e
  obtain ⟨mv, acc', e, hm⟩ := oopd_sound S _ e
  generalize hmx : m.map a.eval = mx at hm
  unfold sliceM at e
  split at e
  · -- string
    rename_i ht
    rw [M.exec_bind] at e
    obtain ⟨c, e, hc⟩ := cv_sound hv e
    simp only [M.exec] at e
    obtain ⟨hmn, e⟩ := chkO_some e
    obtain ⟨s, hs, e⟩ := optO_some e
    rw [asS_some hs] at hc
    simp only [CRep] at hc
    rw [M.exec_bind] at e
    have hmn : mx = none := by
      cases hm with
      | none => rfl
      | some _ => simp at hmn
    obtain ⟨lo, hi, mm, e, h1, h2, h3, h4, h5, h6, h7⟩ := lowHigh_sound (isSlice := false) (Nat.le_refl s.length) hl hh (m := none) (mx := none) .none (by simp) e
    refine OpDone.pure (x := .string ⟨((s.take hi).drop lo).toArray⟩) S e ?_ fun t _ => by simp only [ARep, CRep, Int.toNat_natCast]
    have hz : (⟨s.toArray⟩ : ByteArray).size = s.length := by simp [ByteArray.size]
    simp [execOp, ho, hc, hmx, hmn, Instr.sliceAt, Instr.slice, run_underlying ht, hz, h7, ba_extract]
  · -- slice
    rename_i el ht
    rw [M.exec_bind] at e
    obtain ⟨c, e, hc⟩ := cv_sound hv e
    simp only [M.exec] at e
    obtain ⟨p, hp, e⟩ := optO_some e
    obtain ⟨hpos, e⟩ := chkO_some e
    obtain ⟨hmh, e⟩ := chkO_some e
    obtain ⟨hes, e⟩ := chkO_some e
    rw [asL_some hp] at hc
    have hpos : P.cellsOf el ≠ 0 := by simpa using hpos
    have hes : ∀ c ∈ p.2, c.length = P.cellsOf el := by simpa using hes
    rw [M.exec_bind] at e
    -- the array behind it
    have shape : ∃ (ad : Option Addr) (cap : Nat), a.eval x = .slice ad p.2.length cap ∧ p.2.length ≤ cap ∧ p.1 = ad.isNone := by
      simp only [CRep] at hc
      rcases hc with ⟨q1, q2, q3⟩ | ⟨q1, b, off, cap, es, q2, q3, _⟩
      · exact ⟨none, 0, by rw [q3, q2]; rfl, by simp [q2], by simp [q1]⟩
      · exact ⟨_, cap, q2, q3, by simp [q1]⟩
    obtain ⟨ad, cap, hx, hcap, hnil⟩ := shape
    obtain ⟨lo, hi, mm, e, h1, h2, h3, h4, h5, h6, h7⟩ := lowHigh_sound (isSlice := true) hcap hl hh hm (by intro q; simpa [q] using hmh) e
    have run : (execOp a.eval o).run P w = .ok (.value (.slice (if mm = lo then ad else ad.map (·.add (lo * P.cellsOf el))) (hi - lo) (mm - lo))) w := by
      simp [execOp, ho, hx, hmx, Instr.sliceAt, Instr.slice, run_underlying ht, h7, run_sizeOf' hpos]
    -- what is left stands for it
    have rep : ∀ (full : Bool) (q : Place), (full = true → mm = hi) →
        ARep P w G q (if full then .lst false p.1 el ((p.2.take hi).drop lo) else .val (.list p.1 ((p.2.take hi).drop lo)))
          (.slice (if mm = lo then ad else ad.map (·.add (lo * P.cellsOf el))) (hi - lo) (mm - lo)) := by
      intro full q hfull
      simp only [CRep] at hc
      rcases hc with ⟨q1, q2, q3⟩ | ⟨q1, b, off, cap', es, q2, q3, q4, q5, q6⟩
      · rw [hx] at q3
        simp only [Value.slice.injEq] at q3
        obtain ⟨rfl, hl0, rfl⟩ := q3
        have e0 : p.2 = [] := q2
        have : mm = 0 := by omega
        have : hi = 0 := by omega
        have : lo = 0 := by omega
        subst_vars
        cases full <;> simp [ARep, CRep, q1, e0]
      · rw [hx] at q2
        simp only [Value.slice.injEq] at q2
        obtain ⟨rfl, _, rfl⟩ := q2
        have len : ((p.2.take hi).drop lo).length = hi - lo := by simp; omega
        have mem : ∀ c ∈ (p.2.take hi).drop lo, c.length = P.cellsOf el := fun c hcc => hes c (List.mem_of_mem_take (List.mem_of_mem_drop hcc))
        have hee : p.2.length * es = p.2.length * P.cellsOf el := by
          cases hp2 : p.2 with
          | nil => simp
          | cons y ys => rw [← q4 y (by simp [hp2]), hes y (by simp [hp2])]
        have q5' : off + p.2.length * P.cellsOf el ≤ G.hw b := by rw [← hee]; exact q5
        have hmul : hi * P.cellsOf el ≤ p.2.length * P.cellsOf el := Nat.mul_le_mul_right _ h2
        have hsub : lo * P.cellsOf el + (hi - lo) * P.cellsOf el = hi * P.cellsOf el := by rw [← Nat.add_mul]; congr 1; omega
        have part := q6.part hes h1 h2
        by_cases hml : mm = lo
        · -- nothing is left
          have e1 : hi = lo := by omega
          have e0 : (p.2.take hi).drop lo = [] := by apply List.eq_nil_of_length_eq_zero; rw [len]; omega
          rw [if_pos hml, e0]
          have e2 : hi - lo = 0 := by omega
          have e3 : mm - lo = 0 := by omega
          rw [e2, e3]
          cases full
          · simp only [Bool.false_eq_true, if_false, ARep, CRep]
            exact .inr ⟨q1, b, off, 0, P.cellsOf el, rfl, by simp, by simp, by simp; omega, by simp [CRepLL]⟩
          · simp only [if_true, ARep]
            exact .inr ⟨q1, b, off, 0, rfl, by simp, by simp, by simp; omega, by simp [CRepLL], .inl (by simp)⟩
        · rw [if_neg hml]
          simp only [Option.map_some, add_cellA]
          cases full
          · simp only [Bool.false_eq_true, if_false, ARep, CRep]
            exact .inr ⟨q1, b, off + lo * P.cellsOf el, mm - lo, P.cellsOf el, by rw [len], by rw [len]; omega, mem, by rw [len]; omega, part⟩
          · simp only [if_true, ARep]
            exact .inr ⟨q1, b, off + lo * P.cellsOf el, mm - lo, by rw [len], by rw [len]; omega, mem, by rw [len]; omega, part, .inl ⟨trivial, by rw [len, hfull rfl]⟩⟩
    cases hm with
    | none =>
      simp only [M.exec] at e
      refine OpDone.pure S e run fun t _ => ?_
      have := rep false (.tmp d t) (by simp)
      simpa only [Int.toNat_natCast, Bool.false_eq_true, if_false] using this
    | some hq =>
      rw [M.exec_bind] at e
      obtain ⟨c2, e, hc2⟩ := cv_sound hq e
      simp only [M.exec] at e
      obtain ⟨z, hz, e⟩ := optO_some e
      obtain ⟨hzh, e⟩ := chkO_some e
      obtain ⟨kz, hek⟩ := asN_some hz
      rw [hek] at hc2
      simp only [CRep] at hc2
      obtain ⟨km, h6'⟩ := h6 _ rfl
      rw [hc2] at h6'
      simp only [Value.int.injEq] at h6'
      have hzh : z = (hi : Int) := by simpa using hzh
      refine OpDone.pure S e run fun t _ => ?_
      have := rep true (.tmp d t) (fun _ => by omega)
      simpa only [Int.toNat_natCast, if_true] using this
  · simp [M.exec] at e
end Go.Am
