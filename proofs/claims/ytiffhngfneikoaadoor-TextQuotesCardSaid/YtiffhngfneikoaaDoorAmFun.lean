/- The abstract machine's evaluation of functions is sound. Conditions: none. -/
import Derived.Test.YtiffhngfneikoaaDoorAmCode
namespace Go.Am
open Go.RowKit
variable {P : Program} {B : Nat} {W0 : Base} {d : Nat} {σ : St} {a : Act} {w : World} {G : Gh} {β : Type} {call : FuncId → List CV → Option CV}
  {inl : FuncId → List AV → MemT → (AV → MemT → Option β) → Option β} {r : β} {m : Nat}

/-- no function of the program is one that the machine answers itself -/
def NamesOk (P : Program) : Prop := ∀ (f : FuncId) (fn : Func), P.funcs[f]? = some fn → (fn.name == "runtime.NumGoroutine") = false

theorem run_callFunc_enter (N : NamesOk P) {f : FuncId} {fn : Func} {c : Code} (hf : P.funcs[f]? = some fn) (hb : fn.body = some c) (args : Array Value) (w : World) :
    (callFunc f args).run P w = .ok (.enter f args) w := by
  have hn : fn.name ≠ "runtime.NumGoroutine" := by simpa using N f fn hf
  simp [callFunc, hf, hn, hb]

/-! results -/
def Pts (P : Program) (w : World) (G : Gh) : List AV → List Value → Prop
  | [], xs => xs = []
  | v :: vs, xs => ∃ x r, xs = x :: r ∧ (∃ p, ARep P w G p v x) ∧ Pts P w G vs r
theorem Pts.copy : ∀ {vs : List AV} {xs : List Value}, Pts P w G vs xs → ARepL P w G (vs.map AV.copy) xs
  | [], xs, h => by simp only [Pts] at h; subst h; simp [ARepL]
  | v :: vs, xs, h => by
    simp only [Pts] at h
    obtain ⟨x, r, rfl, ⟨p, hp⟩, h⟩ := h
    simp only [List.map_cons, ARepL]
    exact ⟨x, r, rfl, hp.copy, h.copy⟩
theorem Pts.data : ∀ {vs : List AV} {xs : List Value} {cs : List CV}, Pts P w G vs xs → allCV vs = some cs → CRepT w G.hw cs xs
  | [], xs, cs, h, e => by
    simp only [Pts] at h; subst h
    simp [allCV] at e; subst e; simp [CRepT]
  | v :: vs, xs, cs, h, e => by
    simp only [Pts] at h
    obtain ⟨x, r, rfl, ⟨p, hp⟩, h⟩ := h
    cases v with
    | val c =>
      simp only [allCV] at e
      obtain ⟨cs', he, rfl⟩ := Option.map_eq_some_iff.1 e
      simp only [ARep] at hp
      simp only [CRepT]
      exact ⟨x, r, rfl, hp, h.data he⟩
    | lst own n e' l =>
      simp only [allCV] at e
      obtain ⟨cs', he, rfl⟩ := Option.map_eq_some_iff.1 e
      simp only [CRepT]
      exact ⟨x, r, rfl, hp.list, h.data he⟩
    | _ => simp [allCV] at e
theorem resOf_sound {vs : List AV} {xs : List Value} (h : Pts P w G vs xs) : ARep P w G .none (resOf vs).copy (if h : xs.toArray.size = 1 then xs.toArray[0] else .tuple xs.toArray) := by
  unfold resOf
  split
  · rename_i v
    simp only [Pts] at h
    obtain ⟨x, r, rfl, ⟨p, hp⟩, rfl⟩ := h
    simpa using hp.copy
  · rename_i hne
    have hl : xs.toArray.size ≠ 1 := by
      intro e
      cases vs with
      | nil => simp only [Pts] at h; subst h; simp at e
      | cons v vs =>
        simp only [Pts] at h
        obtain ⟨x, r, rfl, _, h⟩ := h
        cases vs with
        | nil => exact hne v rfl
        | cons v' vs =>
          simp only [Pts] at h
          obtain ⟨x', r', rfl, _⟩ := h
          simp at e
    rw [dif_neg hl]
    split
    · rename_i cs hcs
      simp only [AV.copy, ARep, CRep]
      exact ⟨xs, rfl, h.data hcs⟩
    · simp only [AV.copy, ARep]
      exact ⟨xs, rfl, h.copy⟩

theorem resVals_sound (S : Sim P B W0 d σ a w G) : ∀ {rs : List ResultVar} {vs : List AV}, resVals P σ rs = some vs →
    ∃ xs : List Value, (rs.mapM (m := Sem) fun | .tmp t => pure (a.tmps.getD t undef) | .cell b t => do loadVar t (← asAddr (a.tmps.getD b undef))).run P w = .ok xs w ∧ Pts P w G vs xs
  | [], vs, h => by
    simp [resVals] at h; subst h
    exact ⟨[], by simp, rfl⟩
  | x :: rs, vs, h => by
    unfold resVals at h
    split at h
    · cases h
    · rename_i vs' hvs
      obtain ⟨xs, hx, hp⟩ := resVals_sound S hvs
      have fin : ∀ {v : AV} {u : Value} {p : Place}, vs = v :: vs' → ARep P w G p v u → ∀ {f : ResultVar → Sem Value}, (f x).run P w = .ok u w → (rs.mapM (m := Sem) f).run P w = .ok xs w → ∃ xs : List Value, ((x :: rs).mapM (m := Sem) f).run P w = .ok xs w ∧ Pts P w G vs xs :=
        fun {v u p} e hv f hr hm => ⟨u :: xs, by simp only [List.mapM_cons, Sem.run_bind, hr, hm, Result.andThen_ok, Sem.run_pure], by rw [e]; exact ⟨u, xs, rfl, ⟨p, hv⟩, hp⟩⟩
      split at h
      · rename_i t
        simp only [Option.some.injEq] at h
        exact fin h.symm (S.fr.rep t) (by simp) hx
      · rename_i b t
        split at h
        · rename_i d' s off hb
          have hptr := S.fr.rep b
          rw [hb] at hptr
          simp only [ARep] at hptr
          obtain ⟨bl, hbl, hv⟩ := hptr
          split at h
          · cases h
          · rename_i hchk
            rw [Bool.and_eq_true] at hchk
            obtain ⟨hu, hall⟩ := hchk
            rw [List.all_eq_true] at hall
            have hall : ∀ i, i < P.cellsOf t → σ.has (.cell d' s (off + i)) = true := fun i hi => hall i (by simpa using hi)
            split at h
            · rename_i hagg
              split at h
              · rename_i h0
                simp only [Option.some.injEq] at h
                obtain ⟨u, q1, q2, q3⟩ := cell_of_has S hbl h0
                refine fin h.symm q3 ?_ hx
                simp [hv, asAddr, loadVar, run_isAgg hu, hagg, q1]
              · cases h
            · rename_i hagg
              simp only [Option.some.injEq] at h
              have all : ∀ i, i < P.cellsOf t → ∃ u, w.cell? (cellA bl (off + i)) = some u ∧ u.oneCell' = true ∧ ARep P w G (.cell d' s (off + i)) (cellOf σ.mem d' s (off + i)) u :=
                fun i hi => cell_of_has S hbl (hall i hi)
              have : ∃ us : List Value, us.length = P.cellsOf t ∧ ∀ i, i < P.cellsOf t → ∃ u, us[i]? = some u ∧ w.cell? (cellA bl (off + i)) = some u ∧ u.oneCell' = true ∧ ARep P w G (.cell d' s (off + i)) (cellOf σ.mem d' s (off + i)) u := by
                refine ⟨(List.range (P.cellsOf t)).map fun i => (w.cell? (cellA bl (off + i))).getD undef, by simp, fun i hi => ?_⟩
                obtain ⟨u, q1, q2, q3⟩ := all i hi
                exact ⟨u, by simp [hi, q1], q1, q2, q3⟩
              obtain ⟨us, hul, hus⟩ := this
              have hcells : Cells P w G (fun i => .cell d' s (off + i)) ((List.range (P.cellsOf t)).map fun i => cellOf σ.mem d' s (off + i)) us := by
                refine ⟨by rw [hul]; simp, fun i hi => ?_⟩
                have hi : i < P.cellsOf t := by simpa using hi
                obtain ⟨u, q1, q2, q3, q4⟩ := hus i hi
                refine ⟨u, q1, q3, ?_⟩
                rw [nthD_get]
                simp [hi]
                exact q4
              refine fin h.symm (mkAgg_sound hcells .none) ?_ hx
              have hload := run_loadCells_list (P := P) w (cellA bl off) us (fun j u hj => by
                have hj' : j < us.length := (List.getElem?_eq_some_iff.1 hj).1
                obtain ⟨u', q1, q2, _⟩ := hus j (by omega)
                rw [add_cellA, q2, ← q1, hj])
              rw [hul] at hload
              simp [hv, asAddr, loadVar, run_isAgg hu, hagg, run_sizeOf_of hu, hload]
        · cases h

theorem results_sound (S : Sim P B W0 d σ a w G) {fn : Func} {vs : List AV} (h : resVals P σ fn.results.toList = some vs) :
    ∃ v, (results fn a.tmps).run P w = .ok v w ∧ ARep P w G .none (resOf vs).copy v := by
  obtain ⟨xs, hx, hp⟩ := resVals_sound S h
  rw [← Array.toList_mapM] at hx
  refine ⟨_, ?_, resOf_sound hp⟩
  unfold results
  simp only [Sem.run_map, Sem.run_bind] at hx ⊢
  generalize (Array.mapM (m := Sem) _ fn.results).run P w = R at hx ⊢
  cases R with
  | ok x w' =>
    simp only [Result.andThen_ok, Result.ok.injEq] at hx
    obtain ⟨h3, rfl⟩ := hx
    subst h3
    simp
  | halt x w' => simp [Result.andThen] at hx

/-! calls in place -/
theorem ARepL.length : ∀ {vs : List AV} {xs : List Value}, ARepL P w G vs xs → xs.length = vs.length
  | [], xs, h => by simp only [ARepL] at h; simp [h]
  | v :: vs, xs, h => by
    simp only [ARepL] at h
    obtain ⟨x, r, rfl, _, h⟩ := h
    simp [ARepL.length h]
theorem ARepL.getD : ∀ {vs : List AV} {xs : List Value}, ARepL P w G vs xs → ∀ i, i < vs.length → ARep P w G .none (nthD .any vs i) (xs.getD i undef)
  | [], xs, h, i, hi => by simp at hi
  | v :: vs, xs, h, i, hi => by
    simp only [ARepL] at h
    obtain ⟨x, r, rfl, hv, h⟩ := h
    cases i with
    | zero => simpa [nthD] using hv
    | succ i => simpa [nthD] using ARepL.getD h i (by simpa using hi)
theorem Mem.congr {mem mem' : MemT} (M : Mem P B W0 w G mem) (h : ∀ d s, box? mem' d s = box? mem d s) : Mem P B W0 w G mem' :=
  ⟨M.below, M.base, M.own, M.hw, fun d s hb => M.blk d s (by rw [← h]; exact hb), fun d s cs hb => M.box d s cs (by rw [← h]; exact hb), M.inj, M.glob⟩
theorem box?_append (mem : MemT) (n : Nat) (d s : Nat) : box? (mem ++ [List.replicate n none]) d s = box? mem d s := by
  unfold box?
  simp only [nthD_get]
  by_cases h : d < mem.length
  · rw [List.getElem?_append_left h]
  · rw [List.getElem?_append_right (by omega), List.getElem?_eq_none (l := mem) (by omega)]
    by_cases e : d = mem.length
    · subst e
      simp [List.getElem?_replicate]
      split <;> rfl
    · have h2 : ([List.replicate n none] : MemT)[d - mem.length]? = none := List.getElem?_eq_none (by simp; omega)
      rw [h2]
theorem AV.copy_copy (v : AV) : v.copy.copy = v.copy := by
  cases v with
  | lst own n e l => cases own <;> rfl
  | _ => rfl
theorem AV.copy_scrub {p : Nat → Nat → Bool} (v : AV) : (v.copy.scrub p).copy = v.copy.scrub p := by
  unfold AV.scrub
  split
  · rfl
  · exact v.copy_copy

theorem evF_body {f : FuncId} {vs : List AV} {mem : MemT} {k : AV → MemT → Option β} {K : Cfg} (h : evFStep P K call m inl f vs mem k = some r) :
    ∃ fn c, P.funcs[f]? = some fn ∧ fn.body = some c ∧ evN P call inl m mem.length 1000 c (retK P fn.results.toList mem.length k) { tmps := vs ++ List.replicate (fn.ntmps - vs.length) .any, mem := mem ++ [List.replicate fn.ntmps none], K := K } = some r := by
  unfold evFStep at h
  split at h
  · rename_i fn hf
    split at h
    · rename_i c hb
      exact ⟨fn, c, hf, hb, h⟩
    · cases h
  · cases h

theorem evFStep_sound (SE : StructEqOk P) (N : NamesOk P) (CO : CallOK P B W0 call) (hmix : P.follows .mixedOrders = true) (Iok : InlOK P B W0 inl) : InlOK P B W0 (evFStep P W0.K call m inl) := by
  refine ⟨fun {f vs mem k r} h w G D M hD xs hx => ?_⟩
  subst hD
  obtain ⟨fn, c, hf, hb, h⟩ := evF_body h
  refine ⟨fun w' => run_callFunc_enter N hf hb _ w', calls_of_wp hf hb ?_⟩
  have hlen := hx.length
  have S : Sim P B W0 mem.length { tmps := vs ++ List.replicate (fn.ntmps - vs.length) .any, mem := mem ++ [List.replicate fn.ntmps none], K := W0.K } { tmps := xs.toArray ++ Array.replicate (fn.ntmps - xs.toArray.size) undef, defers := [] } w G := by
    refine ⟨M.congr (box?_append mem _), by simp, ⟨by simp [hlen], fun i => ?_⟩, rfl, rfl⟩
    by_cases hi : i < vs.length
    · have e1 : nthD .any (vs ++ List.replicate (fn.ntmps - vs.length) AV.any) i = nthD .any vs i := by
        rw [nthD_get, nthD_get, List.getElem?_append_left hi]
      have e2 : (xs.toArray ++ Array.replicate (fn.ntmps - xs.toArray.size) undef).getD i undef = xs.getD i undef := by
        rw [Array.getD_eq_getD_getElem?, Array.getElem?_append_left (by simp; omega)]
        simp
      rw [e1, e2]
      exact ARep.ofNone M.noNone (hx.getD i hi)
    · have e1 : nthD .any (vs ++ List.replicate (fn.ntmps - vs.length) AV.any) i = .any := by
        rw [nthD_get, List.getElem?_append_right (by omega), List.getElem?_replicate]
        split <;> rfl
      rw [e1]
      simp [ARep]
  refine evN_sound SE CO Iok hmix 1000 c _ _ h _ w G S _ fun e a' w' G' σ' S' K' hk => ?_
  have fin : (optO (resVals P σ' fn.results.toList) fun vs => k ((resOf vs).copy.scrub fun d' _ => d' == mem.length) (scrubMem (fun d' _ => d' == mem.length) (σ'.mem.take mem.length))) = some r →
      a'.defers = [] ∧ ∃ v, (results fn a'.tmps).run P w' = .ok v w' ∧ (∃ v' x mem' G', (Ending.returned v) = .returned x ∧ k v' mem' = some r ∧ Mem P B W0 w' G' mem' ∧ mem'.length = mem.length ∧ ARep P w' G' .none v' x ∧ v'.copy = v' ∧ Keeps B mem.length w w' G G') := by
    intro h
    obtain ⟨rv, hr, h⟩ := optO_some h
    obtain ⟨v, h1, h2⟩ := results_sound S' hr
    have hl := S'.depth
    refine ⟨S'.defers, v, h1, _, v, _, G'.drop fun d' _ => d' == mem.length, rfl, h, S'.mem.drop fun d s => ?_, by simp [scrubMem]; omega, h2.scrub (by intro d s o h; cases h), AV.copy_scrub _, K'.trans (Keeps.drop fun d' s hd => by simp; omega)⟩
    rw [box?_scrub]
    unfold dropBox
    by_cases e : d = mem.length
    · subst e
      have : box? (σ'.mem.take mem.length) mem.length s = none := by
        unfold box?
        rw [nthD_get [], List.getElem?_eq_none (by simp; omega)]
        rfl
      rw [this]
      simp
    · have : box? (σ'.mem.take mem.length) d s = box? σ'.mem d s := by
        unfold box?
        rw [nthD_get [], nthD_get []]
        by_cases hlt : d < mem.length
        · rw [List.getElem?_take, if_pos hlt]
        · rw [List.getElem?_eq_none (by simp; omega), List.getElem?_eq_none (by omega)]
      rw [this]
      simp [e]
  cases e with
  | exit id => cases hk
  | normal => exact fin hk
  | ret => exact fin hk

/-- what is said of functions that are called in place holds -/
def HookOK (P : Program) (B : Nat) (W0 : Base) : Prop :=
  ∀ f g, W0.K.hook f = some g → ∀ vs mem l q b v mem', g vs mem = some (l, q) → bytesOf l = some b → q b = (v, mem') → ∀ w G D, Mem P B W0 w G mem → mem.length = D → ∀ xs : List Value, ARepL P w G vs xs →
    (∀ w', (callFunc f xs.toArray).run P w' = .ok (.enter f xs.toArray) w') ∧
    Calls P f xs.toArray w fun e w' => ∃ x G', e = .returned x ∧ Mem P B W0 w' G' mem' ∧ mem'.length = D ∧ ARep P w' G' .none v x ∧ v.copy = v ∧ Keeps B D w w' G G'
theorem hooked_sound (H : HookOK P B W0) (Iok : InlOK P B W0 inl) : InlOK P B W0 (hooked W0.K inl) := by
  refine ⟨fun {f vs mem k r} h w G D M hD xs hx => ?_⟩
  unfold hooked at h
  split at h
  · rename_i g hg
    obtain ⟨⟨l, q⟩, hp, h⟩ := optO_some h
    obtain ⟨b, hb, h⟩ := optO_some h
    obtain ⟨h1, h2⟩ := H f g hg vs mem l q b (q b).1 (q b).2 hp hb rfl w G D M hD xs hx
    exact ⟨h1, h2.mono fun e w' ⟨x, G', q1, q2, q3, q4, q5, q6⟩ => ⟨_, x, _, G', q1, h, q2, q3, q4, q5, q6⟩⟩
  · exact Iok.run h w G D M hD xs hx

theorem evF_sound (SE : StructEqOk P) (N : NamesOk P) (CO : CallOK P B W0 call) (H : HookOK P B W0) (hmix : P.follows .mixedOrders = true) : ∀ dp : Nat, InlOK (β := β) P B W0 (evF P W0.K call m dp)
  | 0 => ⟨fun h => by cases h⟩
  | dp + 1 => hooked_sound H (evFStep_sound SE N CO hmix (evF_sound SE N CO H hmix dp))

/-! calls -/
/-- the library's functions do as they are said to do, in worlds of a kind -/
def LibOK (P : Program) (T : World → Prop) (lib : FuncId → Option (List CV → Option CV)) : Prop :=
  ∀ f s, lib f = some s → ∀ args r, s args = some r → (∀ vs w, (callFunc f vs).run P w = .ok (.enter f vs) w) ∧
    ∀ (w : World) (h : Hw) (vs : List Value), T w → (∀ b, w.heap.size ≤ b → h b = 0) → CRepT w h args vs →
      Calls P f vs.toArray w fun e w' => ∃ v h', e = .returned v ∧ Below w.heap.size w w' ∧ (∀ b, b < w.heap.size → h' b = h b) ∧ (∀ b, w'.heap.size ≤ b → h' b = 0) ∧ CRep w' h' r v

theorem CRepT.vals : ∀ {cs : List CV} {xs : List Value}, CRepT w G.hw cs xs → ARepL P w G (cs.map .val) xs
  | [], xs, h => by simp only [CRepT] at h; subst h; simp [ARepL]
  | c :: cs, xs, h => by
    simp only [CRepT] at h
    obtain ⟨x, r, rfl, h1, h2⟩ := h
    simp only [List.map_cons, ARepL, ARep]
    exact ⟨x, r, rfl, h1, CRepT.vals h2⟩
theorem out_sound {v : AV} {c : CV} {x : Value} {p : Place} (h : v.out = some c) (hv : ARep P w G p v x) : CRep w G.hw c x := by
  cases v with
  | val c' => simp only [AV.out, Option.some.injEq] at h; subst h; simpa only [ARep] using hv
  | lst own n e l => simp only [AV.out, Option.some.injEq] at h; subst h; exact hv.list
  | _ => simp [AV.out] at h

theorem callF_sound (SE : StructEqOk P) (N : NamesOk P) (hmix : P.follows .mixedOrders = true) {K : Cfg} {T : World → Prop} {N0 : Nat} (hT : ∀ w w', Below N0 w w' → T w → T w')
    {lib : FuncId → Option (List CV → Option CV)} (L : LibOK P T lib) (H : ∀ (B : Nat) (W0 : Base), W0.K = K → N0 ≤ B → T W0.W → HookOK P B W0) :
    ∀ (n B : Nat) (W0 : Base), W0.K = K → N0 ≤ B → T W0.W → CallOK P B W0 (callF P K lib n)
  | 0, B, W0, _, _, _ => ⟨fun h => by simp [callF] at h, fun h => by simp [callF] at h⟩
  | n + 1, B, W0, hK, hB, hW => by
    subst hK
    have key : ∀ {f args r}, callF P W0.K lib (n + 1) f args = some r → (∃ s, lib f = some s ∧ s args = some r) ∨ evFStep P W0.K (callF P W0.K lib n) n (evF P W0.K (callF P W0.K lib n) n 9) f (args.map .val) [] outK = some r := by
      intro f args r h
      unfold callF at h
      split at h
      · rename_i s hs; exact .inl ⟨s, hs, h⟩
      · exact .inr h
    refine ⟨fun {f args r} h vs w => ?_, fun {f args r} h w hw vs hbel hglob hle hz hv => ?_⟩
    · rcases key h with ⟨s, hs, h⟩ | h
      · exact (L f s hs args r h).1 vs w
      · obtain ⟨fn, c, hf, hb, _⟩ := evF_body h
        exact run_callFunc_enter N hf hb vs w
    · have hTw : T w := hT _ _ (hbel.mono hB) hW
      rcases key h with ⟨s, hs, h⟩ | h
      · exact (L f s hs args r h).2 w hw vs hTw hz hv
      · have CO := callF_sound SE N hmix hT L H n w.heap.size ⟨w, W0.K⟩ rfl (Nat.le_trans hB hle) hTw
        have Iok : InlOK (β := CV) P w.heap.size ⟨w, W0.K⟩ (evFStep P W0.K (callF P W0.K lib n) n (evF P W0.K (callF P W0.K lib n) n 9)) :=
          evFStep_sound (W0 := ⟨w, W0.K⟩) SE N CO hmix (evF_sound (W0 := ⟨w, W0.K⟩) SE N CO (H _ ⟨w, W0.K⟩ rfl (Nat.le_trans hB hle) hTw) hmix 9)
        have M : Mem P w.heap.size ⟨w, W0.K⟩ w { blk := fun _ _ => none, hw := hw, own := fun _ => none } [] :=
          ⟨Below.refl _ _, Nat.le_refl _, fun b p h => (by cases h), hz, fun _ _ _ => rfl, fun d s cs h => (by simp [box?, nthD] at h), fun _ _ _ _ _ h => (by cases h), hglob⟩
        refine (Iok.run h w _ 0 M rfl vs (CRepT.vals hv)).2.mono fun e w' he => ?_
        obtain ⟨v, x, mem', G', rfl, hk, M', _, hr, _, K'⟩ := he
        exact ⟨x, G'.hw, rfl, K'.below, K'.low, M'.hw, out_sound hk hr⟩
end Go.Am
