/- cond.read on texts that laws read as examples: the part is evaluated in read's frame, the deferred closure finds no panic. Conditions: none. -/
import Derived.Test.YtmandbflbfkagaaGreatDoorCs
import Derived.Test.YtmandbflbfkagaaGreatDoorNh
import Derived.Tactics
import Derived.Tactics2
import Derived.Defers
import Derived.Recover
import Derived.Laws.Pointers
import Derived.BigRegion
namespace Go.Proofs
open Go.Am Go.RowKit
set_option maxRecDepth 100000

noncomputable def partK : AV → List (List (Option (List AV))) → Option CV := fun v mem => match v.out, mem with
  | some c, [[some [.val (.str r)]]] => some (.tup [c, .str r])
  | _, _ => none
noncomputable def partR (lb n : Nat) (s : List UInt8) : Option CV := evF Tryz.prog KK (C lb n) n 9 76 [.ptr 0 0 0] [[some [.val (.str s)]]] partK
noncomputable def partRN (lb n : Nat) (s : List UInt8) : Option CV := evFN Tryz.prog KK (callN Tryz.prog KK (L lb) n) n 9 76 [.ptr 0 0 0] [[some [.val (.str s)]]] partK
theorem partR_eq (lb n : Nat) (s : List UInt8) : partR lb n s = partRN lb n s := by
  show evF Tryz.prog KK (callF Tryz.prog KK (L lb) n) n 9 _ _ _ _ = _
  rw [evFN_eq, callN_eq]
  rfl
theorem part_tab {s : List UInt8} {x : Int × Int × Int} (h : readTab s = some x) : partR 1 60 s = some (.tup [readC x, .str []]) := by
  rw [partR_eq]
  unfold readTab at h
  split at h
  · rename_i e; subst e; cases h; kernel_rfl
  · split at h
    · rename_i e; subst e; cases h; kernel_rfl
    · cases h

theorem part_run {lb n : Nat} (hL : LibOK Tryz.prog (Tw lb) (L lb)) {s r : List UInt8} {c : CV} (h : partR lb n s = some (.tup [c, .str r])) (w : World) (hT : Tw lb w) :
    Calls Tryz.prog 76 #[.pointer (some ⟨w.heap.size, 0, none⟩)] (w.alloc (.cells #[.string ⟨s.toArray⟩] 83)) fun e w' => ∃ v h', e = .returned v ∧ Below w.heap.size w w' ∧ CRep w' h' c v ∧
      w'.cell? ⟨w.heap.size, 0, none⟩ = some (.string ⟨r.toArray⟩) := by
  have CO : CallOK Tryz.prog w.heap.size ⟨w, KK⟩ (C lb n) :=
    callF_sound (structEqOk _) Tryz.names (Checked.mixed Tryz.checked) (K := KK) (T := fun w' => Below w.heap.size w w') (N0 := w.heap.size) (fun _ _ h1 h2 => h2.trans h1) (lib := L lb)
      (fun f s hs args r hr => ⟨(hL f s hs args r hr).1, fun w h vs hw hz hv => (hL f s hs args r hr).2 w h vs (Tw.below hT hw) hz hv⟩) (L_tight lb) (fun _ _ hK _ _ => hookOK hK)
      n w.heap.size ⟨w, KK⟩ rfl (Nat.le_refl _) (Below.refl _ _)
  have Iok : InlOK (β := CV) Tryz.prog w.heap.size ⟨w, KK⟩ (evF Tryz.prog KK (C lb n) n 9) := evF_sound (W0 := ⟨w, KK⟩) (structEqOk _) Tryz.names CO (hookOK rfl) (Checked.mixed Tryz.checked) 9
  have M0 : Mem Tryz.prog w.heap.size ⟨w, KK⟩ w { blk := fun _ _ => none, hw := fun _ => 0, own := fun _ => none } [[none]] :=
    ⟨Below.refl _ _, Nat.le_refl _, fun b p h => (by cases h), fun _ _ => rfl, fun _ _ _ => rfl, fun d s cs h => (by
      rcases d with _ | d <;> rcases s with _ | s <;> simp [box?, nthD] at h), fun _ _ _ _ _ h => (by cases h), fun _ _ hg => (by cases hg)⟩
  have M1 := M0.newBox (d := 0) (s := 0) (cs := [.val (.str s)]) (us := [.string ⟨s.toArray⟩]) (T := 83) rfl (by decide) (by decide) (fun pl => Cells.cons rfl (by simp [ARep, CRep]) Cells.nil)
  refine (Iok.run h _ _ 1 M1 rfl [.pointer (some (cellA w.heap.size 0))] (by
    simp only [ARepL, ARep]
    exact ⟨_, _, rfl, ⟨w.heap.size, by simp [Gh.put], rfl⟩, rfl⟩)).2.mono fun e w' he => ?_
  obtain ⟨v, x, mem', G', rfl, hk, M', hlen, hr, _, K'⟩ := he
  unfold partK at hk
  split at hk
  · rename_i c' r' ho
    simp only [Option.some.injEq, CV.tup.injEq, List.cons.injEq, CV.str.injEq, and_true] at hk
    obtain ⟨rfl, rfl⟩ := hk
    obtain ⟨b, vs, T, fz, R⟩ := M'.box 0 0 _ rfl
    have hb := K'.blk 0 0 w.heap.size (by decide) (by simp [Gh.put])
    have hbb := R.blk.symm.trans hb
    simp only [Option.some.injEq] at hbb
    subst hbb
    obtain ⟨u, h1, _, h3⟩ := R.rep.rep 0 (by simp)
    simp only [nthD, ARep, CRep] at h3
    subst h3
    refine ⟨x, G'.hw, rfl, M'.below, out_sound ho hr, ?_⟩
    have hh := R.heap
    simp only [World.cell?, hh]
    simpa using h1
  · cases hk
theorem read_idle (p q : Addr) (w : World) :
    CallsD Tryz.prog 75 #[.pointer (some p), .pointer (some q)] .returning w fun e u' w' => e = .returned (.tuple #[]) ∧ u' = .returning ∧ w' = w := by
  refine callsD_of_wpS Tryz.func75 rfl fun c₀ cs hu => ?_
  apply wpS_seq
  apply wpS_region
  simp [wpOpsS, go_sem, recoverD, hu, Tryz.ntmps75, Exit.thenS]
  apply wpS_seq
  apply wpS_region
  simp [wpOpsS, go_sem, recoverD, hu, Exit.thenS]
  refine wpS_cond (t := false) (by simp [Act.eval, Array.replicate]) ?_
  simp only [Bool.false_eq_true, if_false]
  refine wpS_of_wp (wp_skip ?_)
  cases c₀
  simp_all [bodyPostS, results, Tryz.results75]

/-- eight cells of a block -/
def Cells8 (n : Nat) (l : List Value) (W : World) : Prop := l.length = 8 ∧ ∀ i, i < 8 → W.cell? ⟨n, i, none⟩ = l[i]?
theorem Cells8.set {n : Nat} {l : List Value} {W : World} (h : Cells8 n l W) (i : Nat) (v : Value) (hi : i < 8) : Cells8 n (l.set i v) (W.setCell ⟨n, i, none⟩ v) := by
  refine ⟨by rw [List.length_set]; exact h.1, fun j hj => ?_⟩
  by_cases e : i = j
  · subst e
    have hl : i < l.length := by rw [h.1]; exact hi
    rw [List.getElem?_set_self hl]
    exact World.cell?_setCell_same _ _ _ ((h.2 i hi).trans (List.getElem?_eq_getElem hl))
  · rw [List.getElem?_set_ne e, World.cell?_setCell_other _ _ _ _ (by intro q; simp only [Addr.mk.injEq, true_and, and_true] at q; exact e q)]
    exact h.2 j hj
theorem Cells8.other {n : Nat} {l : List Value} {W : World} {p : Addr} {v : Value} (h : Cells8 n l W) (hp : p.block ≠ n) : Cells8 n l (W.setCell p v) :=
  ⟨h.1, fun j hj => (World.cell?_setCell_other _ _ _ _ (by intro q; exact hp (by rw [q]))).trans (h.2 j hj)⟩
theorem Cells8.drew {n : Nat} {l : List Value} {W : World} (h : Cells8 n l W) : Cells8 n l W.drew := h
set_option maxHeartbeats 4000000 in
theorem read_run {lb n : Nat} (hL : LibOK Tryz.prog (Tw lb) (L lb)) {s : List UInt8} {x : Int × Int × Int} (h : partR lb n s = some (.tup [readC x, .str []])) (w : World) (hT : Tw lb w) :
    Calls Tryz.prog 46 #[.string ⟨s.toArray⟩] w fun e w' =>
      e = .returned (.tuple #[.agg #[.int .i64 x.1, .slice none 0 0, .int .i64 x.2.1, .int .i64 x.2.2, .int .i64 0, .int .i64 0, .int .i64 0, .slice none 0 0], .bool true]) ∧ Below w.heap.size w w' := by
  have hmf : ∀ (fn : Fn) (first cap : Array Value) (w : World), (Instr.makeFunc fn first cap).run Tryz.prog w = .ok (.func fn first cap) w := fun _ _ _ _ => rfl
  go_enter_defers Tryz.func46, Tryz.ntmps46
  have hb2 : ∀ A B : Obj, Below w.heap.size w ((w.alloc A).alloc B) := fun A B => ((Below.refl _ _).alloc (Nat.le_refl _) A).alloc (by simp) B
  have hsz : ∀ A B : Obj, ((w.alloc A).alloc B).heap.size = w.heap.size + 2 := fun A B => by simp
  have hp : ∀ (b : Nat) (W : World), Tw lb W → W.heap.size = b → Calls Tryz.prog 76 #[.pointer (some ⟨b, 0, none⟩)] (W.alloc (.cells #[.string ⟨s.toArray⟩] 83)) fun e w' => e = .returned (.agg #[.int .i64 x.1, .slice none 0 0, .int .i64 x.2.1, .int .i64 x.2.2, .int .i64 0, .int .i64 0, .int .i64 0, .slice none 0 0]) ∧ Below b W w' ∧
      w'.cell? ⟨b, 0, none⟩ = some (.string ⟨#[]⟩) := by
    intro b W hW hb
    subst hb
    refine (part_run hL h W hW).mono fun e w' ⟨v, h', h1, h2, h3, h4⟩ => ?_
    subst h1
    refine ⟨?_, h2, h4⟩
    simp only [readC, CRep, CRepV] at h3
    obtain ⟨vs, rfl, v1, r1, rfl, _, rfl, v2, r2, rfl, _, h3, v3, r3, rfl, _, rfl, v4, r4, rfl, _, rfl, v5, r5, rfl, _, rfl, v6, r6, rfl, _, rfl, v7, r7, rfl, _, rfl, v8, r8, rfl, _, h5, rfl⟩ := h3
    simp at h3 h5
    subst h3; subst h5
    rfl
  have hB : ∀ (A B : Obj) (w' : World), Below (w.heap.size + 2) ((w.alloc A).alloc B) w' → w'.heap[w.heap.size]? = some A ∧ w'.heap[w.heap.size + 1]? = some B := by
    intro A B w' hb
    refine ⟨?_, ?_⟩
    · rw [hb.block w.heap.size (by omega), Below.heap_alloc _ _ _ (by simp)]; exact heap_alloc_new w A
    · rw [hb.block (w.heap.size + 1) (by omega)]; have := heap_alloc_new (w.alloc A) B; simpa using this
  go_wp2_with (go_at_call 76; fail)
  refine (hp _ _ (Tw.below hT (hb2 _ _)) (hsz _ _)).mono ?_
  rintro e w' ⟨rfl, hbel, hcell⟩
  obtain ⟨g1, g2⟩ := hB _ _ _ hbel
  have c0 : w'.cell? ⟨w.heap.size, 0, none⟩ = some (.int .i64 0) := by simp only [World.cell?, g1]; rfl
  have c1 : w'.cell? ⟨w.heap.size, 1, none⟩ = some (.slice none 0 0) := by simp only [World.cell?, g1]; rfl
  have c2 : w'.cell? ⟨w.heap.size, 2, none⟩ = some (.int .i64 0) := by simp only [World.cell?, g1]; rfl
  have c3 : w'.cell? ⟨w.heap.size, 3, none⟩ = some (.int .i64 0) := by simp only [World.cell?, g1]; rfl
  have c4 : w'.cell? ⟨w.heap.size, 4, none⟩ = some (.int .i64 0) := by simp only [World.cell?, g1]; rfl
  have c5 : w'.cell? ⟨w.heap.size, 5, none⟩ = some (.int .i64 0) := by simp only [World.cell?, g1]; rfl
  have c6 : w'.cell? ⟨w.heap.size, 6, none⟩ = some (.int .i64 0) := by simp only [World.cell?, g1]; rfl
  have c7 : w'.cell? ⟨w.heap.size, 7, none⟩ = some (.slice none 0 0) := by simp only [World.cell?, g1]; rfl
  have d0 : w'.cell? ⟨w.heap.size + 1, 0, none⟩ = some (.bool false) := by simp only [World.cell?, g2]; rfl
  have z : ∀ o, w'.frozen? ⟨w.heap.size, o, none⟩ = false := by intro o; simp only [World.frozen?, g1]; simp
  have z1 : ∀ o, w'.frozen? ⟨w.heap.size + 1, o, none⟩ = false := by intro o; simp only [World.frozen?, g2]; simp
  go_wp2
  go_region
  go_wp2
  have hb0 : Below w.heap.size w w' := (hb2 _ _).trans (hbel.mono (by omega))
  refine (show ∀ W : World, Cells8 w.heap.size [.int .i64 x.1, .slice none 0 0, .int .i64 x.2.1, .int .i64 x.2.2, .int .i64 0, .int .i64 0, .int .i64 0, .slice none 0 0] W → W.cell? ⟨w.heap.size + 1, 0, none⟩ = some (.bool true) → Below w.heap.size w W → bodyPostD _ _ _ _ _ W from fun W k0 k1 k2 => ?_) _ ?_ ?_ ?_
  · have e0 := k0.2 0 (by decide)
    have e1 := k0.2 1 (by decide)
    have e2 := k0.2 2 (by decide)
    have e3 := k0.2 3 (by decide)
    have e4 := k0.2 4 (by decide)
    have e5 := k0.2 5 (by decide)
    have e6 := k0.2 6 (by decide)
    have e7 := k0.2 7 (by decide)
    simp only [List.getElem?_cons_zero, List.getElem?_cons_succ] at e0 e1 e2 e3 e4 e5 e6 e7
    refine leaves_cons (f := 75) (args := #[.pointer (some ⟨w.heap.size, 0, none⟩), .pointer (some ⟨w.heap.size + 1, 0, none⟩)]) (by simp) (by simp [go_sem]) ?_
    refine (read_idle _ _ _).mono ?_
    rintro e u' w'' ⟨rfl, rfl, rfl⟩
    simp [Leaves, settle, results, Tryz.results46, go_sem, e0, e1, e2, e3, e4, e5, e6, e7, k1]
    exact k2
  · have h0 : Cells8 w.heap.size [.int .i64 0, .slice none 0 0, .int .i64 0, .int .i64 0, .int .i64 0, .int .i64 0, .int .i64 0, .slice none 0 0] w' := by
      refine ⟨rfl, fun i hi => ?_⟩
      rcases i with _ | _ | _ | _ | _ | _ | _ | _ | i
      · exact c0
      · exact c1
      · exact c2
      · exact c3
      · exact c4
      · exact c5
      · exact c6
      · exact c7
      · omega
    refine Cells8.drew (Cells8.other ?_ (by simp))
    exact (h0.set 0 _ (by decide) |>.set 1 _ (by decide) |>.set 2 _ (by decide) |>.set 3 _ (by decide) |>.set 4 _ (by decide) |>.set 5 _ (by decide) |>.set 6 _ (by decide) |>.set 7 _ (by decide)
      |>.set 0 _ (by decide) |>.set 1 _ (by decide) |>.set 2 _ (by decide) |>.set 3 _ (by decide) |>.set 4 _ (by decide) |>.set 5 _ (by decide) |>.set 6 _ (by decide) |>.set 7 _ (by decide))
  · have hd : ∀ (W : World) (a : Addr), W.drew.cell? a = W.cell? a := fun _ _ => rfl
    rw [hd]
    refine World.cell?_setCell_same (u := .bool false) _ _ _ ?_
    iterate 16 refine (World.cell?_setCell_other _ _ _ _ (by simp)).trans ?_
    exact d0
  · have hd : ∀ {W : World}, Below w.heap.size w W → Below w.heap.size w W.drew := fun h => ⟨h.os, h.tape, h.output, h.size, h.block⟩
    refine hd ?_
    iterate 17 refine Below.setCell ?_ (by simp) _
    exact hb0
theorem ends_CondRead {lb : Nat} {args : List CV} {r : CV} (e : lib_CondRead args = some r) : Ends (lb + 2) F_cond_read args r := by
  unfold lib_CondRead at e
  split at e
  · rename_i s
    obtain ⟨x, hx, rfl⟩ := Option.map_eq_some_iff.1 e
    intro w h vs hT hz hv
    simp only [CRepT, CRep] at hv
    obtain ⟨v1, r1, rfl, rfl, rfl⟩ := hv
    refine (read_run (libOK1 1 (by decide)) (part_tab hx) w (hT.weak (by omega))).mono fun e w' ⟨h1, h2⟩ => ?_
    subst h1
    refine Ends.small hz h2 ?_
    unfold readC
    simp only [CRep, CRepT, CRepV]
    exact ⟨_, rfl, _, _, rfl, ⟨_, rfl, _, _, rfl, rfl, rfl, _, _, rfl, rfl, .inl ⟨trivial, trivial, rfl⟩, _, _, rfl, rfl, rfl, _, _, rfl, rfl, rfl, _, _, rfl, rfl, rfl, _, _, rfl, rfl, rfl, _, _, rfl, rfl, rfl, _, _, rfl, rfl, .inl ⟨trivial, trivial, rfl⟩, rfl⟩, _, _, rfl, rfl, rfl⟩
  · cases e
end Go.Proofs
