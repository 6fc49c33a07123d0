/- The evaluation without the held joins: the same, and the kernel can run it on given data. Conditions: none. -/
import Derived.Test.YtmpbijffaepkdaaGreatDoorAm
set_option linter.unusedSimpArgs false
namespace Go.Am
noncomputable def seqN {β : Type} (ev : Code → (Ex → St → Option β) → St → Option β) (a b : Code) (k : Ex → St → Option β) (e : Ex) (σ : St) : Option β :=
 match e with
 | .normal => ev b k (tidy a σ)
 | e => k e σ
noncomputable def QhO {β : Type} (d : Nat) (ts bs : List Nat) (next : St → Option β) (k : Ex → St → Option β) (e : Ex) (σ : St) : Option β :=
 match e with
 | .normal => next (clear d ts bs σ)
 | e => k e σ
noncomputable def Qjz {β : Type} (ev : Code → (Ex → St → Option β) → St → Option β) (d : Nat) (ts bs : List Nat) (a : Code) (k : Ex → St → Option β) (n : Nat) : St → Option β :=
 Nat.rec (fun _ => none) (fun _ ih => ev a (QhO d ts bs ih k)) n
noncomputable def QiE {β : Type} (D : Nat) (next : List (List (Option (List AV))) → Option β) (k : Ex → List (List (Option (List AV))) → Option β) (e : Ex) (σ : St) : Option β :=
 match e with
 | .normal => next (Qbx D σ.mem)
 | .exit id => k (.exit id) (Qbx D σ.mem)
 | .ret => k .ret (Qbx D σ.mem)
noncomputable def QgK {β : Type} (ev1 : Code → (Ex → St → Option β) → St → Option β) (D : Nat) (body : Code) (next : List (List (Option (List AV))) → Option β) (k : Ex → List (List (Option (List AV))) → Option β) (e : Ex) (σ : St) : Option β :=
 match e with
 | .normal => ev1 body (QiE D next k) σ
 | _ => none
noncomputable def Qis {β : Type} (ev1 : Code → (Ex → St → Option β) → St → Option β) (D : Nat) (asg body : Code) (ps : List Nat) (tm : List AV) (K : Cfg) (items : List (List CV)) (k : Ex → List (List (Option (List AV))) → Option β) (n : Nat) :
  Nat → List (List (Option (List AV))) → Option β :=
 Nat.rec (fun _ _ => none) (fun _ ih i mem => bif decide (i < items.length) then
   optO items[i]? fun x => lits ps.length x fun x => (ev1 asg (QgK ev1 D body (ih (i + 1)) k) { tmps := Qca tm ps x, mem := mem ++ [List.replicate tm.length none], K := K })
  else k .normal mem) n
noncomputable def Qfk {β : Type} (P : Program) (call : FuncId → List CV → Option CV)
  (inl : FuncId → List AV → List (List (Option (List AV))) → (AV → List (List (Option (List AV))) → Option β) → Option β)
  (m d : Nat) (rg : Bool) (ev ev1 : Code → (Ex → St → Option β) → St → Option β) (c : Code) (k : Ex → St → Option β) (σ : St) : Option β :=
 match c with
 | .skip => k .normal σ
 | .region _ ops draw =>
  match draw with
  | false => match QgL σ ops.toList with
   | false => opsK P call inl d ops.toList ops.toList (k .normal) σ
   | true => inl panF [] [] fun _ _ => none
  | true => chkO (Qbf 0 ops.toList) (Qbl P call inl d (Region.before ops).toList ops.toList ops.toList 0 [] (k .normal) σ)
 | .seq a b => ev a (seqN ev a b k) σ
 | .cond c a b => optO (Qf7 σ c) fun t => bif t then ev a (Qcw a b k) σ else ev b (Qcw a b k) σ
 | .block id a => ev a (QaR id k) σ
 | .loop a =>
  let ts := Qaz a ++ anys σ (Qbw a)
  let bs := Qfy σ d (QbN a)
  Qjz ev d ts bs a k m (clear d ts bs σ)
 | .exit id => k (.exit id) σ
 | .scope a => ev a k σ
 | .label _ => k .normal σ
 | .ret => k .ret σ
 | .rangeFunc g ps asg body => match rg with
  | true => chkO σ.K.pan.isNone <| optO (Qfd d σ g) fun q => optO (σ.K.iter q.1) fun it => optO (it (q.2.map (·.2))) fun items => chkO (items.all (·.length == ps.size)) <|
    let tm := σ.tmps.map fun v => v.copy.scrub (capP q.2)
    Qis ev1 (d + 1) asg body ps.toList tm σ.K items (Qbi k tm σ.K) m 0 (QaK (capP q.2) 0 σ.mem)
  | false => none
 | _ => none
noncomputable def evGN {β : Type} (P : Program) (call : FuncId → List CV → Option CV)
  (inl : FuncId → List AV → List (List (Option (List AV))) → (AV → List (List (Option (List AV))) → Option β) → Option β)
  (m j : Nat) : Nat → Bool → Code → (Ex → St → Option β) → St → Option β :=
 Nat.rec (fun _ _ _ _ _ => none) (fun _ ih d rg => Qfk P call inl m d rg (ih d rg) (ih (d + 1) false)) j
noncomputable def evNN {β : Type} (P : Program) (call : FuncId → List CV → Option CV)
  (inl : FuncId → List AV → List (List (Option (List AV))) → (AV → List (List (Option (List AV))) → Option β) → Option β)
  (m d j : Nat) : Code → (Ex → St → Option β) → St → Option β := evGN P call inl m j d true
noncomputable def Qer {β : Type} (P : Program) (K : Cfg) (call : FuncId → List CV → Option CV) (m : Nat)
  (inl : FuncId → List AV → List (List (Option (List AV))) → (AV → List (List (Option (List AV))) → Option β) → Option β)
  (f : FuncId) (args : List AV) (mem : List (List (Option (List AV)))) (k : AV → List (List (Option (List AV))) → Option β) : Option β :=
  match P.funcs[f]? with
  | some fn => match fn.body with
   | some c => evNN P call inl m mem.length 1000 c (QfM P (K.lift f) fn.results.toList mem.length k)
     { tmps := args ++ List.replicate (fn.ntmps - args.length) .any, mem := mem ++ [List.replicate fn.ntmps none], K := K }
   | none => none
  | none => none
noncomputable def evFN {β : Type} (P : Program) (K : Cfg) (call : FuncId → List CV → Option CV) (m dp : Nat) : FuncId → List AV → List (List (Option (List AV))) →
  (AV → List (List (Option (List AV))) → Option β) → Option β :=
 Nat.rec (fun _ _ _ _ => none) (fun _ ih => Qa8 K (Qer P K call m ih)) dp
noncomputable def Qfn (P : Program) (K : Cfg) (call : FuncId → List CV → Option CV) (m : Nat)
  (inl : FuncId → List AV → List (List (Option (List AV))) → (AV → List (List (Option (List AV))) → Option CV) → Option CV)
  (f : FuncId) (args : List AV) : Option CV :=
 match K.own f with
 | none => Qer P K call m inl f args [] (outK (Qap P f))
 | some e => match Qap P f with
  | none => match P.funcs[f]? with
   | some fn => match fn.body with
    | some c => evNN P call inl m 0 1000 c (QhI fn.results.toList e)
      { tmps := args ++ List.replicate (fn.ntmps - args.length) .any, mem := [List.replicate fn.ntmps none], K := K }
    | none => none
   | none => none
  | some _ => none
noncomputable def QdI (P : Program) (K : Cfg) (lib : FuncId → Option (List CV → Option CV)) (n : Nat) : FuncId → List CV → Option CV :=
 Nat.rec (fun _ _ => none) (fun n ih f args => match lib f with
  | some s => s args
  | none => Qfn P K ih n (evFN P K ih n 9) f (args.map .val)) n
theorem Qno {β : Type} (ev : Code → (Ex → St → Option β) → St → Option β) (a b : Code) (k : Ex → St → Option β) : seqK ev a b k = seqN ev a b k := by
 funext e σ
 cases e with
 | normal => unfold seqK seqN; cases (Qjt a b || (Qch σ.K 1000002 a || Qch σ.K 1000005 a)) <;> simp only [Qao]
 | _ => rfl
theorem Qmc {β : Type} (d : Nat) (ts bs : List Nat) (next : St → Option β) (k : Ex → St → Option β) : QgS d ts bs next k = QhO d ts bs next k := by
 funext e σ
 cases e with
 | normal => unfold QgS QhO; simp only [Qao]
 | _ => rfl
theorem QlQ {β : Type} (ev : Code → (Ex → St → Option β) → St → Option β) (d : Nat) (ts bs : List Nat) (a : Code) (k : Ex → St → Option β) (n : Nat) : QaN ev d ts bs a k n = Qjz ev d ts bs a k n := by
 induction n with
 | zero => rfl
 | succ n ih =>
  show ev a (QgS d ts bs (QaN ev d ts bs a k n) k) = ev a (QhO d ts bs (Qjz ev d ts bs a k n) k)
  rw [Qmc, ih]
section
variable {β : Type} (P : Program) (K : Cfg) (call : FuncId → List CV → Option CV) (m : Nat)
theorem Qlg (ev1 : Code → (Ex → St → Option β) → St → Option β) (D : Nat) (asg body : Code) (ps : List Nat) (tm : List AV) (K : Cfg) (items : List (List CV)) (k : Ex → List (List (Option (List AV))) → Option β) (n : Nat) :
  QaG ev1 D asg body ps tm K items k n = Qis ev1 D asg body ps tm K items k n := by
 induction n with
 | zero => rfl
 | succ n ih =>
  funext i mem
  show (bif decide (i < items.length) then optO items[i]? fun x => lits ps.length x fun x => (ev1 asg (QdS ev1 D body (QaG ev1 D asg body ps tm K items k n (i + 1)) k) { tmps := Qca tm ps x, mem := mem ++ [List.replicate tm.length none], K := K }) else k .normal mem) =
   (bif decide (i < items.length) then optO items[i]? fun x => lits ps.length x fun x => (ev1 asg (QgK ev1 D body (Qis ev1 D asg body ps tm K items k n (i + 1)) k) { tmps := Qca tm ps x, mem := mem ++ [List.replicate tm.length none], K := K }) else k .normal mem)
  have hB : ∀ next, Qee D next k = QiE D next k := fun next => by
   funext e σ
   cases e with
   | normal => unfold Qee QiE; simp only [Qao]
   | _ => rfl
  have hA : ∀ next, QdS ev1 D body next k = QgK ev1 D body next k := fun next => by
   funext e σ
   cases e with
   | normal => unfold QdS QgK; rw [hB]
   | _ => rfl
  rw [hA, ih]
theorem Qlx (inl : FuncId → List AV → List (List (Option (List AV))) → (AV → List (List (Option (List AV))) → Option β) → Option β) (d : Nat) (rg : Bool) (ev ev1 : Code → (Ex → St → Option β) → St → Option β) :
  Qa4 P call inl m d rg ev ev1 = Qfk P call inl m d rg ev ev1 := by
 funext c k σ
 cases c with
 | seq a b => show ev a (seqK ev a b k) σ = ev a (seqN ev a b k) σ; rw [Qno]
 | loop a => unfold Qa4 Qfk; simp only [Qao, QlQ]
 | rangeFunc g ps asg body => unfold Qa4 Qfk; simp only [Qao, Qlg]; cases rg <;> rfl
 | _ => rfl
theorem Qnu (inl : FuncId → List AV → List (List (Option (List AV))) → (AV → List (List (Option (List AV))) → Option β) → Option β) (j : Nat) :
  evG P call inl m j = evGN P call inl m j := by
 induction j with
 | zero => rfl
 | succ j ih =>
  funext d rg
  show Qa4 P call inl m d rg (evG P call inl m j d rg) (evG P call inl m j (d + 1) false) = Qfk P call inl m d rg (evGN P call inl m j d rg) (evGN P call inl m j (d + 1) false)
  rw [Qlx, ih]
theorem QkM (inl : FuncId → List AV → List (List (Option (List AV))) → (AV → List (List (Option (List AV))) → Option β) → Option β) (d j : Nat) :
  evN P call inl m d j = evNN P call inl m d j := by
 unfold evN evNN
 rw [Qnu]
theorem Qhj (inl : FuncId → List AV → List (List (Option (List AV))) → (AV → List (List (Option (List AV))) → Option β) → Option β) :
  QaL P K call m inl = Qer P K call m inl := by
 funext f args mem k
 unfold QaL Qer
 simp only [QkM]
 rfl
theorem Qnl (dp : Nat) : (evF P K call m dp : FuncId → List AV → List (List (Option (List AV))) → (AV → List (List (Option (List AV))) → Option β) → Option β) = evFN P K call m dp := by
 induction dp with
 | zero => rfl
 | succ n ih =>
  show Qa8 K (QaL P K call m (evF P K call m n)) = Qa8 K (Qer P K call m (evFN P K call m n))
  rw [Qhj, ih]
end
theorem Ql6 (P : Program) (K : Cfg) (call : FuncId → List CV → Option CV) (m : Nat) (inl : FuncId → List AV → List (List (Option (List AV))) → (AV → List (List (Option (List AV))) → Option CV) → Option CV)
  (f : FuncId) (args : List AV) : QfB P K call m inl f args = Qfn P K call m inl f args := by
 unfold QfB Qfn QgD
 rw [Qhj]
 simp only [QkM]
 rfl
theorem QmQ (P : Program) (K : Cfg) (lib : FuncId → Option (List CV → Option CV)) (n : Nat) : QbA P K lib n = QdI P K lib n := by
 induction n with
 | zero => funext f args; unfold QbA; rfl
 | succ n ih =>
  funext f args
  unfold QbA
  show _ = (match lib f with
   | some s => s args
   | none => Qfn P K (QdI P K lib n) n (evFN P K (QdI P K lib n) n 9) f (args.map .val))
  rw [ih, Ql6, Qnl]
  rfl
end Go.Am
