/- The evaluation without the held joins: the same, and the kernel can run it on given data. Conditions: none. -/
import Derived.Test.YtigmcfhmpcajlaaGreatDoorAm
set_option linter.unusedSimpArgs false
namespace Go.Am
noncomputable def seqN {β : Type} (ev : Code → (Ex → St → Option β) → St → Option β) (a b : Code) (k : Ex → St → Option β) (e : Ex) (σ : St) : Option β :=
 match e with
 | .normal => ev b k (tidy a σ)
 | e => k e σ
noncomputable def Qlg {β : Type} (d : Nat) (ts bs : List Nat) (next : St → Option β) (k : Ex → St → Option β) (e : Ex) (σ : St) : Option β :=
 match e with
 | .normal => next (clear d ts bs σ)
 | e => k e σ
noncomputable def QnP {β : Type} (ev : Code → (Ex → St → Option β) → St → Option β) (d : Nat) (ts bs : List Nat) (a : Code) (k : Ex → St → Option β) (n : Nat) : St → Option β :=
 Nat.rec (fun _ => none) (fun _ ih => ev a (Qlg d ts bs ih k)) n
noncomputable def Qmf {β : Type} (D : Nat) (next : List (List (Option (List AV))) → Option β) (k : Ex → List (List (Option (List AV))) → Option β) (e : Ex) (σ : St) : Option β :=
 match e with
 | .normal => next (Qcm D σ.mem)
 | .exit id => k (.exit id) (Qcm D σ.mem)
 | .ret => k .ret (Qcm D σ.mem)
noncomputable def QjK {β : Type} (ev1 : Code → (Ex → St → Option β) → St → Option β) (D : Nat) (body : Code) (next : List (List (Option (List AV))) → Option β) (k : Ex → List (List (Option (List AV))) → Option β) (e : Ex) (σ : St) : Option β :=
 match e with
 | .normal => ev1 body (Qmf D next k) σ
 | _ => none
noncomputable def QlK {β : Type} (ev1 : Code → (Ex → St → Option β) → St → Option β) (D : Nat) (asg body : Code) (ps : List Nat) (tm : List AV) (K : Cfg) (items : List (List CV)) (k : Ex → List (List (Option (List AV))) → Option β) (n : Nat) :
  Nat → List (List (Option (List AV))) → Option β :=
 Nat.rec (fun _ _ => none) (fun _ ih i mem => bif decide (i < items.length) then
   optO items[i]? fun x => lits ps.length x fun x => (ev1 asg (QjK ev1 D body (ih (i + 1)) k) { tmps := Qc7 tm ps x, mem := mem ++ [List.replicate tm.length none], K := K })
  else k .normal mem) n
noncomputable def Qg9 {β : Type} (P : Program) (call : FuncId → List CV → Option CV)
  (inl : FuncId → List AV → List (List (Option (List AV))) → (AV → List (List (Option (List AV))) → Option β) → Option β)
  (m d : Nat) (rg : Bool) (ev ev1 : Code → (Ex → St → Option β) → St → Option β) (c : Code) (k : Ex → St → Option β) (σ : St) : Option β :=
 match c with
 | .skip => k .normal σ
 | .region _ ops draw =>
  match draw with
  | false => opsK P call inl d ops.toList ops.toList (k .normal) σ
  | true => chkO (Qb0 0 ops.toList) (Qbn P call inl d (Region.before ops).toList ops.toList ops.toList 0 [] (k .normal) σ)
 | .seq a b => ev a (seqN ev a b k) σ
 | .cond c a b => optO (Qjd σ c) fun t => bif t then ev a (QdE a b k) σ else ev b (QdE a b k) σ
 | .block id a => ev a (Qal id k) σ
 | .loop a =>
  let ts := Qag a ++ anys σ (Qb7 a)
  let bs := Qh9 σ d (QcC a)
  QnP ev d ts bs a k m (clear d ts bs σ)
 | .exit id => k (.exit id) σ
 | .scope a => ev a k σ
 | .label _ => k .normal σ
 | .ret => k .ret σ
 | .rangeFunc g ps asg body => match rg with
  | true => optO (Qgp d σ g) fun q => optO (σ.K.iter q.1) fun it => optO (it (q.2.map (·.2))) fun items => chkO (items.all (·.length == ps.size)) <|
    let tm := σ.tmps.map fun v => v.copy.scrub (capP q.2)
    QlK ev1 (d + 1) asg body ps.toList tm σ.K items (QbO k tm σ.K) m 0 (Qbd (capP q.2) 0 σ.mem)
  | false => none
 | _ => none
noncomputable def evGN {β : Type} (P : Program) (call : FuncId → List CV → Option CV)
  (inl : FuncId → List AV → List (List (Option (List AV))) → (AV → List (List (Option (List AV))) → Option β) → Option β)
  (m j : Nat) : Nat → Bool → Code → (Ex → St → Option β) → St → Option β :=
 Nat.rec (fun _ _ _ _ _ => none) (fun _ ih d rg => Qg9 P call inl m d rg (ih d rg) (ih (d + 1) false)) j
noncomputable def evNN {β : Type} (P : Program) (call : FuncId → List CV → Option CV)
  (inl : FuncId → List AV → List (List (Option (List AV))) → (AV → List (List (Option (List AV))) → Option β) → Option β)
  (m d j : Nat) : Code → (Ex → St → Option β) → St → Option β := evGN P call inl m j d true
noncomputable def Qge {β : Type} (P : Program) (K : Cfg) (call : FuncId → List CV → Option CV) (m : Nat)
  (inl : FuncId → List AV → List (List (Option (List AV))) → (AV → List (List (Option (List AV))) → Option β) → Option β)
  (f : FuncId) (args : List AV) (mem : List (List (Option (List AV)))) (k : AV → List (List (Option (List AV))) → Option β) : Option β :=
  match P.funcs[f]? with
  | some fn => match fn.body with
   | some c => evNN P call inl m mem.length 1000 c (QhL P (K.lift f) fn.results.toList mem.length k)
     { tmps := args ++ List.replicate (fn.ntmps - args.length) .any, mem := mem ++ [List.replicate fn.ntmps none], K := K }
   | none => none
  | none => none
noncomputable def evFN {β : Type} (P : Program) (K : Cfg) (call : FuncId → List CV → Option CV) (m dp : Nat) : FuncId → List AV → List (List (Option (List AV))) →
  (AV → List (List (Option (List AV))) → Option β) → Option β :=
 Nat.rec (fun _ _ _ _ => none) (fun _ ih => QbH K (Qge P K call m ih)) dp
noncomputable def Qle (P : Program) (K : Cfg) (call : FuncId → List CV → Option CV) (m : Nat)
  (inl : FuncId → List AV → List (List (Option (List AV))) → (AV → List (List (Option (List AV))) → Option CV) → Option CV)
  (f : FuncId) (args : List AV) : Option CV :=
 match K.own f with
 | none => Qge P K call m inl f args [] (outK (Qah P f))
 | some e => match Qah P f with
  | none => match P.funcs[f]? with
   | some fn => match fn.body with
    | some c => evNN P call inl m 0 1000 c (Qk7 fn.results.toList e)
      { tmps := args ++ List.replicate (fn.ntmps - args.length) .any, mem := [List.replicate fn.ntmps none], K := K }
    | none => none
   | none => none
  | some _ => none
noncomputable def Qm3 (P : Program) (K : Cfg) (lib : FuncId → Option (List CV → Option CV)) (n : Nat) : FuncId → List CV → Option CV :=
 Nat.rec (fun _ _ => none) (fun n ih f args => match lib f with
  | some s => s args
  | none => Qle P K ih n (evFN P K ih n 9) f (args.map .val)) n
theorem Qri {β : Type} (ev : Code → (Ex → St → Option β) → St → Option β) (a b : Code) (k : Ex → St → Option β) : seqK ev a b k = seqN ev a b k := by
 funext e σ
 cases e with
 | normal => unfold seqK seqN; cases Qm6 a b <;> simp only [Qai]
 | _ => rfl
theorem QpE {β : Type} (d : Nat) (ts bs : List Nat) (next : St → Option β) (k : Ex → St → Option β) : Qbq d ts bs next k = Qlg d ts bs next k := by
 funext e σ
 cases e with
 | normal => unfold Qbq Qlg; simp only [Qai]
 | _ => rfl
theorem QpS {β : Type} (ev : Code → (Ex → St → Option β) → St → Option β) (d : Nat) (ts bs : List Nat) (a : Code) (k : Ex → St → Option β) (n : Nat) : QaA ev d ts bs a k n = QnP ev d ts bs a k n := by
 induction n with
 | zero => rfl
 | succ n ih =>
  show ev a (Qbq d ts bs (QaA ev d ts bs a k n) k) = ev a (Qlg d ts bs (QnP ev d ts bs a k n) k)
  rw [QpE, ih]
section
variable {β : Type} (P : Program) (K : Cfg) (call : FuncId → List CV → Option CV) (m : Nat)
theorem Qo7 (ev1 : Code → (Ex → St → Option β) → St → Option β) (D : Nat) (asg body : Code) (ps : List Nat) (tm : List AV) (K : Cfg) (items : List (List CV)) (k : Ex → List (List (Option (List AV))) → Option β) (n : Nat) :
  Qbb ev1 D asg body ps tm K items k n = QlK ev1 D asg body ps tm K items k n := by
 induction n with
 | zero => rfl
 | succ n ih =>
  funext i mem
  show (bif decide (i < items.length) then optO items[i]? fun x => lits ps.length x fun x => (ev1 asg (QfJ ev1 D body (Qbb ev1 D asg body ps tm K items k n (i + 1)) k) { tmps := Qc7 tm ps x, mem := mem ++ [List.replicate tm.length none], K := K }) else k .normal mem) =
   (bif decide (i < items.length) then optO items[i]? fun x => lits ps.length x fun x => (ev1 asg (QjK ev1 D body (QlK ev1 D asg body ps tm K items k n (i + 1)) k) { tmps := Qc7 tm ps x, mem := mem ++ [List.replicate tm.length none], K := K }) else k .normal mem)
  have hB : ∀ next, Qgo D next k = Qmf D next k := fun next => by
   funext e σ
   cases e with
   | normal => unfold Qgo Qmf; simp only [Qai]
   | _ => rfl
  have hA : ∀ next, QfJ ev1 D body next k = QjK ev1 D body next k := fun next => by
   funext e σ
   cases e with
   | normal => unfold QfJ QjK; rw [hB]
   | _ => rfl
  rw [hA, ih]
theorem Qpn (inl : FuncId → List AV → List (List (Option (List AV))) → (AV → List (List (Option (List AV))) → Option β) → Option β) (d : Nat) (rg : Bool) (ev ev1 : Code → (Ex → St → Option β) → St → Option β) :
  QcV P call inl m d rg ev ev1 = Qg9 P call inl m d rg ev ev1 := by
 funext c k σ
 cases c with
 | seq a b => show ev a (seqK ev a b k) σ = ev a (seqN ev a b k) σ; rw [Qri]
 | loop a => unfold QcV Qg9; simp only [Qai, QpS]
 | rangeFunc g ps asg body => unfold QcV Qg9; simp only [Qai, Qo7]; cases rg <;> rfl
 | _ => rfl
theorem Qrr (inl : FuncId → List AV → List (List (Option (List AV))) → (AV → List (List (Option (List AV))) → Option β) → Option β) (j : Nat) :
  evG P call inl m j = evGN P call inl m j := by
 induction j with
 | zero => rfl
 | succ j ih =>
  funext d rg
  show QcV P call inl m d rg (evG P call inl m j d rg) (evG P call inl m j (d + 1) false) = Qg9 P call inl m d rg (evGN P call inl m j d rg) (evGN P call inl m j (d + 1) false)
  rw [Qpn, ih]
theorem QoC (inl : FuncId → List AV → List (List (Option (List AV))) → (AV → List (List (Option (List AV))) → Option β) → Option β) (d j : Nat) :
  evN P call inl m d j = evNN P call inl m d j := by
 unfold evN evNN
 rw [Qrr]
theorem Qkb (inl : FuncId → List AV → List (List (Option (List AV))) → (AV → List (List (Option (List AV))) → Option β) → Option β) :
  Qa5 P K call m inl = Qge P K call m inl := by
 funext f args mem k
 unfold Qa5 Qge
 simp only [QoC]
 rfl
theorem Qrk (dp : Nat) : (evF P K call m dp : FuncId → List AV → List (List (Option (List AV))) → (AV → List (List (Option (List AV))) → Option β) → Option β) = evFN P K call m dp := by
 induction dp with
 | zero => rfl
 | succ n ih =>
  show QbH K (Qa5 P K call m (evF P K call m n)) = QbH K (Qge P K call m (evFN P K call m n))
  rw [Qkb, ih]
end
theorem Qp5 (P : Program) (K : Cfg) (call : FuncId → List CV → Option CV) (m : Nat) (inl : FuncId → List AV → List (List (Option (List AV))) → (AV → List (List (Option (List AV))) → Option CV) → Option CV)
  (f : FuncId) (args : List AV) : QhU P K call m inl f args = Qle P K call m inl f args := by
 unfold QhU Qle Qjj
 rw [Qkb]
 simp only [QoC]
 rfl
theorem QqJ (P : Program) (K : Cfg) (lib : FuncId → Option (List CV → Option CV)) (n : Nat) : Qb4 P K lib n = Qm3 P K lib n := by
 induction n with
 | zero => funext f args; unfold Qb4; rfl
 | succ n ih =>
  funext f args
  unfold Qb4
  show _ = (match lib f with
   | some s => s args
   | none => Qle P K (Qm3 P K lib n) n (evFN P K (Qm3 P K lib n) n 9) f (args.map .val))
  rw [ih, Qp5, Qrk]
  rfl
end Go.Am
