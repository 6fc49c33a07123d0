/- The evaluation without the held joins: the same, and the kernel can run it on given data. Conditions: none. -/
import Derived.Test.YtdcpdknginpohaaGreatDoorAm
set_option linter.unusedSimpArgs false
namespace Go.Am
noncomputable def seqN {β : Type} (ev : Code → (Ex → St → Option β) → St → Option β) (a b : Code) (k : Ex → St → Option β) (e : Ex) (σ : St) : Option β :=
 match e with
 | .normal => ev b k (tidy a σ)
 | e => k e σ
noncomputable def Qp6 {β : Type} (d : Nat) (ts bs : List Nat) (next : St → Option β) (k : Ex → St → Option β) (e : Ex) (σ : St) : Option β :=
 match e with
 | .normal => next (clear d ts bs σ)
 | e => k e σ
noncomputable def QtG {β : Type} (ev : Code → (Ex → St → Option β) → St → Option β) (d : Nat) (ts bs : List Nat) (a : Code) (k : Ex → St → Option β) (n : Nat) : St → Option β :=
 Nat.rec (fun _ => none) (fun _ ih => ev a (Qp6 d ts bs ih k)) n
noncomputable def QqV {β : Type} (D : Nat) (next : List (List (Option (List AV))) → Option β) (k : Ex → List (List (Option (List AV))) → Option β) (e : Ex) (σ : St) : Option β :=
 match e with
 | .normal => next (QdJ D σ.mem)
 | .exit id => k (.exit id) (QdJ D σ.mem)
 | .ret => k .ret (QdJ D σ.mem)
noncomputable def QnN {β : Type} (ev1 : Code → (Ex → St → Option β) → St → Option β) (D : Nat) (body : Code) (next : List (List (Option (List AV))) → Option β) (k : Ex → List (List (Option (List AV))) → Option β) (e : Ex) (σ : St) : Option β :=
 match e with
 | .normal => ev1 body (QqV D next k) σ
 | _ => none
noncomputable def Qq8 {β : Type} (ev1 : Code → (Ex → St → Option β) → St → Option β) (D : Nat) (asg body : Code) (ps : List Nat) (tm : List AV) (K : Cfg) (items : List (List CV)) (k : Ex → List (List (Option (List AV))) → Option β) (n : Nat) :
  Nat → List (List (Option (List AV))) → Option β :=
 Nat.rec (fun _ _ => none) (fun _ ih i mem => bif decide (i < items.length) then
   optO items[i]? fun x => lits ps.length x fun x => (ev1 asg (QnN ev1 D body (ih (i + 1)) k) { tmps := QeG tm ps x, mem := mem ++ [List.replicate tm.length none], K := K })
  else k .normal mem) n
noncomputable def QkZ {β : Type} (P : Program) (call : FuncId → List CV → Option CV)
  (inl : FuncId → List AV → List (List (Option (List AV))) → (AV → List (List (Option (List AV))) → Option β) → Option β)
  (m d : Nat) (rg : Bool) (ev ev1 : Code → (Ex → St → Option β) → St → Option β) (c : Code) (k : Ex → St → Option β) (σ : St) : Option β :=
 match c with
 | .skip => k .normal σ
 | .region _ ops draw =>
  match draw with
  | false => opsK P call inl d ops.toList ops.toList (k .normal) σ
  | true => chkO (Qdl 0 ops.toList) (Qcn P call inl d (Region.before ops).toList ops.toList ops.toList 0 [] (k .normal) σ)
 | .seq a b => ev a (seqN ev a b k) σ
 | .cond c a b => optO (QmA σ c) fun t => bif t then ev a (QfS a b k) σ else ev b (QfS a b k) σ
 | .block id a => ev a (Qaj id k) σ
 | .loop a =>
  let ts := Qad a ++ anys σ (Qdn a)
  let bs := QlF σ d (QdY a)
  QtG ev d ts bs a k m (clear d ts bs σ)
 | .exit id => k (.exit id) σ
 | .scope a => ev a k σ
 | .label _ => k .normal σ
 | .ret => k .ret σ
 | .rangeFunc g ps asg body => match rg with
  | true => optO (Qjc d σ g) fun q => optO (σ.K.iter q.1) fun it => optO (it (q.2.map (·.2))) fun items => chkO (items.all (·.length == ps.size)) <|
    let tm := σ.tmps.map fun v => v.copy.scrub (capP q.2)
    Qq8 ev1 (d + 1) asg body ps.toList tm σ.K items (QcU k tm σ.K) m 0 (Qb2 (capP q.2) 0 σ.mem)
  | false => none
 | _ => none
noncomputable def evGN {β : Type} (P : Program) (call : FuncId → List CV → Option CV)
  (inl : FuncId → List AV → List (List (Option (List AV))) → (AV → List (List (Option (List AV))) → Option β) → Option β)
  (m j : Nat) : Nat → Bool → Code → (Ex → St → Option β) → St → Option β :=
 Nat.rec (fun _ _ _ _ _ => none) (fun _ ih d rg => QkZ P call inl m d rg (ih d rg) (ih (d + 1) false)) j
noncomputable def evNN {β : Type} (P : Program) (call : FuncId → List CV → Option CV)
  (inl : FuncId → List AV → List (List (Option (List AV))) → (AV → List (List (Option (List AV))) → Option β) → Option β)
  (m d j : Nat) : Code → (Ex → St → Option β) → St → Option β := evGN P call inl m j d true
noncomputable def Qjy {β : Type} (P : Program) (K : Cfg) (call : FuncId → List CV → Option CV) (m : Nat)
  (inl : FuncId → List AV → List (List (Option (List AV))) → (AV → List (List (Option (List AV))) → Option β) → Option β)
  (f : FuncId) (args : List AV) (mem : List (List (Option (List AV)))) (k : AV → List (List (Option (List AV))) → Option β) : Option β :=
  match P.funcs[f]? with
  | some fn => match fn.body with
   | some c => evNN P call inl m mem.length 1000 c (Qle P (K.lift f) fn.results.toList mem.length k)
     { tmps := args ++ List.replicate (fn.ntmps - args.length) .any, mem := mem ++ [List.replicate fn.ntmps none], K := K }
   | none => none
  | none => none
noncomputable def evFN {β : Type} (P : Program) (K : Cfg) (call : FuncId → List CV → Option CV) (m dp : Nat) : FuncId → List AV → List (List (Option (List AV))) →
  (AV → List (List (Option (List AV))) → Option β) → Option β :=
 Nat.rec (fun _ _ _ _ => none) (fun _ ih => QcM K (Qjy P K call m ih)) dp
noncomputable def Qp8 (P : Program) (K : Cfg) (call : FuncId → List CV → Option CV) (m : Nat)
  (inl : FuncId → List AV → List (List (Option (List AV))) → (AV → List (List (Option (List AV))) → Option CV) → Option CV)
  (f : FuncId) (args : List AV) : Option CV :=
 match K.own f with
 | none => Qjy P K call m inl f args [] (outK (Qag P f))
 | some e => match Qag P f with
  | none => match P.funcs[f]? with
   | some fn => match fn.body with
    | some c => evNN P call inl m 0 1000 c (Qjx fn.results.toList e)
      { tmps := args ++ List.replicate (fn.ntmps - args.length) .any, mem := [List.replicate fn.ntmps none], K := K }
    | none => none
   | none => none
  | some _ => none
noncomputable def Qpx (P : Program) (K : Cfg) (lib : FuncId → Option (List CV → Option CV)) (n : Nat) : FuncId → List CV → Option CV :=
 Nat.rec (fun _ _ => none) (fun n ih f args => match lib f with
  | some s => s args
  | none => Qp8 P K ih n (evFN P K ih n 9) f (args.map .val)) n
theorem QyI {β : Type} (ev : Code → (Ex → St → Option β) → St → Option β) (a b : Code) (k : Ex → St → Option β) : seqK ev a b k = seqN ev a b k := by
 funext e σ
 cases e with
 | normal => unfold seqK seqN; cases Qs3 a b <;> simp only [Qaf]
 | _ => rfl
theorem QwZ {β : Type} (d : Nat) (ts bs : List Nat) (next : St → Option β) (k : Ex → St → Option β) : Qbs d ts bs next k = Qp6 d ts bs next k := by
 funext e σ
 cases e with
 | normal => unfold Qbs Qp6; simp only [Qaf]
 | _ => rfl
theorem QwU {β : Type} (ev : Code → (Ex → St → Option β) → St → Option β) (d : Nat) (ts bs : List Nat) (a : Code) (k : Ex → St → Option β) (n : Nat) : Qas ev d ts bs a k n = QtG ev d ts bs a k n := by
 induction n with
 | zero => rfl
 | succ n ih =>
  show ev a (Qbs d ts bs (Qas ev d ts bs a k n) k) = ev a (Qp6 d ts bs (QtG ev d ts bs a k n) k)
  rw [QwZ, ih]
section
variable {β : Type} (P : Program) (K : Cfg) (call : FuncId → List CV → Option CV) (m : Nat)
theorem Qwb (ev1 : Code → (Ex → St → Option β) → St → Option β) (D : Nat) (asg body : Code) (ps : List Nat) (tm : List AV) (K : Cfg) (items : List (List CV)) (k : Ex → List (List (Option (List AV))) → Option β) (n : Nat) :
  QbT ev1 D asg body ps tm K items k n = Qq8 ev1 D asg body ps tm K items k n := by
 induction n with
 | zero => rfl
 | succ n ih =>
  funext i mem
  show (bif decide (i < items.length) then optO items[i]? fun x => lits ps.length x fun x => (ev1 asg (Qik ev1 D body (QbT ev1 D asg body ps tm K items k n (i + 1)) k) { tmps := QeG tm ps x, mem := mem ++ [List.replicate tm.length none], K := K }) else k .normal mem) =
   (bif decide (i < items.length) then optO items[i]? fun x => lits ps.length x fun x => (ev1 asg (QnN ev1 D body (Qq8 ev1 D asg body ps tm K items k n (i + 1)) k) { tmps := QeG tm ps x, mem := mem ++ [List.replicate tm.length none], K := K }) else k .normal mem)
  have hB : ∀ next, Qjs D next k = QqV D next k := fun next => by
   funext e σ
   cases e with
   | normal => unfold Qjs QqV; simp only [Qaf]
   | _ => rfl
  have hA : ∀ next, Qik ev1 D body next k = QnN ev1 D body next k := fun next => by
   funext e σ
   cases e with
   | normal => unfold Qik QnN; rw [hB]
   | _ => rfl
  rw [hA, ih]
theorem QvK (inl : FuncId → List AV → List (List (Option (List AV))) → (AV → List (List (Option (List AV))) → Option β) → Option β) (d : Nat) (rg : Bool) (ev ev1 : Code → (Ex → St → Option β) → St → Option β) :
  Qet P call inl m d rg ev ev1 = QkZ P call inl m d rg ev ev1 := by
 funext c k σ
 cases c with
 | seq a b => show ev a (seqK ev a b k) σ = ev a (seqN ev a b k) σ; rw [QyI]
 | loop a => unfold Qet QkZ; simp only [Qaf, QwU]
 | rangeFunc g ps asg body => unfold Qet QkZ; simp only [Qaf, Qwb]; cases rg <;> rfl
 | _ => rfl
theorem Qzi (inl : FuncId → List AV → List (List (Option (List AV))) → (AV → List (List (Option (List AV))) → Option β) → Option β) (j : Nat) :
  evG P call inl m j = evGN P call inl m j := by
 induction j with
 | zero => rfl
 | succ j ih =>
  funext d rg
  show Qet P call inl m d rg (evG P call inl m j d rg) (evG P call inl m j (d + 1) false) = QkZ P call inl m d rg (evGN P call inl m j d rg) (evGN P call inl m j (d + 1) false)
  rw [QvK, ih]
theorem Qvj (inl : FuncId → List AV → List (List (Option (List AV))) → (AV → List (List (Option (List AV))) → Option β) → Option β) (d j : Nat) :
  evN P call inl m d j = evNN P call inl m d j := by
 unfold evN evNN
 rw [Qzi]
theorem Qoz (inl : FuncId → List AV → List (List (Option (List AV))) → (AV → List (List (Option (List AV))) → Option β) → Option β) :
  QbR P K call m inl = Qjy P K call m inl := by
 funext f args mem k
 unfold QbR Qjy
 simp only [Qvj]
 rfl
theorem Qy2 (dp : Nat) : (evF P K call m dp : FuncId → List AV → List (List (Option (List AV))) → (AV → List (List (Option (List AV))) → Option β) → Option β) = evFN P K call m dp := by
 induction dp with
 | zero => rfl
 | succ n ih =>
  show QcM K (QbR P K call m (evF P K call m n)) = QcM K (Qjy P K call m (evFN P K call m n))
  rw [Qoz, ih]
end
theorem QwY (P : Program) (K : Cfg) (call : FuncId → List CV → Option CV) (m : Nat) (inl : FuncId → List AV → List (List (Option (List AV))) → (AV → List (List (Option (List AV))) → Option CV) → Option CV)
  (f : FuncId) (args : List AV) : QlE P K call m inl f args = Qp8 P K call m inl f args := by
 unfold QlE Qp8 QmQ
 rw [Qoz]
 simp only [Qvj]
 rfl
theorem Qtq (P : Program) (K : Cfg) (lib : FuncId → Option (List CV → Option CV)) (n : Nat) : Qdg P K lib n = Qpx P K lib n := by
 induction n with
 | zero => funext f args; unfold Qdg; rfl
 | succ n ih =>
  funext f args
  unfold Qdg
  show _ = (match lib f with
   | some s => s args
   | none => Qp8 P K (Qpx P K lib n) n (evFN P K (Qpx P K lib n) n 9) f (args.map .val))
  rw [ih, QwY, Qy2]
  rfl
end Go.Am
