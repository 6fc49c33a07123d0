/- awake of chapter 24 answers true: run in the kernel, call by call. Conditions: none. -/
import Derived.Test.YtmpbijffaepkdaaGreatDoorNh
import Derived.Test.YtmpbijffaepkdaaGreatDoorRet
namespace Go.Proofs
open Go.Am
set_option maxRecDepth 100000
mutual
def Qlf : CV → CV → Bool
 | .int k n, .int k' m => (match k,k' with
  | .i64, .i64 => n == m
  | _,_ => false)
 | .bool a, .bool b => a == b
 | .str a, .str b => a == b
 | .list a l, .list b r => a == b && QgN l r
 | .agg l, .agg r => QeC l r
 | _,_ => false
def QeC : List CV → List CV → Bool
 | [],[] => true
 | a :: l,b :: r => Qlf a b && QeC l r
 | _,_ => false
def QgN : List (List CV) → List (List CV) → Bool
 | [],[] => true
 | a :: l,b :: r => QeC a b && QgN l r
 | _,_ => false
end
mutual
theorem Qmq : ∀ a b,Qlf a b = true → a = b := by
 intro a b h
 cases a <;> cases b <;> simp only [Qlf,Bool.false_eq_true] at h
 case int.int k n k' m =>
  cases k <;> cases k' <;> simp only [Bool.false_eq_true] at h
  rw [beq_iff_eq] at h
  rw [h]
 case bool.bool => rw [beq_iff_eq] at h; rw [h]
 case str.str => rw [beq_iff_eq] at h; rw [h]
 case list.list =>
  simp only [Bool.and_eq_true,beq_iff_eq] at h
  rw [h.1,Qj2 _ _ h.2]
 case agg.agg => rw [QfC _ _ h]
theorem QfC : ∀ a b,QeC a b = true → a = b
 | [],[],_ => rfl
 | a :: l,b :: r,h => by
  simp only [QeC,Bool.and_eq_true] at h
  rw [Qmq a b h.1,QfC l r h.2]
 | [],_ :: _,h => by simp [QeC] at h
 | _ :: _,[],h => by simp [QeC] at h
theorem Qj2 : ∀ a b,QgN a b = true → a = b
 | [],[],_ => rfl
 | a :: l,b :: r,h => by
  simp only [QgN,Bool.and_eq_true] at h
  rw [QfC a b h.1,Qj2 l r h.2]
 | [],_ :: _,h => by simp [QgN] at h
 | _ :: _,[],h => by simp [QgN] at h
end
def QhZ : List (FuncId × List CV × CV) → (FuncId → List CV → Option CV) → FuncId → List CV → Option CV
 | [],call,f,a => call f a
 | x :: t,call,f,a => match x.1 == f && QeC x.2.1 a with
  | true => some x.2.2
  | false => QhZ t call f a
def QlG (call : FuncId → List CV → Option CV) : List (FuncId × List CV × CV) → Prop
 | [] => True
 | x :: t => call x.1 x.2.1 = some x.2.2 ∧ QlG call t
theorem Qke {call : FuncId → List CV → Option CV} : ∀ {t : List (FuncId × List CV × CV)},QlG call t → QhZ t call = call
 | [],_ => rfl
 | x :: t,h => by
  funext f a
  unfold QhZ
  rw [Qke h.2]
  split
  ·rename_i q
   rw [Bool.and_eq_true,beq_iff_eq] at q
   rw [← q.1, ← QfC _ _ q.2]
   exact h.1.symm
  ·rfl
theorem Qm6 (P : Program) (K : Cfg) (lib : FuncId → Option (List CV → Option CV)) (n : Nat) {f : FuncId} {a : List CV} {t : List (FuncId × List CV × CV)} {r : CV} (h : lib f = none) (ht : QlG (QdI P K lib n) t)
  (hr : Qfn P K (QhZ t (QdI P K lib n)) n (evFN P K (QhZ t (QdI P K lib n)) n 9) f (a.map .val) = some r) : QdI P K lib (n + 1) f a = some r := by
 rw [Qke ht] at hr
 show (match lib f with
  | some s => s a
  | none => Qfn P K (QdI P K lib n) n (evFN P K (QdI P K lib n) n 9) f (a.map .val)) = _
 rw [h]
 exact hr
noncomputable abbrev N24 (lb n : Nat) : FuncId → List CV → Option CV := QdI Tryz.prog KK (L (lb + 1)) n
abbrev aw24t : CV := .tup [.agg [.list false [[.str [66,65], .str [76,79,78], .str [78,89,67], .str [89,79,87], .str [89], .bool false, .int .i64 50000, .int .i64 1, .int .i64 0],[.str [66,65], .str [76,79,78], .str [78,89,67], .str [81,82,84], .str [81], .bool true, .int .i64 30000, .int .i64 1, .int .i64 0]], .list true [], .list true [], .list false [[.str [71,66], .int .i64 1, .str [71,66], .int .i64 1300, .int .i64 0, .int .i64 240, .list false [[.str [73,78,70]]]]]], .int .i64 0, .int .i64 0]
theorem Qn9 (lb n : Nat) : N24 lb (n + 58) Qb0 [.str [102,97,114,101,32,66,65,32,76,79,78,32,78,89,67,32,89,79,87,32,89,32,111,110,101,119,97,121,32,53,48,48,48,48,32,49,32,48]] = some (.tup [.list false [[.str [102,97,114,101]],[.str [66,65]],[.str [76,79,78]],[.str [78,89,67]],[.str [89,79,87]],[.str [89]],[.str [111,110,101,119,97,121]],[.str [53,48,48,48,48]],[.str [49]],[.str [48]]], .int .i64 0]) := by kernel_rfl
theorem Qn2 (lb n : Nat) : N24 lb (n + 58) Qb0 [.str [102,97,114,101,32,66,65,32,76,79,78,32,78,89,67,32,81,82,84,32,81,32,114,111,117,110,100,32,51,48,48,48,48,32,49,32,48]] = some (.tup [.list false [[.str [102,97,114,101]],[.str [66,65]],[.str [76,79,78]],[.str [78,89,67]],[.str [81,82,84]],[.str [81]],[.str [114,111,117,110,100]],[.str [51,48,48,48,48]],[.str [49]],[.str [48]]], .int .i64 0]) := by kernel_rfl
theorem QnS (lb n : Nat) : N24 lb (n + 58) Qb0 [.str [116,97,120,32,71,66,32,49,32,71,66,32,49,51,48,48,32,48,32,50,52,48,32,73,78,70]] = some (.tup [.list false [[.str [116,97,120]],[.str [71,66]],[.str [49]],[.str [71,66]],[.str [49,51,48,48]],[.str [48]],[.str [50,52,48]],[.str [73,78,70]]], .int .i64 0]) := by kernel_rfl
theorem QnV (lb n : Nat) : N24 lb (n + 58) Qbk [.list false [[.str [53,48,48,48,48]],[.str [49]],[.str [48]]]] = some (.tup [.list false [[.int .i64 50000],[.int .i64 1],[.int .i64 0]], .bool true]) := by kernel_rfl
theorem Qoi (lb n : Nat) : N24 lb (n + 58) Qbk [.list false [[.str [51,48,48,48,48]],[.str [49]],[.str [48]]]] = some (.tup [.list false [[.int .i64 30000],[.int .i64 1],[.int .i64 0]], .bool true]) := by kernel_rfl
theorem QnW (lb n : Nat) : N24 lb (n + 58) Qbk [.list false [[.str [49]],[.str [49,51,48,48]],[.str [48]],[.str [50,52,48]]]] = some (.tup [.list false [[.int .i64 1],[.int .i64 1300],[.int .i64 0],[.int .i64 240]], .bool true]) := by kernel_rfl
theorem QnR (lb n : Nat) : N24 lb (n + 58) QbQ [.agg [.str [66,65], .str [76,79,78], .str [78,89,67], .str [89,79,87], .str [89], .bool false, .int .i64 50000, .int .i64 1, .int .i64 0]] = some (.str [102,97,114,101,32,66,65,32,76,79,78,32,78,89,67,32,89,79,87,32,89,32,111,110,101,119,97,121,32,53,48,48,48,48,32,49,32,48]) := by kernel_rfl
theorem Qn4 (lb n : Nat) : N24 lb (n + 58) QbQ [.agg [.str [66,65], .str [76,79,78], .str [78,89,67], .str [81,82,84], .str [81], .bool true, .int .i64 30000, .int .i64 1, .int .i64 0]] = some (.str [102,97,114,101,32,66,65,32,76,79,78,32,78,89,67,32,81,82,84,32,81,32,114,111,117,110,100,32,51,48,48,48,48,32,49,32,48]) := by kernel_rfl
theorem Qod (lb n : Nat) : N24 lb (n + 58) Qek [.agg [.str [71,66], .int .i64 1, .str [71,66], .int .i64 1300, .int .i64 0, .int .i64 240, .list false [[.str [73,78,70]]]]] = some (.str [116,97,120,32,71,66,32,49,32,71,66,32,49,51,48,48,32,48,32,50,52,48,32,73,78,70]) := by kernel_rfl
def t24 : List (FuncId × List CV × CV) := [(Qb0,[.str [102,97,114,101,32,66,65,32,76,79,78,32,78,89,67,32,89,79,87,32,89,32,111,110,101,119,97,121,32,53,48,48,48,48,32,49,32,48]], .tup [.list false [[.str [102,97,114,101]],[.str [66,65]],[.str [76,79,78]],[.str [78,89,67]],[.str [89,79,87]],[.str [89]],[.str [111,110,101,119,97,121]],[.str [53,48,48,48,48]],[.str [49]],[.str [48]]], .int .i64 0]),(Qb0,[.str [102,97,114,101,32,66,65,32,76,79,78,32,78,89,67,32,81,82,84,32,81,32,114,111,117,110,100,32,51,48,48,48,48,32,49,32,48]], .tup [.list false [[.str [102,97,114,101]],[.str [66,65]],[.str [76,79,78]],[.str [78,89,67]],[.str [81,82,84]],[.str [81]],[.str [114,111,117,110,100]],[.str [51,48,48,48,48]],[.str [49]],[.str [48]]], .int .i64 0]),(Qb0,[.str [116,97,120,32,71,66,32,49,32,71,66,32,49,51,48,48,32,48,32,50,52,48,32,73,78,70]], .tup [.list false [[.str [116,97,120]],[.str [71,66]],[.str [49]],[.str [71,66]],[.str [49,51,48,48]],[.str [48]],[.str [50,52,48]],[.str [73,78,70]]], .int .i64 0]),(Qbk,[.list false [[.str [53,48,48,48,48]],[.str [49]],[.str [48]]]], .tup [.list false [[.int .i64 50000],[.int .i64 1],[.int .i64 0]], .bool true]),(Qbk,[.list false [[.str [51,48,48,48,48]],[.str [49]],[.str [48]]]], .tup [.list false [[.int .i64 30000],[.int .i64 1],[.int .i64 0]], .bool true]),(Qbk,[.list false [[.str [49]],[.str [49,51,48,48]],[.str [48]],[.str [50,52,48]]]], .tup [.list false [[.int .i64 1],[.int .i64 1300],[.int .i64 0],[.int .i64 240]], .bool true]),(QbQ,[.agg [.str [66,65], .str [76,79,78], .str [78,89,67], .str [89,79,87], .str [89], .bool false, .int .i64 50000, .int .i64 1, .int .i64 0]], .str [102,97,114,101,32,66,65,32,76,79,78,32,78,89,67,32,89,79,87,32,89,32,111,110,101,119,97,121,32,53,48,48,48,48,32,49,32,48]),(QbQ,[.agg [.str [66,65], .str [76,79,78], .str [78,89,67], .str [81,82,84], .str [81], .bool true, .int .i64 30000, .int .i64 1, .int .i64 0]], .str [102,97,114,101,32,66,65,32,76,79,78,32,78,89,67,32,81,82,84,32,81,32,114,111,117,110,100,32,51,48,48,48,48,32,49,32,48]),(Qek,[.agg [.str [71,66], .int .i64 1, .str [71,66], .int .i64 1300, .int .i64 0, .int .i64 240, .list false [[.str [73,78,70]]]]], .str [116,97,120,32,71,66,32,49,32,71,66,32,49,51,48,48,32,48,32,50,52,48,32,73,78,70])]
theorem aw_p (lb n : Nat) : N24 lb (n + 59) Qfh [.str [102,97,114,101,32,66,65,32,76,79,78,32,78,89,67,32,89,79,87,32,89,32,111,110,101,119,97,121,32,53,48,48,48,48,32,49,32,48,10,102,97,114,101,32,66,65,32,76,79,78,32,78,89,67,32,81,82,84,32,81,32,114,111,117,110,100,32,51,48,48,48,48,32,49,32,48,10,116,97,120,32,71,66,32,49,32,71,66,32,49,51,48,48,32,48,32,50,52,48,32,73,78,70,10]] = some aw24t :=
 Qm6 _ _ _ _ (t := t24) (by kernel_rfl) ⟨Qn9 lb n,Qn2 lb n,QnS lb n,QnV lb n,Qoi lb n,QnW lb n,QnR lb n,Qn4 lb n,Qod lb n,trivial⟩ (by kernel_rfl)
theorem Qmx (lb n : Nat) : N24 lb (n + 60) Qcg [] = some (.bool true) :=
 Qm6 _ _ _ _ (t := [(Qfh,[.str [102,97,114,101,32,66,65,32,76,79,78,32,78,89,67,32,89,79,87,32,89,32,111,110,101,119,97,121,32,53,48,48,48,48,32,49,32,48,10,102,97,114,101,32,66,65,32,76,79,78,32,78,89,67,32,81,82,84,32,81,32,114,111,117,110,100,32,51,48,48,48,48,32,49,32,48,10,116,97,120,32,71,66,32,49,32,71,66,32,49,51,48,48,32,48,32,50,52,48,32,73,78,70,10]],aw24t)]) (by kernel_rfl) ⟨aw_p lb n,trivial⟩ (by kernel_rfl)
theorem Qli (lb : Nat) : Ret (lb + 1) Qcg [] (.bool true) := Evt.from 60 fun n => by
 show QbA Tryz.prog KK (L (lb + 1)) (n + 60) Qcg [] = _
 rw [QmQ]
 exact Qmx lb n
end Go.Proofs
