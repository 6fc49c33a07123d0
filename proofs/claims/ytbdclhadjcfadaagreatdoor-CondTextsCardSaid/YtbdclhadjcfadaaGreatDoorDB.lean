/- Chapter 20 on plain data: the reference's reader; its words. Conditions: as each says. -/
import Derived.Test.YtbdclhadjcfadaaGreatDoorDA
import Derived.Test.YtbdclhadjcfadaaGreatDoorPB
import Derived.Test.YtbdclhadjcfadaaGreatDoorHC
import Derived.Test.YtbdclhadjcfadaaGreatDoorW20
set_option linter.unusedVariables false
set_option linter.unusedSimpArgs false
set_option maxRecDepth 100000
namespace Go.Proofs
open Go.Am
variable (lb:Nat)
theorem QmS:Ret lb QeT [] (.list false (scv kws)) := .top rfl (.all fun n => by rw [QvG]; rfl)
theorem Qkl (k:Int) (h0:0 ≤ k) (h1:k ≤ 14):atL (scv kws) k = some [.str (kwd k)] := by
 have h:kws[k.toNat]? = some (kwd k) := by
  have hl:k.toNat < kws.length := by show k.toNat < 15; omega
  rw [List.getElem?_eq_getElem hl]
  unfold kwd
  rw [List.getD_eq_getElem?_getD,List.getElem?_eq_getElem hl]
  rfl
 have := QlE (i := k.toNat) (Qoq h)
 rwa [Int.toNat_of_nonneg h0] at this
theorem Qtr (w:Bs) (n:Nat) (hw:C lb n QeT [] = some (.list false (scv kws))):∀ (j:Nat) (i:Int),1 ≤ i → i + j = 15 → ∀ k,j < k → QhT lb n k w i = some (.int .i64 (QgU w j i))
 | 0,i,h0,h1,k,hk => by
  obtain ⟨k,rfl⟩ : ∃ m,k = m + 1 := ⟨k - 1,by omega⟩
  rw [Qj2]
  refine stO _ hw (stO _ rfl (stF (decF (by show ¬ i < ((scv kws).length:Int); rw [Qas]; show ¬ i < ((15:Nat):Int); omega)) ?_))
  rw [Qsy]
  rfl
 | j + 1,i,h0,h1,k,hk => by
  obtain ⟨k,rfl⟩ : ∃ m,k = m + 1 := ⟨k - 1,by omega⟩
  rw [Qj2]
  refine stO _ hw (stO _ rfl (stT (decT (by show i < ((scv kws).length:Int); rw [Qas]; show i < ((15:Nat):Int); omega)) (stO _ hw (stO _ rfl (stO _ (Qkl i (by omega) (by omega)) (stC rfl (stO _ rfl (stO _ rfl ?_))))))))
  rw [QgU]
  by_cases h:kwd i = w
  ·rw [if_pos h]
   exact stT (by rw [h]; simp) rfl
  ·rw [if_neg h]
   refine stF (by simpa using h) ?_
   rw [Qad (by omega) (by omega)]
   exact Qtr w n hw j (i + 1) (by omega) (by omega) k (by omega)
theorem Qof (w:Bs):Ret lb Qcb [.str w] (.int .i64 (QbR w)) :=
 .top rfl (Evt.imp2 (QmS lb) (Evt.ge 15) fun n h hn => by rw [QwP]; exact Qtr lb w n h 14 1 (by omega) (by omega) n (by omega))
def QeB (k:Int) (args:List Bs) (B:Int):Int := match args with | [_,y] => if k = 12 then (numB y).1 else B | _ => B
def fstA (args:List Bs) (A:Int):Int := match args with | x :: _ => (numB x).1 | [] => A
def min1 (args:List Bs):Int := match args with | [x,_] => (minF x).1 | _ => 0
def min2 (args:List Bs):Int := match args with | [_,y] => (minF y).1 | _ => 0
def perA (args:List Bs):Int × Int × Int := match args with | [x] => (perT x).1 | _ => (0,0,0)
def QhW (k:Int) (args:List Bs):Cd :=
 mkL k (if k = 8 then min1 args else if nums k > 0 then fstA args 0 else 0) (if k = 8 then min2 args else QeB k args 0)
  (if isp k = true then (perA args).1 else 0) (if isp k = true then (perA args).2.1 else 0) (if isp k = true then (perA args).2.2 else 0)
  (if isc k = true then args.isEmpty else true) (if isc k = true then args else [])
theorem Qz6 (k:Int) (args:List Bs) (ha:∀ x ∈ args,x.length ≤ 1000000000):Ret (lb + 1) QbJ [.agg [.int .i64 k, .list true [], .int .i64 0, .int .i64 0, .int .i64 0, .int .i64 0, .int .i64 0, .list true []], .list args.isEmpty (scv args)] (cdv (QhW k args)) := by
 refine .top rfl (.eq (fun n => by rw [QwH]) ?_)
 have ec := QiS (lb + 1) k
 have ep := QfC (lb + 1) k
 have en := Qhk (lb + 1) k
 have e1:Evt fun n => ∀ x ∈ args,C (lb + 1) n Qal [.str x] = some (perP x) := Evt.fin args fun x hx => Qur (lb + 1) x (ha x hx)
 have e2:Evt fun n => ∀ x ∈ args,C (lb + 1) n Qfp [.str x] = some (QeC (minF x)) := Evt.fin args fun x hx => Qsa (lb + 1) x
 have e3:Evt fun n => ∀ x ∈ args,C (lb + 1) n Qaz [.str x] = some (numR x) := Evt.fin args fun x hx => Qr1 (lb + 1) x (ha x hx)
 refine (ec.and (ep.and (en.and (e1.and (e2.and e3))))).mono fun n ⟨c,p,m,h1,h2,h3⟩ => ?_
 clear ec ep en e1 e2 e3
 have lc:((scv args).length:Int) = (args.length:Int) := by rw [Qas]
 have j4:∀ (bA bB f t d:Int) (tn:Bool) (T:List Bs),
   Qe0 (lb + 1) n k true [] 0 0 0 0 0 true [] args.isEmpty (scv args) (.int .i64 bB) (.int .i64 f) (.int .i64 t) (.int .i64 d) tn (scv T) (.int .i64 bA) =
    some (.agg [.int .i64 k, .list true [], .int .i64 bA, .int .i64 (QeB k args bB), .int .i64 f, .int .i64 t, .int .i64 d, .list tn (scv T)]) := by
  intro bA bB f t d tn T
  rw [Qsq]
  by_cases hk:k = 12
  ·refine stT (beqT hk) ?_
   rcases args with _ | ⟨x,_ | ⟨y,_ | ⟨z,r⟩⟩⟩
   ·exact stF rfl rfl
   ·exact stF rfl rfl
   ·refine stT rfl (stO _ rfl (stC rfl (stO _ rfl (stO _ (h3 y (by simp)) (stO _ rfl (stO _ rfl (stO _ rfl (stO _ rfl (stC rfl ?_)))))))))
    have e:QeB k [x,y] bB = (numB y).1 := if_pos hk
    rw [e]
   ·exact stF (beqF (by rw [lc]; simp; omega)) rfl
  ·refine stF (beqF hk) ?_
   rcases args with _ | ⟨x,_ | ⟨y,_ | ⟨z,r⟩⟩⟩
   ·rfl
   ·rfl
   ·have e:QeB k [x,y] bB = bB := if_neg hk
    rw [e]
   ·rfl
 have j3:∀ (A B f t d:Int) (tn:Bool) (T:List Bs),
   Qf3 (lb + 1) n k true [] 0 0 0 0 0 true [] args.isEmpty (scv args) (.int .i64 f) (.int .i64 t) (.int .i64 d) tn (scv T) (.int .i64 A) (.int .i64 B) =
    some (.agg [.int .i64 k, .list true [], .int .i64 (if k ≠ 8 ∧ nums k > 0 then fstA args A else A), .int .i64 (QeB k args B), .int .i64 f, .int .i64 t, .int .i64 d, .list tn (scv T)]) := by
  intro A B f t d tn T
  rw [Qss]
  by_cases hk:k = 8
  ·refine stF (bneF hk) ((j4 A B f t d tn T).trans ?_)
   rw [if_neg (fun e => e.1 hk)]
  ·refine stT (bneT hk) (stO _ m (stO _ (Qai ..) ?_))
   by_cases hn:nums k > 0
   ·refine stT (decT hn) ?_
    rw [if_pos ⟨hk,hn⟩]
    rcases args with _ | ⟨x,r⟩
    ·exact stF rfl (j4 A B f t d tn T)
    ·exact stT (decT (by rw [lc,List.length_cons]; omega)) (stO _ rfl (stC rfl (stO _ rfl (stO _ (h3 x (by simp)) (stO _ rfl (stO _ rfl (stO _ rfl (stO _ rfl (stC rfl (j4 (numB x).1 B f t d tn T))))))))))
   ·refine stF (decF hn) ((j4 A B f t d tn T).trans ?_)
    rw [if_neg (fun e => hn e.2)]
 have j2:∀ (f t d:Int) (tn:Bool) (T:List Bs),
   QfO (lb + 1) n k true [] 0 0 0 0 0 true [] args.isEmpty (scv args) tn (scv T) (.int .i64 f) (.int .i64 t) (.int .i64 d) =
    some (.agg [.int .i64 k, .list true [], .int .i64 (if k = 8 then min1 args else if nums k > 0 then fstA args 0 else 0), .int .i64 (if k = 8 then min2 args else QeB k args 0), .int .i64 f, .int .i64 t, .int .i64 d, .list tn (scv T)]) := by
  intro f t d tn T
  rw [Qr6]
  by_cases hk:k = 8
  ·have nl:∀ B,QeB k args B = B := fun B => by
    unfold QeB
    split
    ·rw [if_neg (by omega)]
    ·rfl
   refine stT (beqT hk) ?_
   rw [if_pos hk,if_pos hk]
   have j3' : ∀ A B,_ := fun A B => (j3 A B f t d tn T).trans (by rw [if_neg (fun e => e.1 hk),nl B])
   rcases args with _ | ⟨x,_ | ⟨y,_ | ⟨z,r⟩⟩⟩
   ·exact stF rfl (j3' 0 0)
   ·exact stF rfl (j3' 0 0)
   ·exact stT rfl (stO _ rfl (stC rfl (stO _ rfl (stO _ (h2 x (by simp)) (stO _ rfl (stO _ rfl (stO _ rfl (stO _ rfl (stC rfl (stO _ rfl (stC rfl (stO _ rfl (stO _ (h2 y (by simp)) (stO _ rfl (stO _ rfl (stO _ rfl (stO _ rfl (stC rfl (j3' _ _)))))))))))))))))))
   ·exact stF (beqF (by rw [lc]; simp; omega)) (j3' 0 0)
  ·refine stF (beqF hk) ((j3 0 0 f t d tn T).trans ?_)
   rw [if_neg hk,if_neg hk]
   by_cases hn:nums k > 0
   ·rw [if_pos ⟨hk,hn⟩,if_pos hn]
   ·rw [if_neg (fun e => hn e.2),if_neg hn]
 have j1:∀ (tn:Bool) (T:List Bs),
   Qh2 (lb + 1) n k true [] 0 0 0 0 0 true [] args.isEmpty (scv args) tn (scv T) =
    some (.agg [.int .i64 k, .list true [], .int .i64 (if k = 8 then min1 args else if nums k > 0 then fstA args 0 else 0), .int .i64 (if k = 8 then min2 args else QeB k args 0),
     .int .i64 (if isp k = true then (perA args).1 else 0), .int .i64 (if isp k = true then (perA args).2.1 else 0), .int .i64 (if isp k = true then (perA args).2.2 else 0), .list tn (scv T)]) := by
  intro tn T
  rw [Qsi]
  refine stO _ p (stO _ rfl ?_)
  cases hp:isp k with
  | false =>
   exact stF rfl ((j2 0 0 0 tn T).trans rfl)
  | true =>
   refine stT rfl ?_
   rw [if_pos rfl,if_pos rfl,if_pos rfl]
   rcases args with _ | ⟨x,_ | ⟨y,r⟩⟩
   ·exact stF rfl (j2 0 0 0 tn T)
   ·exact stT rfl (stO _ rfl (stC rfl (stO _ rfl (stO _ ((h1 x (by simp)).trans (by rw [QnN])) (stO _ rfl (stO _ rfl (stO _ rfl (stO _ rfl (stO _ rfl (stC rfl (stO _ rfl (stO _ rfl (stO _ rfl (j2 _ _ _ tn T))))))))))))))
   ·exact stF (beqF (by rw [lc]; simp; omega)) (j2 0 0 0 tn T)
 refine stO _ c (stO _ rfl ?_)
 cases hc:isc k with
 | true =>
  refine stT rfl ((j1 args.isEmpty args).trans ?_)
  unfold QhW
  rw [hc]
  rfl
 | false =>
  refine stF rfl ((j1 true []).trans ?_)
  unfold QhW
  rw [hc]
  rfl
end Go.Proofs
set_option linter.unusedVariables false
set_option linter.unusedSimpArgs false
set_option maxRecDepth 100000
namespace Go.Proofs
open Go.Am
variable (lb:Nat)
def low (c:UInt8):Bool := decide (97 ≤ c.toNat) && decide (c.toNat ≤ 122)
def argc (c:UInt8):Bool := !(decide (c.toNat = 32) || (decide (c.toNat = 44) || decide (c.toNat = 41)))
def Qb9:Nat → List Bs → Bs → List Bs × Bs
 | 0,l,s => (l,s)
 | _ + 1,l,[] => (l,[])
 | j + 1,l,c :: r => if c.toNat = 32 then Qb9 j (l ++ [r.takeWhile argc]) (r.dropWhile argc) else (l,c :: r)
def mkI (k:Int) (l:List Cd):Cd := .mk k l.isEmpty l 0 0 0 0 0 true []
def QbN (p:Bs → Cd × Option Bs):Nat → List Cd → Bs → List Cd × Option Bs
 | 0,l,_ => (l,none)
 | j + 1,l,s => match (p s).2 with
  | none => (l,none)
  | some s2 => if s2.head? = some 41 then (l ++ [(p s).1],some s2.tail) else if s2.take 2 = [44,32] then QbN p j (l ++ [(p s).1]) (s2.drop 2) else (l ++ [(p s).1],none)
def Qch:Nat → Bs → Cd × Option Bs
 | 0,s => (mkL (QbR (s.takeWhile low)) 0 0 0 0 0 true [],none)
 | d + 1,s =>
  if QbR (s.takeWhile low) = 0 then (mkL (QbR (s.takeWhile low)) 0 0 0 0 0 true [],none)
  else if isl (QbR (s.takeWhile low)) = true then match s.dropWhile low with
   | [] => (mkI (QbR (s.takeWhile low)) [],none)
   | c :: r => if c.toNat = 40 then (mkI (QbR (s.takeWhile low)) (QbN (Qch d) (r.length + 1) [] r).1,(QbN (Qch d) (r.length + 1) [] r).2) else (mkI (QbR (s.takeWhile low)) [],none)
  else (QhW (QbR (s.takeWhile low)) (Qb9 ((s.dropWhile low).length + 1) [] (s.dropWhile low)).1,some (Qb9 ((s.dropWhile low).length + 1) [] (s.dropWhile low)).2)
def endI (s:Bs) (o:Option Bs):Int := match o with
 | none => -1
 | some r => (s.length:Int) - (r.length:Int)
def Suf (r t:Bs):Prop := ∃ m,t = m ++ r
theorem Suf.refl (t:Bs):Suf t t := ⟨[],rfl⟩
theorem Suf.trans {a b c:Bs} (h:Suf a b) (g:Suf b c):Suf a c := by
 obtain ⟨m,rfl⟩ := h
 obtain ⟨n,rfl⟩ := g
 exact ⟨n ++ m,by simp⟩
theorem Suf.len {a b:Bs} (h:Suf a b):a.length ≤ b.length := by
 obtain ⟨m,rfl⟩ := h
 simp
theorem QmK (f:UInt8 → Bool) (t:Bs):Suf (t.dropWhile f) t := ⟨t.takeWhile f,List.takeWhile_append_dropWhile.symm⟩
theorem QzF (k:Nat) (t:Bs):Suf (t.drop k) t := ⟨t.take k,(List.take_append_drop k t).symm⟩
theorem Qqb (c:UInt8) (t:Bs):Suf t (c :: t) := ⟨[c],rfl⟩
theorem QvI:∀ (j:Nat) (l:List Bs) (s:Bs),Suf (Qb9 j l s).2 s
 | 0,l,s => Suf.refl s
 | j + 1,l,[] => Suf.refl _
 | j + 1,l,c :: r => by
  rw [Qb9]
  split
  ·exact (QvI j _ _).trans ((QmK argc r).trans (Qqb c r))
  ·exact Suf.refl _
theorem Qqc:∀ (j:Nat) (l:List Bs) (s:Bs) (B:Nat),(∀ x ∈ l,x.length ≤ B) → s.length ≤ B → ∀ x ∈ (Qb9 j l s).1,x.length ≤ B
 | 0,l,s,B,h,_,x,hx => h x hx
 | j + 1,l,[],B,h,_,x,hx => h x hx
 | j + 1,l,c :: r,B,h,hs,x,hx => by
  rw [Qb9] at hx
  have hr:r.length ≤ B := by simp at hs; omega
  have ht:(r.takeWhile argc).length ≤ r.length := by
   have := congrArg List.length (List.takeWhile_append_dropWhile (p := argc) (l := r))
   rw [List.length_append] at this; omega
  have hd := (QmK argc r).len
  split at hx
  ·refine Qqc j _ _ B (fun y hy => ?_) (by omega) x hx
   rcases List.mem_append.1 hy with hy | hy
   ·exact h y hy
   ·simp only [List.mem_singleton] at hy; subst hy; omega
  ·exact h x hx
theorem QsI {p:Bs → Cd × Option Bs} (hp:∀ s r,(p s).2 = some r → Suf r s):∀ (j:Nat) (l:List Cd) (s r:Bs),(QbN p j l s).2 = some r → Suf r s
 | 0,l,s,r,h => by cases h
 | j + 1,l,s,r,h => by
  rw [QbN] at h
  split at h
  ·cases h
  ·rename_i s2 h2
   have h1 := hp _ _ h2
   split at h
   ·obtain rfl := Option.some.inj h
    cases s2 with
    | nil => exact h1
    | cons c q => exact (Qqb c q).trans h1
   split at h
   ·exact (QsI hp j _ _ _ h).trans ((QzF 2 s2).trans h1)
   ·cases h
theorem Qqh:∀ (d:Nat) (s r:Bs),(Qch d s).2 = some r → Suf r s
 | 0,s,r,h => by cases h
 | d + 1,s,r,h => by
  rw [Qch] at h
  split at h
  ·cases h
  split at h
  ·split at h
   ·cases h
   ·rename_i c q e
    split at h
    ·refine (QsI (Qqh d) _ _ _ _ h).trans ((Qqb c q).trans ?_)
     rw [← e]
     exact QmK low s
    ·cases h
  ·obtain rfl := Option.some.inj h
   exact (QvI _ _ _).trans (QmK low s)
theorem QxD (f:UInt8 → Bool) (c:UInt8) (u:Bs):(c :: u).takeWhile f = if f c = true then c :: u.takeWhile f else [] := by
 cases h:f c <;> simp [h]
theorem QyE (s:Bs) (hs:s.length ≤ 800000) (b2 c3:Int) (n:Nat):∀ (u p:Bs),p ++ u = s → ∀ k,u.length < k → Qh4 lb n k s b2 c3 (p.length:Int) = QfZ lb n s b2 c3 ((p.length:Int) + ((u.takeWhile low).length:Int))
 | [],p,hp,k,hk => by
  obtain ⟨k,rfl⟩ : ∃ m,k = m + 1 := ⟨k - 1,by omega⟩
  obtain rfl:p = s := by simpa using hp
  rw [QjL]
  refine stF (decF (by omega)) ?_
  simp
 | c :: u,p,hp,k,hk => by
  obtain ⟨k,rfl⟩ : ∃ m,k = m + 1 := ⟨k - 1,by omega⟩
  have hl:s.length = p.length + (u.length + 1) := by rw [← hp]; simp
  have hat := Qjw (i := (p.length:Int)) hp.symm rfl
  rw [QjL,QxD]
  refine stT (decT (by omega)) (stO _ hat ?_)
  by_cases h1:97 ≤ c.toNat
  ·refine stT (decT (by omega)) (stO _ hat ?_)
   by_cases h2:c.toNat ≤ 122
   ·rw [if_pos (by simp [low,h1,h2])]
    refine stT (decT (by omega)) ?_
    rw [Qad (by omega) (by omega),show (p.length:Int) + 1 = ((p ++ [c]).length:Int) by simp,QyE s hs b2 c3 n u (p ++ [c]) (by rw [← hp]; simp) k (by simp at hk; omega)]
    congr 1
    simp only [List.length_append,List.length_cons,List.length_nil]
    omega
   ·rw [if_neg (by simp [low,h2])]
    refine stF (decF (by omega)) ?_
    simp
  ·rw [if_neg (by simp [low]; omega)]
   refine stF (decF (by omega)) ?_
   simp
theorem QBh (s:Bs) (hs:s.length ≤ 800000) (wI:Nat) (b2 c3 wb:Int) (wD:Bool) (wA:List (List CV)) (jm:Int) (jr:CV) (n:Nat):∀ (u p:Bs),p ++ u = s → ∀ k,u.length < k →
  Qh8 lb n k wI s b2 c3 wb wD wA jm jr (p.length:Int) = Qe3 lb n wI s b2 c3 wb wD wA jm jr ((p.length:Int) + ((u.takeWhile argc).length:Int))
 | [],p,hp,k,hk => by
  obtain ⟨k,rfl⟩ : ∃ m,k = m + 1 := ⟨k - 1,by omega⟩
  obtain rfl:p = s := by simpa using hp
  rw [Qkh]
  refine stF (decF (by omega)) ?_
  simp
 | c :: u,p,hp,k,hk => by
  obtain ⟨k,rfl⟩ : ∃ m,k = m + 1 := ⟨k - 1,by omega⟩
  have hl:s.length = p.length + (u.length + 1) := by rw [← hp]; simp
  have hat := Qjw (i := (p.length:Int)) hp.symm rfl
  rw [Qkh,QxD]
  refine stT (decT (by omega)) (stO _ hat ?_)
  by_cases h1:c.toNat = 32
  ·rw [if_neg (by simp [argc,h1])]
   refine stF (bneF (by omega)) ?_
   simp
  refine stT (bneT (by omega)) (stO _ hat ?_)
  by_cases h2:c.toNat = 44
  ·rw [if_neg (by simp [argc,h2])]
   refine stF (bneF (by omega)) ?_
   simp
  refine stT (bneT (by omega)) (stO _ hat ?_)
  by_cases h3:c.toNat = 41
  ·rw [if_neg (by simp [argc,h3])]
   refine stF (bneF (by omega)) ?_
   simp
  rw [if_pos (by simp [argc,h1,h2,h3])]
  refine stT (bneT (by omega)) ?_
  rw [Qad (by omega) (by omega),show (p.length:Int) + 1 = ((p ++ [c]).length:Int) by simp,QBh s hs wI b2 c3 wb wD wA jm jr n u (p ++ [c]) (by rw [← hp]; simp) k (by simp at hk; omega)]
  congr 1
  simp only [List.length_append,List.length_cons,List.length_nil]
  omega
theorem QtB (s:Bs) (hs:s.length ≤ 800000) (b2 c3 jm:Int) (jr:CV) (n:Nat) (hn:s.length < n):∀ (j:Nat) (u p:Bs) (l:List Bs),p ++ u = s → u.length < j → l.length + u.length ≤ 800000 → ∀ k,j < k →
  Qif lb n k s b2 c3 jm jr (p.length:Int) l.isEmpty (scv l) = Qih lb n s b2 c3 jm jr ((s.length:Int) - ((Qb9 j l u).2.length:Int)) (Qb9 j l u).1.isEmpty (scv (Qb9 j l u).1)
 | 0,u,p,l,hp,hu,hl,k,hk => by omega
 | j + 1,[],p,l,hp,hu,hl,k,hk => by
  obtain ⟨k,rfl⟩ : ∃ m,k = m + 1 := ⟨k - 1,by omega⟩
  obtain rfl:p = s := by simpa using hp
  rw [QjD,Qb9]
  refine stF (decF (by omega)) ?_
  simp
 | j + 1,c :: u,p,l,hp,hu,hl,k,hk => by
  obtain ⟨k,rfl⟩ : ∃ m,k = m + 1 := ⟨k - 1,by omega⟩
  have hsl:s.length = p.length + (u.length + 1) := by rw [← hp]; simp
  have hat := Qjw (i := (p.length:Int)) hp.symm rfl
  rw [QjD,Qb9]
  refine stT (decT (by omega)) (stO _ hat ?_)
  by_cases h1:c.toNat = 32
  ·rw [if_pos h1]
   refine stT (beqT (by omega)) ?_
   have hu2 := congrArg List.length (List.takeWhile_append_dropWhile (p := argc) (l := u))
   rw [List.length_append] at hu2
   simp only [List.length_cons] at hu hl
   rw [Qad (by omega) (by omega),show (p.length:Int) + 1 = ((p ++ [c]).length:Int) by simp,QBh lb s hs k b2 c3 _ _ _ jm jr n u (p ++ [c]) (by rw [← hp]; simp) n (by omega),QrY]
   have hpc:((p ++ [c]).length:Int) = (p.length:Int) + 1 := by simp
   refine stC (decT (by omega)) (stC (decT (by rw [Qad (by omega) (by omega)]; omega)) (stC (QdW (by rw [Qas]; omega)) ?_))
   have ew:(s.take (((p ++ [c]).length:Int) + ((u.takeWhile argc).length:Int)).toNat).drop (IntKind.wrap .i64 ((p.length:Int) + 1)).toNat = u.takeWhile argc := by
    rw [Qad (by omega) (by omega),show (((p ++ [c]).length:Int) + ((u.takeWhile argc).length:Int)).toNat = (p ++ [c]).length + (u.takeWhile argc).length by omega,show ((p.length:Int) + 1).toNat = (p ++ [c]).length by simp]
    have e1:s = (p ++ [c]) ++ (u.takeWhile argc ++ u.dropWhile argc) := by rw [List.takeWhile_append_dropWhile, ← hp]; simp
    rw [e1,List.take_length_add_append,List.drop_left]
    exact List.take_left
   rw [ew]
   have ee:scv l ++ [[CV.str (u.takeWhile argc)]] = scv (l ++ [u.takeWhile argc]) := by simp [scv]
   have eb:(l.isEmpty && false) = (l ++ [u.takeWhile argc]).isEmpty := by simp
   rw [ee,eb,show (((p ++ [c]).length:Int) + ((u.takeWhile argc).length:Int)) = (((p ++ [c]) ++ u.takeWhile argc).length:Int) by simp; omega]
   have ih := QtB s hs b2 c3 jm jr n hn j (u.dropWhile argc) ((p ++ [c]) ++ u.takeWhile argc) (l ++ [u.takeWhile argc]) (by rw [List.append_assoc,List.takeWhile_append_dropWhile, ← hp]; simp) (by omega) (by simp; omega) k (by omega)
   exact ih
  ·rw [if_neg h1]
   refine stF (beqF (by omega)) ?_
   rw [show (s.length:Int) - ((c :: u).length:Int) = (p.length:Int) by simp only [List.length_cons]; omega]
def RdOk (lb n:Nat) (s t:Bs) (lv:Int) (v:Cd × Option Bs):Prop := ∀ pre,pre ++ t = s → C (lb + 1) n Qan [.str s, .int .i64 (pre.length:Int), .int .i64 lv] = some (.tup [cdv v.1, .int .i64 (endI s v.2)])
theorem QAz (s:Bs):endI s none = -1 := rfl
theorem QhK (s r:Bs):endI s (some r) = (s.length:Int) - (r.length:Int) := rfl
theorem Qot (k:Int) (l:List Cd):cdv (mkI k l) = .agg [.int .i64 k, .list l.isEmpty (l.map ccv), .int .i64 0, .int .i64 0, .int .i64 0, .int .i64 0, .int .i64 0, .list true []] := rfl
section
variable {s:Bs} (hs:s.length ≤ 800000) {lv:Int} (hlv:0 ≤ lv ∧ lv ≤ 100) {p:Bs → Cd × Option Bs} (hsuf:∀ t r,(p t).2 = some r → Suf r t)
include hs hlv hsuf
theorem QuU (kk j8:Int) (hp:∀ t,Suf t s → Evt fun n => RdOk lb n s t (lv + 1) (p t)):∀ (j:Nat) (l:List Cd) (t pre:Bs),l ≠ [] → pre ++ t = s → t.length < j → l.length + j ≤ 900000 →
  Evt fun n => ∀ k,j < k → Qem (lb + 1) n k kk true [] 0 0 0 0 0 true [] s lv j8 (pre.length:Int) (l.map ccv) = some (.tup [cdv (mkI kk (QbN p j l t).1), .int .i64 (endI s (QbN p j l t).2)])
 | 0,l,t,pre,hl,hpt,hj,hB => by omega
 | j + 1,l,t,pre,hl,hpt,hj,hB => by
  have hle:l.isEmpty = false := by cases l; exact absurd rfl hl; rfl
  have hlen:s.length = pre.length + t.length := by rw [← hpt]; simp
  have e1 := hp t ⟨pre,hpt.symm⟩
  rw [QbN]
  have ee:ccv (p t).1 = [.int .i64 (p t).1.k, .list (p t).1.ln ((p t).1.l.map ccv), .int .i64 (p t).1.a, .int .i64 (p t).1.b, .int .i64 (p t).1.fr, .int .i64 (p t).1.to, .int .i64 (p t).1.days, .list (p t).1.tn (scv (p t).1.t)] := Qhe _
  have fin:∀ z:Int,cdv (mkI kk (l ++ [(p t).1])) = .agg [.int .i64 kk, .list false (l.map ccv ++ [[.int .i64 (p t).1.k, .list (p t).1.ln ((p t).1.l.map ccv), .int .i64 (p t).1.a, .int .i64 (p t).1.b, .int .i64 (p t).1.fr, .int .i64 (p t).1.to, .int .i64 (p t).1.days, .list (p t).1.tn (scv (p t).1.t)]]), .int .i64 0, .int .i64 0, .int .i64 0, .int .i64 0, .int .i64 0, .list true []] := fun _ => by
   rw [← ee,Qot,List.map_append]
   simp
  cases hv:(p t).2 with
  | none =>
   have e1:Evt fun n => C (lb + 1) n Qan [.str s, .int .i64 (pre.length:Int), .int .i64 (lv + 1)] = some (.tup [cdv (p t).1, .int .i64 (-1)]) := e1.mono fun n e => by
    have h := e pre hpt
    rw [hv] at h
    exact h
   dsimp only
   refine e1.mono fun n e k hk => ?_
   obtain ⟨k,rfl⟩ : ∃ m,k = m + 1 := ⟨k - 1,by omega⟩
   rw [QcG,Qad (x := lv + 1) (by omega) (by omega)]
   refine stO _ e (stO _ rfl (stO _ rfl (stO _ rfl (stO _ rfl (stO _ rfl (stC rfl (stO _ rfl (stO _ rfl (stO _ rfl (stO _ rfl (stO _ rfl (stO _ rfl (stO _ rfl (stO _ rfl (stO _ (Qai ..) ?_)))))))))))))))
   refine stT (decT (by decide)) ?_
   rw [Qot,hle]
   rfl
  | some s2 =>
   obtain ⟨m,hm⟩ := hsuf _ _ hv
   have hs2:t.length = m.length + s2.length := by rw [hm]; simp
   have hps:(pre ++ m) ++ s2 = s := by rw [← hpt,hm]; simp
   have hend:endI s (some s2) = ((pre ++ m).length:Int) := by rw [QhK,hlen,List.length_append]; omega
   have e1:Evt fun n => C (lb + 1) n Qan [.str s, .int .i64 (pre.length:Int), .int .i64 (lv + 1)] = some (.tup [cdv (p t).1, .int .i64 ((pre ++ m).length:Int)]) := e1.mono fun n e => by rw [← hend, ← hv]; exact e pre hpt
   have hpl:(pre ++ m).length = pre.length + m.length := List.length_append
   dsimp only
   cases s2 with
   | nil =>
    rw [if_neg (by simp),if_neg (by simp)]
    refine e1.mono fun n e k hk => ?_
    obtain ⟨k,rfl⟩ : ∃ m,k = m + 1 := ⟨k - 1,by omega⟩
    rw [QcG,Qad (x := lv + 1) (by omega) (by omega)]
    refine stO _ e (stO _ rfl (stO _ rfl (stO _ rfl (stO _ rfl (stO _ rfl (stC rfl (stO _ rfl (stO _ rfl (stO _ rfl (stO _ rfl (stO _ rfl (stO _ rfl (stO _ rfl (stO _ rfl (stO _ (Qai ..) ?_)))))))))))))))
    have:s.length = (pre ++ m).length := by rw [← hps]; simp
    refine stF (decF (by omega)) (stC (QdW (by rw [List.length_map]; omega)) (stO _ (Qai ..) (stF (decF (by omega)) (stO _ (Qai ..) (stT (decT (by rw [Qad (by omega) (by omega)]; omega)) ?_)))))
    rw [fin 0]
    rfl
   | cons c s3 =>
    have hsl:s.length = (pre ++ m).length + (s3.length + 1) := by rw [← hps,List.length_append,List.length_cons]
    have hat2 := Qjw (i := ((pre ++ m).length:Int)) hps.symm rfl
    by_cases h41:c.toNat = 41
    ·have hc:c = 41 := Qds h41
     subst hc
     rw [if_pos (show (41 :: s3:Bs).head? = some 41 from rfl)]
     refine e1.mono fun n e k hk => ?_
     obtain ⟨k,rfl⟩ : ∃ m,k = m + 1 := ⟨k - 1,by omega⟩
     rw [QcG,Qad (x := lv + 1) (by omega) (by omega)]
     refine stO _ e (stO _ rfl (stO _ rfl (stO _ rfl (stO _ rfl (stO _ rfl (stC rfl (stO _ rfl (stO _ rfl (stO _ rfl (stO _ rfl (stO _ rfl (stO _ rfl (stO _ rfl (stO _ rfl (stO _ (Qai ..) ?_)))))))))))))))
     refine stF (decF (by omega)) (stC (QdW (by rw [List.length_map]; omega)) (stO _ (Qai ..) (stT (decT (by omega)) (stO _ rfl (stO _ hat2 (stT rfl (stO _ (Qai ..) ?_)))))))
     rw [fin 0,Qad (by omega) (by omega),QhK]
     have:((pre ++ m).length:Int) + 1 = (s.length:Int) - ((41 :: s3:Bs).tail.length:Int) := by show _ = (s.length:Int) - (s3.length:Int); omega
     rw [this]
    ·have hc41:¬ (c :: s3).head? = some 41 := by
      intro e; apply h41; simp only [List.head?_cons,Option.some.injEq] at e; rw [e]; rfl
     rw [if_neg hc41]
     have hcut:(s.take (((pre ++ m).length:Int) + 2).toNat).drop ((pre ++ m).length:Int).toNat = (c :: s3).take 2 := by
      rw [show (((pre ++ m).length:Int) + 2).toNat = (pre ++ m).length + 2 by omega,Int.toNat_natCast, ← hps,List.take_length_add_append,List.drop_left]
     by_cases hnil:s3 = []
     ·subst hnil
      rw [if_neg (by simp)]
      refine e1.mono fun n e k hk => ?_
      obtain ⟨k,rfl⟩ : ∃ m,k = m + 1 := ⟨k - 1,by omega⟩
      rw [QcG,Qad (x := lv + 1) (by omega) (by omega)]
      refine stO _ e (stO _ rfl (stO _ rfl (stO _ rfl (stO _ rfl (stO _ rfl (stC rfl (stO _ rfl (stO _ rfl (stO _ rfl (stO _ rfl (stO _ rfl (stO _ rfl (stO _ rfl (stO _ rfl (stO _ (Qai ..) ?_)))))))))))))))
      refine stF (decF (by omega)) (stC (QdW (by rw [List.length_map]; omega)) (stO _ (Qai ..) (stT (decT (by omega)) (stO _ rfl (stO _ hat2 (stF (beqF (by omega)) (stO _ (Qai ..) (stT (decT (by rw [Qad (by omega) (by omega)]; simp only [List.length_nil] at hsl; omega)) ?_))))))))
      rw [fin 0]
      rfl
     ·have h3:1 ≤ s3.length := by cases s3; exact absurd rfl hnil; simp
      by_cases h44:(c :: s3).take 2 = [44,32]
      ·rw [if_pos h44]
       have e2 := QuU kk j8 hp j (l ++ [(p t).1]) ((c :: s3).drop 2) ((pre ++ m) ++ (c :: s3).take 2) (by simp) (by rw [List.append_assoc,List.take_append_drop]; exact hps) (by simp; simp at hs2; omega) (by simp; omega)
       refine Evt.imp2 e1 e2 fun n e g k hk => ?_
       obtain ⟨k,rfl⟩ : ∃ m,k = m + 1 := ⟨k - 1,by omega⟩
       rw [QcG,Qad (x := lv + 1) (by omega) (by omega)]
       refine stO _ e (stO _ rfl (stO _ rfl (stO _ rfl (stO _ rfl (stO _ rfl (stC rfl (stO _ rfl (stO _ rfl (stO _ rfl (stO _ rfl (stO _ rfl (stO _ rfl (stO _ rfl (stO _ rfl (stO _ (Qai ..) ?_)))))))))))))))
       refine stF (decF (by omega)) (stC (QdW (by rw [List.length_map]; omega)) (stO _ (Qai ..) (stT (decT (by omega)) (stO _ rfl (stO _ hat2 (stF (beqF (by omega)) (stO _ (Qai ..) (stF (decF (by rw [Qad (by omega) (by omega)]; omega)) (stO _ (Qai ..) (stC (decT (by rw [Qad (by omega) (by omega)]; omega)) (stO _ rfl (stC (decT (by rw [Qad (by omega) (by omega)]; omega)) (stF (by rw [Qad (by omega) (by omega),hcut,h44]; rfl) (stO _ (Qai ..) ?_))))))))))))))
       have g := g k (by omega)
       have el:(((pre ++ m) ++ (c :: s3).take 2).length:Int) = ((pre ++ m).length:Int) + 2 := by rw [List.length_append,h44]; simp
       rw [el,List.map_append,List.map_cons,List.map_nil,ee] at g
       rw [Qad (by omega) (by omega)]
       exact g
      ·rw [if_neg h44]
       refine e1.mono fun n e k hk => ?_
       obtain ⟨k,rfl⟩ : ∃ m,k = m + 1 := ⟨k - 1,by omega⟩
       rw [QcG,Qad (x := lv + 1) (by omega) (by omega)]
       refine stO _ e (stO _ rfl (stO _ rfl (stO _ rfl (stO _ rfl (stO _ rfl (stC rfl (stO _ rfl (stO _ rfl (stO _ rfl (stO _ rfl (stO _ rfl (stO _ rfl (stO _ rfl (stO _ rfl (stO _ (Qai ..) ?_)))))))))))))))
       refine stF (decF (by omega)) (stC (QdW (by rw [List.length_map]; omega)) (stO _ (Qai ..) (stT (decT (by omega)) (stO _ rfl (stO _ hat2 (stF (beqF (by omega)) (stO _ (Qai ..) (stF (decF (by rw [Qad (by omega) (by omega)]; omega)) (stO _ (Qai ..) (stC (decT (by rw [Qad (by omega) (by omega)]; omega)) (stO _ rfl (stC (decT (by rw [Qad (by omega) (by omega)]; omega)) (stT (by rw [Qad (by omega) (by omega),hcut]; exact bneS h44) ?_)))))))))))))
       rw [fin 0]
       rfl
theorem QwJ (kk:Int) (hp:∀ t,Suf t s → Evt fun n => RdOk lb n s t (lv + 1) (p t)) (t pre:Bs) (hpt:pre ++ t = s) (hat:1 ≤ pre.length) :
  Evt fun n => ∀ k,t.length + 1 < k → Qke (lb + 1) n k kk true [] 0 0 0 0 0 true [] s ((pre.length:Int) - 1) lv = some (.tup [cdv (mkI kk (QbN p (t.length + 1) [] t).1), .int .i64 (endI s (QbN p (t.length + 1) [] t).2)]) := by
  have hlen:s.length = pre.length + t.length := by rw [← hpt]; simp
  have e1 := hp t ⟨pre,hpt.symm⟩
  rw [QbN]
  have ee:ccv (p t).1 = [.int .i64 (p t).1.k, .list (p t).1.ln ((p t).1.l.map ccv), .int .i64 (p t).1.a, .int .i64 (p t).1.b, .int .i64 (p t).1.fr, .int .i64 (p t).1.to, .int .i64 (p t).1.days, .list (p t).1.tn (scv (p t).1.t)] := Qhe _
  have fin:∀ z:Int,cdv (mkI kk (([]:List Cd) ++ [(p t).1])) = .agg [.int .i64 kk, .list false ([[.int .i64 (p t).1.k, .list (p t).1.ln ((p t).1.l.map ccv), .int .i64 (p t).1.a, .int .i64 (p t).1.b, .int .i64 (p t).1.fr, .int .i64 (p t).1.to, .int .i64 (p t).1.days, .list (p t).1.tn (scv (p t).1.t)]]), .int .i64 0, .int .i64 0, .int .i64 0, .int .i64 0, .int .i64 0, .list true []] := fun _ => by
   rw [← ee,Qot,List.map_append]
   simp
  cases hv:(p t).2 with
  | none =>
   have e1:Evt fun n => C (lb + 1) n Qan [.str s, .int .i64 (pre.length:Int), .int .i64 (lv + 1)] = some (.tup [cdv (p t).1, .int .i64 (-1)]) := e1.mono fun n e => by
    have h := e pre hpt
    rw [hv] at h
    exact h
   dsimp only
   refine e1.mono fun n e k hk => ?_
   obtain ⟨k,rfl⟩ : ∃ m,k = m + 1 := ⟨k - 1,by omega⟩
   rw [QcI,Qad (x := lv + 1) (by omega) (by omega),Qad (x := (pre.length:Int) - 1 + 1) (by omega) (by omega),Int.sub_add_cancel]
   refine stO _ e (stO _ rfl (stO _ rfl (stO _ rfl (stO _ rfl (stO _ rfl (stC rfl (stO _ rfl (stO _ rfl (stO _ rfl (stO _ rfl (stO _ rfl (stO _ rfl (stO _ rfl (stO _ rfl (stO _ (Qai ..) ?_)))))))))))))))
   refine stT (decT (by decide)) ?_
   rw [Qot]
   rfl
  | some s2 =>
   obtain ⟨m,hm⟩ := hsuf _ _ hv
   have hs2:t.length = m.length + s2.length := by rw [hm]; simp
   have hps:(pre ++ m) ++ s2 = s := by rw [← hpt,hm]; simp
   have hend:endI s (some s2) = ((pre ++ m).length:Int) := by rw [QhK,hlen,List.length_append]; omega
   have e1:Evt fun n => C (lb + 1) n Qan [.str s, .int .i64 (pre.length:Int), .int .i64 (lv + 1)] = some (.tup [cdv (p t).1, .int .i64 ((pre ++ m).length:Int)]) := e1.mono fun n e => by rw [← hend, ← hv]; exact e pre hpt
   have hpl:(pre ++ m).length = pre.length + m.length := List.length_append
   dsimp only
   cases s2 with
   | nil =>
    rw [if_neg (by simp),if_neg (by simp)]
    refine e1.mono fun n e k hk => ?_
    obtain ⟨k,rfl⟩ : ∃ m,k = m + 1 := ⟨k - 1,by omega⟩
    rw [QcI,Qad (x := lv + 1) (by omega) (by omega),Qad (x := (pre.length:Int) - 1 + 1) (by omega) (by omega),Int.sub_add_cancel]
    refine stO _ e (stO _ rfl (stO _ rfl (stO _ rfl (stO _ rfl (stO _ rfl (stC rfl (stO _ rfl (stO _ rfl (stO _ rfl (stO _ rfl (stO _ rfl (stO _ rfl (stO _ rfl (stO _ rfl (stO _ (Qai ..) ?_)))))))))))))))
    have:s.length = (pre ++ m).length := by rw [← hps]; simp
    refine stF (decF (by omega)) (stT rfl (stC rfl (stO _ (Qai ..) (stF (decF (by omega)) (stO _ (Qai ..) (stT (decT (by rw [Qad (by omega) (by omega)]; omega)) ?_))))))
    rw [fin 0]
    rfl
   | cons c s3 =>
    have hsl:s.length = (pre ++ m).length + (s3.length + 1) := by rw [← hps,List.length_append,List.length_cons]
    have hat2 := Qjw (i := ((pre ++ m).length:Int)) hps.symm rfl
    by_cases h41:c.toNat = 41
    ·have hc:c = 41 := Qds h41
     subst hc
     rw [if_pos (show (41 :: s3:Bs).head? = some 41 from rfl)]
     refine e1.mono fun n e k hk => ?_
     obtain ⟨k,rfl⟩ : ∃ m,k = m + 1 := ⟨k - 1,by omega⟩
     rw [QcI,Qad (x := lv + 1) (by omega) (by omega),Qad (x := (pre.length:Int) - 1 + 1) (by omega) (by omega),Int.sub_add_cancel]
     refine stO _ e (stO _ rfl (stO _ rfl (stO _ rfl (stO _ rfl (stO _ rfl (stC rfl (stO _ rfl (stO _ rfl (stO _ rfl (stO _ rfl (stO _ rfl (stO _ rfl (stO _ rfl (stO _ rfl (stO _ (Qai ..) ?_)))))))))))))))
     refine stF (decF (by omega)) (stT rfl (stC rfl (stO _ (Qai ..) (stT (decT (by omega)) (stO _ rfl (stO _ hat2 (stT rfl (stO _ (Qai ..) ?_))))))))
     rw [fin 0,Qad (by omega) (by omega),QhK]
     have:((pre ++ m).length:Int) + 1 = (s.length:Int) - ((41 :: s3:Bs).tail.length:Int) := by show _ = (s.length:Int) - (s3.length:Int); omega
     rw [this]
    ·have hc41:¬ (c :: s3).head? = some 41 := by
      intro e; apply h41; simp only [List.head?_cons,Option.some.injEq] at e; rw [e]; rfl
     rw [if_neg hc41]
     have hcut:(s.take (((pre ++ m).length:Int) + 2).toNat).drop ((pre ++ m).length:Int).toNat = (c :: s3).take 2 := by
      rw [show (((pre ++ m).length:Int) + 2).toNat = (pre ++ m).length + 2 by omega,Int.toNat_natCast, ← hps,List.take_length_add_append,List.drop_left]
     by_cases hnil:s3 = []
     ·subst hnil
      rw [if_neg (by simp)]
      refine e1.mono fun n e k hk => ?_
      obtain ⟨k,rfl⟩ : ∃ m,k = m + 1 := ⟨k - 1,by omega⟩
      rw [QcI,Qad (x := lv + 1) (by omega) (by omega),Qad (x := (pre.length:Int) - 1 + 1) (by omega) (by omega),Int.sub_add_cancel]
      refine stO _ e (stO _ rfl (stO _ rfl (stO _ rfl (stO _ rfl (stO _ rfl (stC rfl (stO _ rfl (stO _ rfl (stO _ rfl (stO _ rfl (stO _ rfl (stO _ rfl (stO _ rfl (stO _ rfl (stO _ (Qai ..) ?_)))))))))))))))
      refine stF (decF (by omega)) (stT rfl (stC rfl (stO _ (Qai ..) (stT (decT (by omega)) (stO _ rfl (stO _ hat2 (stF (beqF (by omega)) (stO _ (Qai ..) (stT (decT (by rw [Qad (by omega) (by omega)]; simp only [List.length_nil] at hsl; omega)) ?_)))))))))
      rw [fin 0]
      rfl
     ·have h3:1 ≤ s3.length := by cases s3; exact absurd rfl hnil; simp
      by_cases h44:(c :: s3).take 2 = [44,32]
      ·rw [if_pos h44]
       have e2 := QuU lb hs hlv hsuf kk ((pre.length:Int) - 1) hp t.length [(p t).1] ((c :: s3).drop 2) ((pre ++ m) ++ (c :: s3).take 2) (by simp) (by rw [List.append_assoc,List.take_append_drop]; exact hps) (by simp; simp at hs2; omega) (by simp; omega)
       refine Evt.imp2 e1 e2 fun n e g k hk => ?_
       obtain ⟨k,rfl⟩ : ∃ m,k = m + 1 := ⟨k - 1,by omega⟩
       rw [QcI,Qad (x := lv + 1) (by omega) (by omega),Qad (x := (pre.length:Int) - 1 + 1) (by omega) (by omega),Int.sub_add_cancel]
       refine stO _ e (stO _ rfl (stO _ rfl (stO _ rfl (stO _ rfl (stO _ rfl (stC rfl (stO _ rfl (stO _ rfl (stO _ rfl (stO _ rfl (stO _ rfl (stO _ rfl (stO _ rfl (stO _ rfl (stO _ (Qai ..) ?_)))))))))))))))
       refine stF (decF (by omega)) (stT rfl (stC rfl (stO _ (Qai ..) (stT (decT (by omega)) (stO _ rfl (stO _ hat2 (stF (beqF (by omega)) (stO _ (Qai ..) (stF (decF (by rw [Qad (by omega) (by omega)]; omega)) (stO _ (Qai ..) (stC (decT (by rw [Qad (by omega) (by omega)]; omega)) (stO _ rfl (stC (decT (by rw [Qad (by omega) (by omega)]; omega)) (stF (by rw [Qad (by omega) (by omega),hcut,h44]; rfl) (stO _ (Qai ..) ?_)))))))))))))))
       have g := g k (by omega)
       have el:(((pre ++ m) ++ (c :: s3).take 2).length:Int) = ((pre ++ m).length:Int) + 2 := by rw [List.length_append,h44]; simp
       rw [el,List.map_cons,List.map_nil,ee] at g
       rw [Qad (by omega) (by omega)]
       exact g
      ·rw [if_neg h44]
       refine e1.mono fun n e k hk => ?_
       obtain ⟨k,rfl⟩ : ∃ m,k = m + 1 := ⟨k - 1,by omega⟩
       rw [QcI,Qad (x := lv + 1) (by omega) (by omega),Qad (x := (pre.length:Int) - 1 + 1) (by omega) (by omega),Int.sub_add_cancel]
       refine stO _ e (stO _ rfl (stO _ rfl (stO _ rfl (stO _ rfl (stO _ rfl (stC rfl (stO _ rfl (stO _ rfl (stO _ rfl (stO _ rfl (stO _ rfl (stO _ rfl (stO _ rfl (stO _ rfl (stO _ (Qai ..) ?_)))))))))))))))
       refine stF (decF (by omega)) (stT rfl (stC rfl (stO _ (Qai ..) (stT (decT (by omega)) (stO _ rfl (stO _ hat2 (stF (beqF (by omega)) (stO _ (Qai ..) (stF (decF (by rw [Qad (by omega) (by omega)]; omega)) (stO _ (Qai ..) (stC (decT (by rw [Qad (by omega) (by omega)]; omega)) (stO _ rfl (stC (decT (by rw [Qad (by omega) (by omega)]; omega)) (stT (by rw [Qad (by omega) (by omega),hcut]; exact bneS h44) ?_))))))))))))))
       rw [fin 0]
       rfl
end
end Go.Proofs
set_option linter.unusedVariables false
set_option linter.unusedSimpArgs false
set_option maxRecDepth 100000
namespace Go.Proofs
open Go.Am
variable (lb:Nat)
theorem QqG (f:UInt8 → Bool) (t:Bs):(t.takeWhile f).length + (t.dropWhile f).length = t.length := by
 have := congrArg List.length (List.takeWhile_append_dropWhile (p := f) (l := t))
 rw [List.length_append] at this
 exact this
theorem Qy2 (s:Bs) (hs:s.length ≤ 800000) (lv:Int) (hlv:0 ≤ lv ∧ lv ≤ 100) (p:Bs → Cd × Option Bs) (hsuf:∀ t r,(p t).2 = some r → Suf r t) (hp:∀ t,Suf t s → Evt fun n => RdOk lb n s t (lv + 1) (p t)) (kk:Int) :
  ∀ (r q:Bs),q ++ r = s → Ret (lb + 1) Qb7 [.agg [.int .i64 kk, .list true [], .int .i64 0, .int .i64 0, .int .i64 0, .int .i64 0, .int .i64 0, .list true []], .str s, .int .i64 (q.length:Int), .int .i64 lv]
   (match r with
   | [] => .tup [cdv (mkI kk []), .int .i64 (-1)]
   | c :: r1 => if c.toNat = 40 then .tup [cdv (mkI kk (QbN p (r1.length + 1) [] r1).1), .int .i64 (endI s (QbN p (r1.length + 1) [] r1).2)] else .tup [cdv (mkI kk []), .int .i64 (-1)])
 | [],q,hq => by
  obtain rfl:q = s := by simpa using hq
  refine .top rfl (.all fun n => ?_)
  rw [QjG]
  exact stT (decT (by omega)) rfl
 | c :: r1,q,hq => by
  have hl:s.length = q.length + (r1.length + 1) := by rw [← hq,List.length_append,List.length_cons]
  have hat := Qjw (i := (q.length:Int)) hq.symm rfl
  dsimp only
  by_cases h40:c.toNat = 40
  ·rw [if_pos h40]
   have e := QwJ lb hs hlv hsuf kk hp r1 (q ++ [c]) (by rw [← hq]; simp) (by simp)
   have el:((q ++ [c]).length:Int) - 1 = (q.length:Int) := by rw [List.length_append,List.length_cons,List.length_nil]; omega
   rw [el] at e
   refine .top rfl (Evt.imp2 e (Evt.ge (r1.length + 2)) fun n a hn => ?_)
   rw [QjG]
   exact stF (decF (by omega)) (stO _ hat (stF (bneF (by omega)) (a n (by omega))))
  ·rw [if_neg h40]
   refine .top rfl (.all fun n => ?_)
   rw [QjG]
   exact stF (decF (by omega)) (stO _ hat (stT (bneT (by omega)) rfl))
theorem QAf (s:Bs) (hs:s.length ≤ 800000):∀ (d:Nat),d ≤ 9 → ∀ t,Suf t s → Evt fun n => RdOk lb n s t (9 - (d:Int)) (Qch d t) := by
 have one:∀ (t:Bs) (lv:Int) (v:Cd × Option Bs) (pre:Bs),pre ++ t = s → (Evt fun n => C (lb + 1) n Qan [.str s, .int .i64 (pre.length:Int), .int .i64 lv] = some (.tup [cdv v.1, .int .i64 (endI s v.2)])) → Evt fun n => RdOk lb n s t lv v := fun t lv v pre hpre h =>
  h.mono fun n hn pre' hp' => by
   have:pre' = pre := List.append_cancel_right (hp'.trans hpre.symm)
   rw [this]; exact hn
 have word:∀ (t pre:Bs),pre ++ t = s → (s.take ((pre.length:Int) + ((t.takeWhile low).length:Int)).toNat).drop (pre.length:Int).toNat = t.takeWhile low := fun t pre h => by
  rw [show ((pre.length:Int) + ((t.takeWhile low).length:Int)).toNat = pre.length + (t.takeWhile low).length by omega,Int.toNat_natCast]
  have e1:s = pre ++ (t.takeWhile low ++ t.dropWhile low) := by rw [List.takeWhile_append_dropWhile,h]
  rw [e1,List.take_length_add_append,List.drop_left]
  exact List.take_left
 intro d
 induction d with
 | zero =>
  intro hd t ht
  obtain ⟨pre,hpre⟩ := ht
  have hlen:s.length = pre.length + t.length := by rw [hpre,List.length_append]
  have hw := QqG low t
  refine one t _ _ pre hpre.symm ?_
  refine Ret.top rfl (Evt.imp2 (Qof (lb + 1) (t.takeWhile low)) (Evt.ge (s.length + 1)) fun n a hn => ?_)
  rw [QpE,QyE (lb + 1) s hs _ _ n t pre hpre.symm n (by omega),QlR]
  refine stC (decT (by omega)) (stC (decT (by omega)) ?_)
  rw [word t pre hpre.symm]
  exact stO _ a (stC rfl (stT (decT (by decide)) rfl))
 | succ d ih =>
  intro hd t ht
  obtain ⟨pre,hpre⟩ := ht
  have hlen:s.length = pre.length + t.length := by rw [hpre,List.length_append]
  have hw := QqG low t
  have hq:(pre ++ t.takeWhile low) ++ t.dropWhile low = s := by rw [List.append_assoc,List.takeWhile_append_dropWhile,hpre]
  have hql:((pre ++ t.takeWhile low).length:Int) = (pre.length:Int) + ((t.takeWhile low).length:Int) := by rw [List.length_append]; omega
  have elv:9 - ((d + 1:Nat):Int) + 1 = 9 - (d:Int) := by omega
  have ei := Qy2 lb s hs (9 - ((d + 1:Nat):Int)) (by omega) (Qch d) (Qqh d) (fun t' ht' => by rw [elv]; exact ih (by omega) t' ht') (QbR (t.takeWhile low)) (t.dropWhile low) (pre ++ t.takeWhile low) hq
  have ef := Qz6 lb (QbR (t.takeWhile low)) (Qb9 ((t.dropWhile low).length + 1) [] (t.dropWhile low)).1 (fun x hx => by
   have := Qqc ((t.dropWhile low).length + 1) [] (t.dropWhile low) 800000 (by simp) (by omega) x hx
   omega)
  have ek := Qof (lb + 1) (t.takeWhile low)
  have el := Qj8 (lb + 1) (QbR (t.takeWhile low))
  refine one t _ _ pre hpre.symm ?_
  refine Ret.top rfl ((ek.and (Evt.and el (Evt.and ei (Evt.and ef (Evt.ge (s.length + 2)))))).mono fun n ⟨a,b,c,e,hn⟩ => ?_)
  rw [QpE,QyE (lb + 1) s hs _ _ n t pre hpre.symm n (by omega),QlR]
  refine stC (decT (by omega)) (stC (decT (by omega)) ?_)
  rw [word t pre hpre.symm]
  refine stO _ a (stC rfl (stF (decF (by omega)) (stO _ (Qai ..) ?_)))
  rw [Qch]
  by_cases h0:QbR (t.takeWhile low) = 0
  ·rw [if_pos h0]
   exact stT (beqT h0) rfl
  rw [if_neg h0]
  refine stF (beqF h0) (stO _ b (stO _ rfl ?_))
  cases hl:isl (QbR (t.takeWhile low)) with
  | true =>
   rw [if_pos rfl, ← hql]
   refine stT rfl (stO _ c ?_)
   cases hr:t.dropWhile low with
   | nil => exact stO _ rfl (stO _ rfl (stO _ rfl (stO _ rfl (stO _ rfl (stC rfl (stO _ rfl (stO _ rfl (stO _ rfl (stO _ rfl (stO _ rfl (stO _ rfl (stO _ rfl (stO _ rfl rfl)))))))))))))
   | cons x r1 =>
    dsimp only
    by_cases h40:x.toNat = 40
    ·rw [if_pos h40,if_pos h40]
     exact stO _ rfl (stO _ rfl (stO _ rfl (stO _ rfl (stO _ rfl (stC rfl (stO _ rfl (stO _ rfl (stO _ rfl (stO _ rfl (stO _ rfl (stO _ rfl (stO _ rfl (stO _ rfl rfl)))))))))))))
    ·rw [if_neg h40,if_neg h40]
     exact stO _ rfl (stO _ rfl (stO _ rfl (stO _ rfl (stO _ rfl (stC rfl (stO _ rfl (stO _ rfl (stO _ rfl (stO _ rfl (stO _ rfl (stO _ rfl (stO _ rfl (stO _ rfl rfl)))))))))))))
  | false =>
   rw [if_neg (by simp), ← hql]
   refine stF rfl ((QtB (lb + 1) s hs _ _ _ _ n (by omega) ((t.dropWhile low).length + 1) (t.dropWhile low) (pre ++ t.takeWhile low) [] hq (by omega) (by simp; omega) n (by omega)).trans ?_)
   rw [QrR]
   refine stO _ e (stO _ rfl (stC rfl (stO _ rfl (stO _ rfl (stO _ rfl (stO _ rfl (stO _ rfl (stO _ rfl (stO _ rfl (stO _ rfl ?_))))))))))
   rfl
theorem QuW (s:Bs) (hs:s.length ≤ 800000):Ret (lb + 1) Qan [.str s, .int .i64 0, .int .i64 1] (.tup [cdv (Qch 8 s).1, .int .i64 (endI s (Qch 8 s).2)]) :=
 (QAf lb s hs 8 (by omega) s (Suf.refl s)).mono fun n h => h [] rfl
end Go.Proofs
set_option linter.unusedVariables false
set_option linter.unusedSimpArgs false
namespace Go.Proofs
open Go.Am
variable (lb:Nat)
mutual
def Sm (B L:Nat):Cd → Prop
 | .mk k ln l a b fr to days tn t => l.length ≤ B ∧ SmL B L l ∧ t.length ≤ B ∧ ∀ s ∈ t,s.length ≤ L
def SmL (B L:Nat):List Cd → Prop
 | [] => True
 | c :: r => Sm B L c ∧ SmL B L r
end
theorem Qxh {B L:Nat} : ∀ l:List Cd,SmL B L l ↔ ∀ x ∈ l,Sm B L x
 | [] => by simp [SmL]
 | c :: r => by rw [SmL,Qxh r]; simp
theorem QgV {B L:Nat} (c:Cd):Sm B L c ↔ c.l.length ≤ B ∧ (∀ x ∈ c.l,Sm B L x) ∧ c.t.length ≤ B ∧ ∀ s ∈ c.t,s.length ≤ L := by
 cases c with
 | mk k ln l a b fr to days tn t => rw [Sm,Qxh]; rfl
theorem QxH {B L B' L' : Nat} (hB:B ≤ B') (hL:L ≤ L'):∀ c:Cd,Sm B L c → Sm B' L' c := by
 refine Cd.ind fun c ih h => ?_
 obtain ⟨h1,h2,h3,h4⟩ := (QgV c).1 h
 exact (QgV c).2 ⟨by omega,fun x hx => ih x hx (h2 x hx),by omega,fun s hs => by have := h4 s hs; omega⟩
theorem QBy {B L:Nat} (hB:B ≤ 281474976710656) (hL:L ≤ 281474976710656):∀ c:Cd,Sm B L c → Fits c := by
 refine Cd.ind fun c ih h => ?_
 obtain ⟨h1,h2,h3,h4⟩ := (QgV c).1 h
 exact (Qju c).2 ⟨by omega,fun x hx => ih x hx (h2 x hx),by omega,fun s hs => by have := h4 s hs; omega⟩
theorem QCo:∀ c:Cd,Mod c → Sm 400 281474976710656 c := by
 refine Cd.ind fun c ih h => (QgV c).2 ⟨by have := QCV h; omega,fun x hx => ih x hx (QBS c h x hx),QCU h,(Qiz h.1).2⟩
abbrev Big (c:Cd):Prop := Sm 1000000 281474976710656 c
theorem QxA:∀ c:Cd,Big c → ∀ x ∈ c.l,Big x := fun c h => ((QgV c).1 h).2.1
theorem QCK {c:Cd} (h:Big c):c.l.length ≤ 1000000 := ((QgV c).1 h).1
theorem QCF {c:Cd} (h:Big c):c.t.length ≤ 1000000 := ((QgV c).1 h).2.2.1
theorem QAB {f:FuncId} {v:Cd → Cd → CV} (h:∀ a b,Big a → Big b → (Evt fun n => ∀ x ∈ a.l, ∀ y ∈ b.l,C lb n f [cdv x,cdv y] = some (v x y)) → Ret lb f [cdv a,cdv b] (v a b)):∀ a b,Big a → Big b → Ret lb f [cdv a,cdv b] (v a b) :=
 Cd.ind fun a ih b ha hb => h a b ha hb (Evt.fin _ fun x hx => Evt.fin _ fun y hy => ih x hx y (QxA a ha x hx) (QxA b hb y hy))
theorem Qvg:∀ a b:Cd,Big a → Big b → Ret lb QbS [cdv a,cdv b] (.bool (Qbe a b)) := by
 refine QAB lb fun a b ha hb hs => .top rfl (.eq (fun n => by rw [Qw8]) ?_)
 have la := QCK ha
 have ta := QCF ha
 have e1 := Qvt lb a.tn b.tn a.t b.t (by omega)
 rw [QpQ]
 by_cases h1' : a.k ≠ b.k
 ·exact .all fun n => stT (bneT h1') (by rw [beqF h1']; rfl)
 have h1 := Classical.byContradiction h1'
 rw [beqT h1]
 by_cases h2' : a.a ≠ b.a
 ·exact .all fun n => stF (bneF h1) (stT (bneT h2') (by rw [beqF h2']; rfl))
 have h2 := Classical.byContradiction h2'
 rw [beqT h2]
 by_cases h3' : a.b ≠ b.b
 ·exact .all fun n => stF (bneF h1) (stF (bneF h2) (stT (bneT h3') (by rw [beqF h3']; rfl)))
 have h3 := Classical.byContradiction h3'
 rw [beqT h3]
 cases h4:((a.fr == b.fr) && ((a.to == b.to) && ((a.days == b.days) && true))) with
 | false => exact .all fun n => stF (bneF h1) (stF (bneF h2) (stF (bneF h3) (stT rfl rfl)))
 | true =>
  by_cases h5' : a.l.length ≠ b.l.length
  ·have:Qa1 a.l b.l = false := eq_false_of_ne_true fun e => h5' (Qmy e)
   rw [this,Bool.and_false]
   exact .all fun n => stF (bneF h1) (stF (bneF h2) (stF (bneF h3) (stF rfl (stT (bneT (by rw [List.length_map,List.length_map]; omega)) rfl))))
  have h5 := Classical.byContradiction h5'
  by_cases h6:a.t = b.t
  ·rw [decT h6] at e1 ⊢
   have hh:∀ n,(∀ x ∈ a.l, ∀ y ∈ b.l,C lb n QbS [cdv x,cdv y] = some (.bool (Qbe x y))) → ∀ t u p q,p ++ t = a.l → q ++ u = b.l → p.length = q.length → ∀ k,t.length < k → QhZ lb n k a.k a.ln (a.l.map ccv) a.a a.b a.fr a.to a.days a.tn (scv a.t) b.k b.ln (b.l.map ccv) b.a b.b b.fr b.to b.days b.tn (scv b.t) (p.length:Int) = some (.bool (Qa1 t u)) := by
    intro n hs t
    induction t with
    | nil =>
     intro u p q hp hq hpq k hk
     obtain ⟨k,rfl⟩ : ∃ j,k = j + 1 := ⟨k - 1,by simp at hk; omega⟩
     have hpl:p = a.l := by simpa using hp
     have hu:u = [] := by
      have:b.l.length = q.length + u.length := by rw [← hq]; simp
      rw [hpl] at hpq
      exact List.length_eq_zero_iff.1 (by omega)
     subst hu
     rw [QjY]
     refine stF (decF (by rw [hpl,List.length_map]; omega)) ?_
     rw [Qsr,Qa1]
     rfl
    | cons x t ih =>
     intro u p q hp hq hpq k hk
     obtain ⟨k,rfl⟩ : ∃ j,k = j + 1 := ⟨k - 1,by simp at hk; omega⟩
     have hpl:a.l.length = p.length + (t.length + 1) := by rw [← hp]; simp
     have hql:b.l.length = q.length + u.length := by rw [← hq]; simp
     cases u with
     | nil => simp at hql; omega
     | cons y u =>
      have hat := QfB (l := a.l) (i := p.length) (x := x) (by rw [← hp]; simp)
      have hbt := QfB (l := b.l) (i := p.length) (x := y) (by rw [← hq,hpq]; simp)
      rw [QjY]
      refine stT (decT (by rw [List.length_map]; omega)) (stO _ hat (stC rfl (stO _ rfl (stO _ rfl (stO _ rfl (stO _ rfl (stO _ rfl (stO _ rfl (stO _ rfl (stO _ rfl (stO _ hbt (stC rfl (stO _ rfl (stO _ rfl (stO _ rfl (stO _ rfl (stO _ rfl (stO _ rfl (stO _ rfl (stO _ rfl (stO _ (hs x (by rw [← hp]; simp) y (by rw [← hq]; simp)) (stO _ rfl ?_))))))))))))))))))))))
      rw [Qa1]
      cases hxy:Qbe x y with
      | false => exact stT rfl rfl
      | true =>
       refine stF rfl ?_
       rw [Qad (by omega) (by omega),show (p.length:Int) + 1 = ((p ++ [x]).length:Int) by simp]
       exact ih u (p ++ [x]) (q ++ [y]) (by rw [← hp]; simp) (by rw [← hq]; simp) (by simp [hpq]) k (by simp at hk; omega)
   exact Evt.imp2 e1 (Evt.and hs (Evt.ge (a.l.length + 1))) fun n x ⟨y,hn⟩ => stF (bneF h1) (stF (bneF h2) (stF (bneF h3) (stF rfl (stF (bneF (by rw [List.length_map,List.length_map]; omega)) (stO _ x (stO _ rfl (stF rfl (hh n y a.l b.l [] [] rfl rfl rfl n (by omega)))))))))
  ·rw [decF h6] at e1 ⊢
   exact e1.mono fun n x => stF (bneF h1) (stF (bneF h2) (stF (bneF h3) (stF rfl (stF (bneF (by rw [List.length_map,List.length_map]; omega)) (stO _ x (stO _ rfl (stT rfl rfl)))))))
theorem QeA {a b:Cd} : Qbe a b = true ↔ a.k = b.k ∧ a.a = b.a ∧ a.b = b.b ∧ a.fr = b.fr ∧ a.to = b.to ∧ a.days = b.days ∧ a.t = b.t ∧ Qa1 a.l b.l = true := by
 rw [QpQ]
 simp only [Bool.and_eq_true,beq_iff_eq,decide_eq_true_eq,Bool.and_true]
 constructor
 ·rintro ⟨h1,h2,h3,⟨h4,h5,h6⟩,h7,h8⟩; exact ⟨h1,h2,h3,h4,h5,h6,h7,h8⟩
 ·rintro ⟨h1,h2,h3,h4,h5,h6,h7,h8⟩; exact ⟨h1,h2,h3,⟨h4,h5,h6⟩,h7,h8⟩
theorem Qd3 (x y:Cd) (l r:List Cd):Qa1 (x :: l) (y :: r) = (Qbe x y && Qa1 l r) := by rw [Qa1]
theorem Qtc {β : Type} {f:Cd → β} : ∀ {l r:List Cd},Qa1 l r = true → (∀ x ∈ l, ∀ y,Qbe x y = true → f x = f y) → l.map f = r.map f
 | [],[],_,_ => rfl
 | [],y :: r,h,_ => by rw [Qa1] at h; cases h
 | x :: l,[],h,_ => by rw [Qa1] at h; cases h
 | x :: l,y :: r,h,g => by
  rw [Qd3,Bool.and_eq_true] at h
  rw [List.map_cons,List.map_cons,g x (by simp) y h.1,Qtc h.2 fun z hz => g z (by simp [hz])]
theorem QzY {a b:Cd} (h:Qbe a b = true):a.args = b.args := by
 obtain ⟨h1,h2,h3,h4,h5,h6,h7,_⟩ := QeA.1 h
 unfold Cd.args
 rw [h1,h2,h3,h4,h5,h6,h7]
theorem QBL:∀ a b:Cd,Qbe a b = true → wrC a = wrC b := by
 refine Cd.ind fun a ih b h => ?_
 obtain ⟨h1,_,_,_,_,_,_,h8⟩ := QeA.1 h
 rw [Qcp a,Qcp b,h1,QzY h,Qtc h8 ih]
theorem Qyj {a b:Cd} (h:Qbe a b = true):Qc0 a = Qc0 b := by
 obtain ⟨h1,h2,h3,h4,h5,h6,h7,h8⟩ := QeA.1 h
 have hl := Qmy h8
 unfold Qc0 Qa2 QbE Qcn perN
 rw [h1,h2,h3,h4,h5,h6,h7,hl]
theorem QqR:∀ {l r:List Cd},Qa1 l r = true → (∀ x ∈ l, ∀ y,Qbe x y = true → parE x = parE y) → Qew l = Qew r
 | [],[],_,_ => rfl
 | [],y :: r,h,_ => by rw [Qa1] at h; cases h
 | x :: l,[],h,_ => by rw [Qa1] at h; cases h
 | x :: l,y :: r,h,g => by
  rw [Qd3,Bool.and_eq_true] at h
  rw [Qew,Qew,g x (by simp) y h.1,QqR h.2 fun z hz => g z (by simp [hz])]
theorem QzI:∀ a b:Cd,Qbe a b = true → parE a = parE b := by
 refine Cd.ind fun a ih b h => ?_
 obtain ⟨_,_,_,_,_,_,_,h8⟩ := QeA.1 h
 rw [QlG a,QlG b,Qyj h,QqR h8 ih]
theorem QsV:∀ {l r:List Cd} (n:Int),Qa1 l r = true → (∀ x ∈ l, ∀ y,Qbe x y = true → levC x = levC y) → levs n l = levs n r
 | [],[],_,_,_ => rfl
 | [],y :: r,_,h,_ => by rw [Qa1] at h; cases h
 | x :: l,[],_,h,_ => by rw [Qa1] at h; cases h
 | x :: l,y :: r,n,h,g => by
  rw [Qd3,Bool.and_eq_true] at h
  rw [levs,levs,g x (by simp) y h.1,QsV _ h.2 fun z hz => g z (by simp [hz])]
theorem QAF:∀ a b:Cd,Qbe a b = true → levC a = levC b := by
 refine Cd.ind fun a ih b h => ?_
 obtain ⟨_,_,_,_,_,_,_,h8⟩ := QeA.1 h
 rw [QlY a,QlY b,QsV 0 h8 ih]
theorem QtD:∀ {l r:List Cd} (n:Int),Qa1 l r = true → (∀ x ∈ l, ∀ y,Qbe x y = true → sizC x = sizC y) → sizs n l = sizs n r
 | [],[],_,_,_ => rfl
 | [],y :: r,_,h,_ => by rw [Qa1] at h; cases h
 | x :: l,[],_,h,_ => by rw [Qa1] at h; cases h
 | x :: l,y :: r,n,h,g => by
  rw [Qd3,Bool.and_eq_true] at h
  rw [sizs,sizs,g x (by simp) y h.1,QtD _ h.2 fun z hz => g z (by simp [hz])]
theorem QAu:∀ a b:Cd,Qbe a b = true → sizC a = sizC b := by
 refine Cd.ind fun a ih b h => ?_
 obtain ⟨_,_,_,_,_,_,_,h8⟩ := QeA.1 h
 rw [Qjx a,Qjx b,QtD 1 h8 ih]
theorem QyF {a b:Cd} (h:Qbe a b = true):QcT a = QcT b := by
 unfold QcT
 rw [QAF a b h,QAu a b h,QzI a b h]
theorem QAe {k:Int} {s:Bs} (h:Qfw k s = true):s.length ≤ 3 := by
 unfold Qfw at h
 split at h
 ·unfold QcX QfD at h
  simp only [Bool.and_eq_true,decide_eq_true_eq] at h
  have := h.1.2.1
  omega
 split at h
 ·unfold QcW at h
  simp only [Bool.and_eq_true,decide_eq_true_eq] at h
  omega
 ·unfold paxB QfD at h
  simp only [Bool.and_eq_true,decide_eq_true_eq] at h
  have := h.2.1
  omega
theorem Qxf {s:Bs} {m:Nat} : ∀ {l:List Bs},(∀ x ∈ l,x.length ≤ m) → (Lib.join l s).length ≤ (m + s.length) * l.length
 | [],_ => by simp [Lib.join_nil]
 | [x],h => by rw [Lib.join_one]; have := h x (by simp); simp; omega
 | x :: y :: r,h => by
  rw [QfF]
  have h1 := h x (by simp)
  have h2 := Qxf (s := s) (l := y :: r) fun z hz => h z (by simp at hz ⊢; right; exact hz)
  simp only [List.length_append,List.length_cons] at h2 ⊢
  rw [Nat.mul_add,Nat.mul_one]
  rw [Nat.mul_add,Nat.mul_one] at h2
  rw [Nat.mul_add,Nat.mul_one]
  omega
end Go.Proofs
set_option linter.unusedVariables false
set_option linter.unusedSimpArgs false
set_option maxRecDepth 100000
namespace Go.Proofs
open Go.Am
theorem Qvx {ok:Bs → Bool} : ∀ (l p:List Bs),Qcv ok p l = 0 → ∀ s ∈ l,ok s = true
 | [],p,_,s,hs => by cases hs
 | x :: r,p,h,s,hs => by
  rw [Qcv] at h
  split at h
  ·cases h
  ·rename_i q
   split at h
   ·cases h
   ·rcases List.mem_cons.1 hs with rfl | hs
    ·simpa using q
    ·exact Qvx r _ h s hs
theorem QlN {k:Int} (h:isc k = true):isp k = false := by
 unfold isc at h; unfold isp
 rw [Bool.or_eq_true,Bool.or_eq_true] at h
 simp only [beq_iff_eq] at h
 rw [Bool.or_eq_false_iff]
 simp only [beq_eq_false_iff_ne]
 omega
theorem Qtm {c:Cd} (h:parE c = 0) (hk:isc c.k = true):c.t ≠ [] ∧ ∀ s ∈ c.t,Qfw c.k s = true := by
 have h1 := (QcC h).1
 unfold Qc0 at h1
 split at h1
 ·cases h1
 split at h1
 ·cases h1
 split at h1
 ·cases h1
 rw [QlN hk,if_neg (by simp)] at h1
 unfold Qcn at h1
 split at h1
 ·cases h1
 ·rename_i q; exact ⟨q,Qvx _ _ h1⟩
theorem Qxv {c:Cd} (h:parE c = 0) (hk:isp c.k = true):perE c.fr c.to c.days = 0 := by
 have h1 := (QcC h).1
 unfold Qc0 at h1
 split at h1
 ·cases h1
 split at h1
 ·cases h1
 split at h1
 ·cases h1
 exact h1
theorem Qkn {c:Cd} (h:parE c = 0):(isl c.k = false → c.l = []) ∧ (isc c.k = false → c.t = []) ∧ (isp c.k = false → c.fr = 0 ∧ c.to = 0 ∧ c.days = 0) ∧ (nums c.k < 1 → c.a = 0) ∧ (nums c.k < 2 → c.b = 0) := by
 obtain ⟨_,_,h1,_⟩ := QdY (QcC h).1
 unfold Qa2 Qbl perN at h1
 simp only [Bool.or_eq_false_iff,Bool.and_eq_false_imp,Bool.not_eq_true',decide_eq_false_iff_not,decide_eq_true_eq,bne_eq_false_iff_eq,Bool.not_eq_false',Bool.and_eq_true,beq_iff_eq,Bool.and_true] at h1
 obtain ⟨z1,z2,z3,z4,z5⟩ := h1
 refine ⟨fun q => List.length_eq_zero_iff.1 (by have := z1 q; omega),fun q => List.length_eq_zero_iff.1 (by have := z2 q; omega),fun q => ?_,z4,z5⟩
 have := z3 q
 simpa using this
theorem QdX {c:Cd} (h:parE c = 0) (hn:nums c.k > 0):0 ≤ c.a ∧ c.a ≤ 36524 ∧ (nums c.k > 1 → 0 ≤ c.b ∧ c.b ≤ 9999) ∧ (c.k = 8 → c.a < 1440 ∧ c.b < 1440) := by
 obtain ⟨k1,k2,_,h1⟩ := QdY (QcC h).1
 unfold QbE at h1
 unfold nums at hn ⊢
 split at h1
 ·rename_i q; rw [if_neg (by omega),if_neg (by omega)] at hn; omega
 split at h1
 ·rename_i q; rw [if_neg (by omega),if_neg (by omega)] at hn; omega
 split at h1
 ·rename_i q
  simp only [decide_eq_false_iff_not] at h1
  rw [if_neg (by omega),if_pos (by omega)]
  exact ⟨by omega,by omega,fun e => by omega,fun e => by omega⟩
 split at h1
 ·rename_i q
  simp only [decide_eq_false_iff_not] at h1
  exact ⟨by omega,by omega,fun e => ⟨by omega,by omega⟩,fun e => ⟨by omega,by omega⟩⟩
 split at h1
 ·rename_i q
  simp only [decide_eq_false_iff_not] at h1
  rw [if_neg (by omega),if_pos (by omega)]
  exact ⟨by omega,by omega,fun e => by omega,fun e => by omega⟩
 split at h1
 ·rename_i q
  simp only [decide_eq_false_iff_not] at h1
  exact ⟨by omega,by omega,fun e => ⟨by omega,by omega⟩,fun e => by omega⟩
 ·rw [if_neg (by omega),if_neg (by omega)] at hn; omega
theorem Qhz {c:Cd} (h:isp c.k = true):c.args = [perS c.fr c.to c.days] := by show Qc6 .. = _; unfold Qc6; rw [if_pos h]
theorem Qkd {c:Cd} (h:isc c.k = true):c.args = c.t := by show Qc6 .. = _; unfold Qc6; rw [QlN h,if_neg (by simp),if_pos h]
theorem Qlu {c:Cd} (h:c.k = 8):c.args = [clkS c.a,clkS c.b] := by show Qc6 .. = _; unfold Qc6; rw [h,if_neg (by decide),if_neg (by decide),if_pos rfl]
theorem QeO {c:Cd} (h1:isp c.k = false) (h2:isc c.k = false) (h3:c.k ≠ 8):c.args = if nums c.k > 1 then [Lib.itoa c.a,Lib.itoa c.b] else if nums c.k > 0 then [Lib.itoa c.a] else [] := by
 show Qc6 .. = _; unfold Qc6; rw [h1,h2,if_neg (by simp),if_neg (by simp),if_neg h3]
def okb (c:UInt8):Bool := !(decide (c.toNat = 32) || (decide (c.toNat = 40) || (decide (c.toNat = 41) || decide (c.toNat = 44))))
theorem Qzd {c:UInt8} (h:isDg c = true):okb c = true := by
 unfold isDg at h; unfold okb
 simp only [Bool.and_eq_true,decide_eq_true_eq] at h
 simp only [Bool.not_eq_true',Bool.or_eq_false_iff,decide_eq_false_iff_not]
 omega
theorem Qzc {c:UInt8} (h:isUp c = true):okb c = true := by
 unfold isUp at h; unfold okb
 simp only [Bool.and_eq_true,decide_eq_true_eq] at h
 simp only [Bool.not_eq_true',Bool.or_eq_false_iff,decide_eq_false_iff_not]
 omega
theorem Qzy {c:UInt8} (h:isCd c = true):okb c = true := by
 unfold isCd at h
 rw [Bool.or_eq_true] at h
 exact h.elim Qzc Qzd
theorem QhO {f g:UInt8 → Bool} (h:∀ c,f c = true → g c = true) {s:Bs} (hs:s.all f = true):s.all g = true := by
 rw [List.all_eq_true] at hs ⊢
 exact fun c hc => h c (hs c hc)
theorem QBZ:∀ k:Fin 15,(kwd (k.val:Int)).all okb = true := by decide
theorem QAi:∀ k:Fin 15,(kwd (k.val:Int)).all low = true := by decide
theorem QCi {k:Int} (h0:1 ≤ k) (h1:k ≤ 14):(kwd k).all okb = true := by
 have := QBZ ⟨k.toNat,by omega⟩
 have e:((k.toNat:Nat):Int) = k := by omega
 simpa [e] using this
theorem QBr {k:Int} (h0:1 ≤ k) (h1:k ≤ 14):(kwd k).all low = true := by
 have := QAi ⟨k.toNat,by omega⟩
 have e:((k.toNat:Nat):Int) = k := by omega
 simpa [e] using this
theorem Qzq:∀ z:Fin 100,(twoS (z.val:Int)).all okb = true := by decide +kernel
theorem QBA:∀ z:Fin 100,(twoS (IntKind.wrap .i64 (Int.tdiv (2000 + (z.val:Int)) 100)) ++ twoS (Int.tmod (2000 + (z.val:Int)) 100)).all okb = true := by decide +kernel
theorem QCk:∀ d:Fin 128,(dayS d.val 7).all okb = true := by decide +kernel
theorem QCs:∀ m:Fin 1440,(clkS (m.val:Int)).all okb = true := by decide +kernel
theorem Qsj {z:Int} (h:0 ≤ z):(Lib.itoa z).all okb = true := by
 unfold Lib.itoa
 rw [if_neg (by omega)]
 exact QhO (fun c => Qzd) (Ql3 _).1.2.1
theorem QBt {k:Int} {s:Bs} (h:Qfw k s = true):s.all okb = true := by
 unfold Qfw at h
 split at h
 ·unfold QcX QfD at h
  simp only [Bool.and_eq_true] at h
  exact QhO (fun c => Qzy) h.1.2.2
 split at h
 ·unfold QcW at h
  simp only [Bool.and_eq_true] at h
  exact QhO (fun c => Qzc) h.2
 ·unfold paxB QfD at h
  simp only [Bool.and_eq_true] at h
  exact QhO (fun c => Qzy) h.2.2
theorem Qwt {D:Int} (h0:0 ≤ D) (hD:D < 36525):(QbO D).all okb = true := by
 have hr := Qe1 h0 hD
 obtain ⟨y,hy⟩ : ∃ k:Nat,(Qa0 D).1 = 2000 + (k:Int) := ⟨((Qa0 D).1 - 2000).toNat,by omega⟩
 obtain ⟨m,hm⟩ : ∃ k:Nat,(Qa0 D).2.1 = k := ⟨((Qa0 D).2.1).toNat,by omega⟩
 obtain ⟨d,hd⟩ : ∃ k:Nat,(Qa0 D).2.2 = k := ⟨((Qa0 D).2.2).toNat,by omega⟩
 have h1 := QBA ⟨y,by omega⟩
 have h2 := Qzq ⟨m,by omega⟩
 have h3 := Qzq ⟨d,by omega⟩
 simp only at h1 h2 h3
 unfold QbO
 rw [hy,hm,hd]
 simp only [List.all_append,Bool.and_eq_true] at h1 ⊢
 exact ⟨⟨⟨⟨h1,by decide⟩,h2⟩,by decide⟩,h3⟩
theorem QB4 {fr to days:Int} (h:perE fr to days = 0):(perS fr to days).all okb = true := by
 obtain ⟨b1,b2,b3,b4,b5⟩ := QoF h
 obtain ⟨d,rfl⟩ : ∃ d:Nat,days = d := ⟨days.toNat,by omega⟩
 unfold perS
 rw [if_neg (fun e => e h),Int.toNat_natCast]
 simp only [List.all_append,Bool.and_eq_true]
 exact ⟨⟨⟨⟨Qwt (by omega) (by omega),by decide⟩,Qwt (by omega) (by omega)⟩,by decide⟩,QCk ⟨d,by omega⟩⟩
theorem Qxr {m:Int} (h0:0 ≤ m) (h1:m < 1440):(clkS m).all okb = true := by
 have := QCs ⟨m.toNat,by omega⟩
 have e:((m.toNat:Nat):Int) = m := by omega
 simpa [e] using this
theorem Qxy {c:Cd} (h:parE c = 0):∀ w ∈ c.args,w.all okb = true := by
 intro w hw
 cases hp:isp c.k with
 | true =>
  rw [Qhz hp] at hw
  simp only [List.mem_singleton] at hw
  subst hw
  exact QB4 (Qxv h hp)
 | false =>
  cases hc:isc c.k with
  | true =>
   rw [Qkd hc] at hw
   exact QBt ((Qtm h hc).2 w hw)
  | false =>
   by_cases h8:c.k = 8
   ·obtain ⟨a0,_,b0,a1⟩ := QdX h (by rw [h8]; decide)
    have b0 := b0 (by rw [h8]; decide)
    have a1 := a1 h8
    rw [Qlu h8] at hw
    simp only [List.mem_cons,List.not_mem_nil,or_false] at hw
    rcases hw with rfl | rfl
    ·exact Qxr (by omega) (by omega)
    ·exact Qxr (by omega) (by omega)
   ·rw [QeO hp hc h8] at hw
    split at hw
    ·rename_i hn
     obtain ⟨a0,_,b0,_⟩ := QdX h (by omega)
     have b0 := b0 hn
     simp only [List.mem_cons,List.not_mem_nil,or_false] at hw
     rcases hw with rfl | rfl
     ·exact Qsj a0
     ·exact Qsj b0.1
    split at hw
    ·rename_i _ hn
     obtain ⟨a0,_,_,_⟩ := QdX h hn
     simp only [List.mem_singleton] at hw
     subst hw
     exact Qsj a0
    ·cases hw
theorem QrH {c:Cd} (h:parE c = 0) (hk:isp c.k = true):perT (perS c.fr c.to c.days) = ((c.fr,c.to,c.days),0) := by
 unfold perT
 rw [QzT (Qxv h hk)]
theorem Qjf {m:Int} (h0:0 ≤ m) (h1:m < 1440):minF (clkS m) = (m,0) := by
 have := Qy5 ⟨m.toNat,by omega⟩
 have e:((m.toNat:Nat):Int) = m := by omega
 simpa [e] using this
theorem Qdr {c:Cd} {k a b fr to days:Int} {tn:Bool} {t:List Bs} (hl:c.l = []) (h1:k = c.k) (h2:a = c.a) (h3:b = c.b) (h4:fr = c.fr) (h5:to = c.to) (h6:days = c.days) (h7:t = c.t):Qbe (mkL k a b fr to days tn t) c = true :=
 QeA.2 ⟨h1,h2,h3,h4,h5,h6,h7,by show Qa1 [] c.l = true; rw [hl,Qa1]; rfl⟩
theorem QzR {k:Int} (h:nums k > 1) (h8:k ≠ 8):k = 12 := by
 unfold nums at h
 split at h
 ·omega
 ·split at h <;> omega
theorem Qhi (k:Int):nums k = 0 ∨ nums k = 1 ∨ nums k = 2 := by
 unfold nums
 split
 ·exact .inr (.inr rfl)
 split
 ·exact .inr (.inl rfl)
 ·exact .inl rfl
theorem Qw7 {c:Cd} (h:parE c = 0) (hl:isl c.k = false):∃ x,Qc9 c.k c.args = some x ∧ Qbe x c = true := by
 obtain ⟨z1,z2,z3,z4,z5⟩ := Qkn h
 have z1 := z1 hl
 cases hc:isc c.k with
 | true =>
  have hn:nums c.k < 1 := by
   unfold isc at hc
   rw [Bool.or_eq_true,Bool.or_eq_true] at hc
   simp only [beq_iff_eq] at hc
   unfold nums
   rw [if_neg (by omega),if_neg (by omega)]
   omega
  have z3 := z3 (QlN hc)
  refine ⟨_,Qov hc,Qdr z1 rfl (z4 hn).symm (z5 (by omega)).symm z3.1.symm z3.2.1.symm z3.2.2.symm (Qkd hc)⟩
 | false =>
  have z2 := z2 hc
  cases hp:isp c.k with
  | true =>
   have hn:nums c.k < 1 := by
    unfold isp at hp
    rw [Bool.or_eq_true] at hp
    simp only [beq_iff_eq] at hp
    unfold nums
    rw [if_neg (by omega),if_neg (by omega)]
    omega
   have e := QrH h hp
   refine ⟨mkL c.k 0 0 c.fr c.to c.days true [], ?_,Qdr z1 rfl (z4 hn).symm (z5 (by omega)).symm rfl rfl rfl z2.symm⟩
   rw [Qsz hc hp,Qhz hp]
   dsimp only
   rw [e,if_pos rfl]
  | false =>
   obtain ⟨y1,y2,y3⟩ := z3 hp
   by_cases h8:c.k = 8
   ·obtain ⟨a0,_,b0,a1⟩ := QdX h (by rw [h8]; decide)
    have b0 := b0 (by rw [h8]; decide)
    have a1 := a1 h8
    refine ⟨mkL 8 c.a c.b 0 0 0 true [], ?_,Qdr z1 h8.symm rfl rfl y1.symm y2.symm y3.symm z2.symm⟩
    rw [Qlu h8,h8,Qxe]
    dsimp only
    rw [Qjf (by omega) (by omega),Qjf (by omega) (by omega),if_pos ⟨rfl,rfl⟩]
   ·by_cases hn:nums c.k > 1
    ·have h12 := QzR hn h8
     obtain ⟨a0,a1,b0,_⟩ := QdX h (by omega)
     have b0 := b0 hn
     refine ⟨mkL 12 c.a c.b 0 0 0 true [], ?_,Qdr z1 h12.symm rfl rfl y1.symm y2.symm y3.symm z2.symm⟩
     rw [QeO hp hc h8,if_pos hn,h12,QuK]
     dsimp only
     rw [QgG c.a (by omega) (by omega),QgG c.b (by omega) (by omega),if_pos ⟨rfl,rfl⟩]
    ·have zb := z5 (by rcases Qhi c.k with q | q | q <;> omega)
     by_cases hn1:nums c.k > 0
     ·obtain ⟨a0,a1,_,_⟩ := QdX h hn1
      refine ⟨mkL c.k c.a 0 0 0 0 true [], ?_,Qdr z1 rfl rfl zb.symm y1.symm y2.symm y3.symm z2.symm⟩
      rw [QeO hp hc h8,if_neg hn,if_pos hn1,QoB hc hp h8 (by rcases Qhi c.k with q | q | q <;> omega)]
      dsimp only
      rw [QgG c.a (by omega) (by omega),if_pos rfl]
     ·have za := z4 (by rcases Qhi c.k with q | q | q <;> omega)
      refine ⟨mkL c.k 0 0 0 0 0 true [], ?_,Qdr z1 rfl za.symm zb.symm y1.symm y2.symm y3.symm z2.symm⟩
      unfold Qc9
      rw [hc,hp,if_neg (by simp),if_neg (by simp),if_neg h8,if_neg hn,if_neg hn1]
theorem QwY {c:Cd} (h:parE c = 0) (hl:isl c.k = false):Qbe (QhW c.k c.args) c = true := by
 obtain ⟨z1,z2,z3,z4,z5⟩ := Qkn h
 have z1 := z1 hl
 unfold QhW
 cases hc:isc c.k with
 | true =>
  have hn:nums c.k < 1 := by
   unfold isc at hc
   rw [Bool.or_eq_true,Bool.or_eq_true] at hc
   simp only [beq_iff_eq] at hc
   unfold nums
   rw [if_neg (by omega),if_neg (by omega)]
   omega
  have k8:c.k ≠ 8 := by intro e; rw [e] at hc; cases hc
  have wz:c.k ≠ 12 := by intro e; rw [e] at hc; cases hc
  have z3 := z3 (QlN hc)
  have hb:QeB c.k c.args 0 = 0 := by
   unfold QeB
   split
   ·rw [if_neg wz]
   ·rfl
  have hn0:¬ nums c.k > 0 := by omega
  simp only [if_neg k8,if_neg hn0,hb,QlN hc,Bool.false_eq_true,if_false,if_true]
  exact Qdr z1 rfl (z4 hn).symm (z5 (by omega)).symm z3.1.symm z3.2.1.symm z3.2.2.symm (Qkd hc)
 | false =>
  have z2 := z2 hc
  simp only [Bool.false_eq_true,if_false]
  cases hp:isp c.k with
  | true =>
   have hn:nums c.k < 1 := by
    unfold isp at hp
    rw [Bool.or_eq_true] at hp
    simp only [beq_iff_eq] at hp
    unfold nums
    rw [if_neg (by omega),if_neg (by omega)]
    omega
   have k8:c.k ≠ 8 := by intro e; rw [e] at hp; cases hp
   have e := QrH h hp
   have ep:perA c.args = (c.fr,c.to,c.days) := by rw [Qhz hp]; show (perT _).1 = _; rw [e]
   have hb:QeB c.k c.args 0 = 0 := by rw [Qhz hp]; rfl
   have hn0:¬ nums c.k > 0 := by omega
   simp only [if_neg k8,if_neg hn0,hb,ep,if_true]
   exact Qdr z1 rfl (z4 hn).symm (z5 (by omega)).symm rfl rfl rfl z2.symm
  | false =>
   obtain ⟨y1,y2,y3⟩ := z3 hp
   simp only [Bool.false_eq_true,if_false]
   by_cases h8:c.k = 8
   ·obtain ⟨a0,_,b0,a1⟩ := QdX h (by rw [h8]; decide)
    have b0 := b0 (by rw [h8]; decide)
    have a1 := a1 h8
    have e1:min1 c.args = c.a := by rw [Qlu h8]; show (minF _).1 = _; rw [Qjf (by omega) (by omega)]
    have e2:min2 c.args = c.b := by rw [Qlu h8]; show (minF _).1 = _; rw [Qjf (by omega) (by omega)]
    rw [if_pos h8,if_pos h8,e1,e2]
    exact Qdr z1 rfl rfl rfl y1.symm y2.symm y3.symm z2.symm
   ·rw [if_neg h8,if_neg h8]
    by_cases hn:nums c.k > 1
    ·have h12 := QzR hn h8
     obtain ⟨a0,a1,b0,_⟩ := QdX h (by omega)
     have b0 := b0 hn
     have e1:fstA c.args 0 = c.a := by rw [QeO hp hc h8,if_pos hn]; show (numB _).1 = _; rw [QgG c.a (by omega) (by omega)]
     have e2:QeB c.k c.args 0 = c.b := by rw [QeO hp hc h8,if_pos hn]; show (if c.k = 12 then (numB _).1 else _) = _; rw [if_pos h12,QgG c.b (by omega) (by omega)]
     rw [if_pos (show nums c.k > 0 by omega),e1,e2]
     exact Qdr z1 rfl rfl rfl y1.symm y2.symm y3.symm z2.symm
    ·have zb := z5 (by rcases Qhi c.k with q | q | q <;> omega)
     by_cases hn1:nums c.k > 0
     ·obtain ⟨a0,a1,_,_⟩ := QdX h hn1
      have e1:fstA c.args 0 = c.a := by rw [QeO hp hc h8,if_neg hn,if_pos hn1]; show (numB _).1 = _; rw [QgG c.a (by omega) (by omega)]
      have e2:QeB c.k c.args 0 = 0 := by rw [QeO hp hc h8,if_neg hn,if_pos hn1]; rfl
      rw [if_pos hn1,e1,e2]
      exact Qdr z1 rfl rfl zb.symm y1.symm y2.symm y3.symm z2.symm
     ·have za := z4 (by rcases Qhi c.k with q | q | q <;> omega)
      have e2:QeB c.k c.args 0 = 0 := by rw [QeO hp hc h8,if_neg hn,if_neg hn1]; rfl
      rw [if_neg hn1,e2]
      exact Qdr z1 rfl za.symm zb.symm y1.symm y2.symm y3.symm z2.symm
end Go.Proofs
set_option linter.unusedVariables false
set_option linter.unusedSimpArgs false
set_option maxRecDepth 100000
namespace Go.Proofs
open Go.Am
def Rest (r:Bs):Prop := r = [] ∨ ∃ c q,r = c :: q ∧ (c = 44 ∨ c = 41)
theorem QvR {f:UInt8 → Bool} {w r:Bs} (hw:w.all f = true) (hr:r = [] ∨ ∃ c q,r = c :: q ∧ f c = false):(w ++ r).takeWhile f = w ∧ (w ++ r).dropWhile f = r := by
 have h0:r.takeWhile f = [] ∧ r.dropWhile f = r := by
  rcases hr with rfl | ⟨c,q,rfl,hc⟩
  ·exact ⟨rfl,rfl⟩
  ·simp [hc]
 induction w with
 | nil => exact h0
 | cons c w ih =>
  simp only [List.all_cons,Bool.and_eq_true] at hw
  obtain ⟨h1,h2⟩ := ih hw.2
  simp only [List.cons_append,List.takeWhile_cons,List.dropWhile_cons,hw.1,if_true,h1,h2,and_self]
theorem QuO {f:UInt8 → Bool} {r:Bs} (h:Rest r) (h1:f 44 = false) (h2:f 41 = false):r = [] ∨ ∃ c q,r = c :: q ∧ f c = false := by
 rcases h with h | ⟨c,q,h,hc⟩
 ·exact .inl h
 ·refine .inr ⟨c,q,h, ?_⟩
  rcases hc with rfl | rfl
  ·exact h1
  ·exact h2
theorem Qwu {w:Bs} (h:w.all okb = true):(32:UInt8) ∉ w := fun e => by
 have := List.all_eq_true.1 h 32 e
 exact absurd this (by decide)
theorem QxY {w:Bs} (h:w.all okb = true):w.all Qf2 = true := by
 refine QhO (fun c hc => ?_) h
 unfold okb at hc; unfold Qf2
 simp only [Bool.not_eq_true',Bool.or_eq_false_iff,decide_eq_false_iff_not] at hc
 simp only [Bool.not_eq_true',Bool.or_eq_false_iff,beq_eq_false_iff_ne]
 exact ⟨fun e => hc.2.2.2 (by rw [e]; rfl),fun e => hc.2.2.1 (by rw [e]; rfl)⟩
theorem Qwd {f:UInt8 → Bool} {s:Bs} (hs:s.all f = true):∀ {l:List Bs},(∀ w ∈ l,w.all f = true) → (Lib.join l s).all f = true
 | [],_ => by rw [Lib.join_nil]; rfl
 | [x],h => by rw [Lib.join_one]; exact h x (by simp)
 | x :: y :: r,h => by
  rw [QfF,List.all_append,List.all_append,h x (by simp),hs,Qwd hs fun z hz => h z (by simp at hz ⊢; right; exact hz)]
  rfl
theorem QqP:∀ {l:List Bs},l ≠ [] → (∀ w ∈ l,w.all okb = true) → QaJ 32 (Lib.join l [32]) = l
 | [],h,_ => absurd rfl h
 | [x],_,h => by rw [Lib.join_one]; exact Qok (Qwu (h x (by simp)))
 | x :: y :: r,_,h => by
  rw [QfF,List.append_assoc]
  show QaJ 32 (x ++ 32 :: Lib.join (y :: r) [32]) = _
  rw [Qkz (Qwu (h x (by simp))),QqP (by simp) fun z hz => h z (by simp at hz ⊢; right; exact hz)]
theorem QxV {c:Cd} (h:parE c = 0):∀ w ∈ kwd c.k :: c.args,w.all okb = true := by
 obtain ⟨k1,k2,_,_⟩ := QdY (QcC h).1
 intro w hw
 rcases List.mem_cons.1 hw with rfl | hw
 ·exact QCi k1 k2
 ·exact Qxy h w hw
theorem QoA {k:Int} {t:Bs} (h0:1 ≤ k) (h1:k ≤ 14) (ht:t = [] ∨ ∃ c q,t = c :: q ∧ low c = false):(kwd k ++ t).takeWhile low = kwd k ∧ (kwd k ++ t).dropWhile low = t := QvR (QBr h0 h1) ht
theorem QuF {k:Int} {t:Bs} (h0:1 ≤ k) (h1:k ≤ 14) (ht:t = [] ∨ ∃ c q,t = c :: q ∧ low c = false) (i:Int) (i0:1 ≤ i) (i1:i ≤ 14) {r:Bs} (h:cutP (kwd i ++ [40]) (kwd k ++ t) = some r):i = k := by
 have e := (QdL h).1
 have e1 := (QoA h0 h1 ht).1
 rw [e,List.append_assoc,(QoA i0 i1 (t := [40] ++ r) (.inr ⟨40,r,rfl,by decide⟩)).1] at e1
 rw [← Qkf i0 i1,e1,Qkf h0 h1]
theorem QAC {k:Int} {t:Bs} (h0:1 ≤ k) (h1:k ≤ 14) (hl:isl k = false) (ht:t = [] ∨ ∃ c q,t = c :: q ∧ low c = false):Qh7 (kwd k ++ t) = none := by
 have key:∀ i:Int,isl i = true → 1 ≤ i → i ≤ 14 → cutP (kwd i ++ [40]) (kwd k ++ t) = none := fun i hi i0 i1 => by
  cases hc:cutP (kwd i ++ [40]) (kwd k ++ t) with
  | none => rfl
  | some r =>
   have := QuF h0 h1 ht i i0 i1 hc
   rw [this,hl] at hi
   cases hi
 unfold Qh7
 rw [key 2 (by decide) (by decide) (by decide),key 3 (by decide) (by decide) (by decide),key 4 (by decide) (by decide) (by decide)]
theorem QzW {k:Int} (hk:k = 2 ∨ k = 3 ∨ k = 4) (t:Bs):Qh7 (kwd k ++ 40 :: t) = some (k,t) := by
 have hy:cutP (kwd k ++ [40]) (kwd k ++ 40 :: t) = some t := by
  have := QpI (kwd k ++ [40]) t
  rwa [List.append_assoc] at this
 have no:∀ i:Int,1 ≤ i → i ≤ 14 → i ≠ k → cutP (kwd i ++ [40]) (kwd k ++ 40 :: t) = none := fun i i0 i1 hi => by
  cases hc:cutP (kwd i ++ [40]) (kwd k ++ 40 :: t) with
  | none => rfl
  | some r => exact absurd (QuF (by omega) (by omega) (.inr ⟨40,t,rfl,by decide⟩) i i0 i1 hc) hi
 unfold Qh7
 rcases hk with rfl | rfl | rfl
 ·rw [hy]
 ·rw [no 2 (by decide) (by decide) (by decide),hy]
 ·rw [no 2 (by decide) (by decide) (by decide),no 3 (by decide) (by decide) (by decide),hy]
theorem Qty (x:Bs) (l:List Bs):Lib.join (x :: l) [32] = x ++ Lib.joinTail [32] l := Lib.join_cons x l [32]
theorem QvU (l:List Bs) {r:Bs} (hr:Rest r):Lib.joinTail [32] l ++ r = [] ∨ ∃ c q,Lib.joinTail [32] l ++ r = c :: q ∧ low c = false := by
 cases l with
 | nil => exact QuO hr (by decide) (by decide)
 | cons w l => exact .inr ⟨32,w ++ (Lib.joinTail [32] l ++ r),by simp [Lib.joinTail],by decide⟩
theorem Qs1 {c:Cd} (hl:isl c.k = false) (r:Bs):wrC c ++ r = kwd c.k ++ (Lib.joinTail [32] c.args ++ r) := by
 rw [Qcp,hl,if_neg (by simp),Qty,List.append_assoc]
theorem QxT {c:Cd} (h:parE c = 0) (hl:isl c.k = false) (k:Nat) (r:Bs) (hr:Rest r):∃ x,Qca (k + 1) (wrC c ++ r) = some (x,r) ∧ Qbe x c = true := by
 obtain ⟨k1,k2,_,_⟩ := QdY (QcC h).1
 have hw := QxV h
 obtain ⟨x,hx,hs⟩ := Qw7 h hl
 have ew:wrC c = Lib.join (kwd c.k :: c.args) [32] := by rw [Qcp,hl,if_neg (by simp)]
 have hall:(wrC c).all Qf2 = true := by rw [ew]; exact Qwd (by decide) fun w hw' => QxY (hw w hw')
 obtain ⟨e1,e2⟩ := QvR hall (QuO hr (by decide) (by decide))
 refine ⟨x, ?_,hs⟩
 have hk:Qh7 (wrC c ++ r) = none := by
  rw [Qs1 hl]
  exact QAC k1 k2 hl (QvU c.args hr)
 rw [Qca,hk]
 dsimp only
 have eh:Qbh (wrC c ++ r) = wrC c := e1
 have et:Qgn (wrC c ++ r) = r := e2
 have el:Qha (kwd c.k :: c.args) = some x := by
  show (if QbR (kwd c.k) = 0 then none else if isl (QbR (kwd c.k)) = true then none else Qc9 (QbR (kwd c.k)) c.args) = some x
  rw [Qkf k1 k2,if_neg (by omega),hl,if_neg (by simp),hx]
 rw [eh,et,ew,QqP (by simp) hw,el]
theorem Qyg {k:Int} (h:isl k = true):k = 2 ∨ k = 3 ∨ k = 4 := by
 unfold isl at h
 rw [Bool.or_eq_true,Bool.or_eq_true] at h
 simpa using h
def Qbz (l:List Cd):Bs := (l.map fun x => [44,32] ++ wrC x).flatten
theorem QkO (x:Cd) (l:List Cd):Lib.join ((x :: l).map wrC) [44,32] = wrC x ++ Qbz l := by
 rw [List.map_cons,Lib.join_cons]
 unfold Lib.joinTail Qbz
 rw [List.map_map]
 rfl
theorem Qk1 (l:List Cd) (r:Bs):Rest (Qbz l ++ [41] ++ r) := by
 cases l with
 | nil => exact .inr ⟨41,r,rfl, .inr rfl⟩
 | cons x l => exact .inr ⟨44,32 :: (wrC x ++ (Qbz l ++ [41] ++ r)),by simp [Qbz], .inl rfl⟩
theorem QzM (l:List Cd) (x:Cd) (r:Bs):cutP [44,32] (Qbz (x :: l) ++ [41] ++ r) = some (wrC x ++ (Qbz l ++ [41] ++ r)) := by
 have := QpI [44,32] (wrC x ++ (Qbz l ++ [41] ++ r))
 rw [← this]
 congr 1
 simp [Qbz]
theorem QBo (r:Bs):cutP [44,32] (Qbz [] ++ [41] ++ r) = none ∧ cutP [41] (Qbz [] ++ [41] ++ r) = some r := by
 refine ⟨?_,QpI [41] r⟩
 show cutP [44,32] (41 :: r) = none
 unfold cutP
 rw [if_neg]
 rintro ⟨_,h⟩
 cases r <;> simp at h
theorem Qz8 (l:List Cd) (x:Cd):(Qbz (x :: l)).length = 2 + (wrC x).length + (Qbz l).length := by simp [Qbz]; omega
theorem Qmq:∀ l:List Cd,l.length ≤ (Qbz l).length
 | [] => by simp
 | x :: l => by
  have := Qmq l
  rw [Qz8,List.length_cons]
  omega
theorem QqW {p:Bs → Option (Cd × Bs)} {i:Int} (r:Bs):∀ (l:List Cd) (a:List Cd) (j:Nat),(∀ x ∈ l, ∀ r',Rest r' → ∃ y,p (wrC x ++ r') = some (y,r') ∧ Qbe y x = true) → l.length < j →
  ∃ b,Qex p i j a (Qbz l ++ [41] ++ r) = some (mkLi i (a ++ b),r) ∧ Qa1 b l = true
 | [],a,j,h,hj => by
  obtain ⟨j,rfl⟩ : ∃ m,j = m + 1 := ⟨j - 1,by simp at hj; omega⟩
  obtain ⟨e1,e2⟩ := QBo r
  refine ⟨[], ?_,by rw [Qa1]; rfl⟩
  rw [Qex,e1,e2,List.append_nil]
 | x :: l,a,j,h,hj => by
  obtain ⟨j,rfl⟩ : ∃ m,j = m + 1 := ⟨j - 1,by simp at hj; omega⟩
  obtain ⟨y,hy,hs⟩ := h x (by simp) _ (Qk1 l r)
  obtain ⟨b,hb,hbs⟩ := QqW r l (a ++ [y]) j (fun z hz => h z (by simp [hz])) (by simp at hj; omega)
  refine ⟨y :: b, ?_,by rw [Qd3,hs,hbs]; rfl⟩
  rw [Qex,QzM]
  dsimp only
  rw [hy]
  dsimp only
  rw [hb]
  simp
theorem Qyq:∀ c:Cd,parE c = 0 → ∀ (k:Nat) (r:Bs),Rest r → (wrC c).length < k → ∃ x,Qca k (wrC c ++ r) = some (x,r) ∧ Qbe x c = true := by
 refine Cd.ind fun c ih h k r hr hk => ?_
 obtain ⟨k,rfl⟩ : ∃ m,k = m + 1 := ⟨k - 1,by omega⟩
 cases hl:isl c.k with
 | false => exact QxT h hl k r hr
 | true =>
  have hks := Qyg hl
  have hne:c.l ≠ [] := by
   intro e
   obtain ⟨_,_,_,h1⟩ := QdY (QcC h).1
   unfold QbE at h1
   rcases hks with q | q | q
   ·rw [if_pos (by omega),e] at h1; exact absurd h1 (by decide)
   ·rw [if_pos (by omega),e] at h1; exact absurd h1 (by decide)
   ·rw [if_neg (by omega),if_pos q,e] at h1; exact absurd h1 (by decide)
  have hp := (QcC h).2
  cases hcl:c.l with
  | nil => exact absurd hcl hne
  | cons x l =>
   have ew:wrC c ++ r = kwd c.k ++ 40 :: (wrC x ++ (Qbz l ++ [41] ++ r)) := by
    rw [Qcp c,if_pos hl,hcl,QkO]
    simp
   have hwx:(wrC c).length = (kwd c.k).length + 1 + (wrC x).length + (Qbz l).length + 1 := by
    rw [Qcp c,if_pos hl,hcl,QkO]
    simp; omega
   have hsub:∀ z ∈ c.l,(wrC z).length < k := fun z hz => by have := Qzb hl hz; omega
   have ihp:∀ z ∈ c.l, ∀ r',Rest r' → ∃ y,Qca k (wrC z ++ r') = some (y,r') ∧ Qbe y z = true := fun z hz r' hr' => ih z hz (hp z hz) k r' hr' (hsub z hz)
   obtain ⟨y,hy,hys⟩ := ihp x (by rw [hcl]; simp) _ (Qk1 l r)
   have hll := Qmq l
   obtain ⟨b,hb,hbs⟩ := QqW (p := Qca k) (i := c.k) r l [y] ((Qbz l ++ [41] ++ r).length + 1) (fun z hz => ihp z (by rw [hcl]; simp [hz])) (by simp; omega)
   refine ⟨mkLi c.k ([y] ++ b), ?_, ?_⟩
   ·rw [ew,Qca,QzW hks]
    dsimp only
    rw [hy]
    dsimp only
    rw [hb]
   ·obtain ⟨_,z2,z3,z4,z5⟩ := Qkn h
    have hc:isc c.k = false := by rcases hks with q | q | q <;> rw [q] <;> rfl
    have hpp:isp c.k = false := by rcases hks with q | q | q <;> rw [q] <;> rfl
    have hn:nums c.k = 0 := by rcases hks with q | q | q <;> rw [q] <;> rfl
    obtain ⟨y1,y2,y3⟩ := z3 hpp
    refine QeA.2 ⟨rfl,(z4 (by omega)).symm,(z5 (by omega)).symm,y1.symm,y2.symm,y3.symm,(z2 hc).symm, ?_⟩
    show Qa1 (y :: b) c.l = true
    rw [hcl,Qd3,hys,hbs]
    rfl
end Go.Proofs
set_option linter.unusedVariables false
set_option linter.unusedSimpArgs false
set_option maxRecDepth 100000
namespace Go.Proofs
open Go.Am
theorem QAK {w:Bs} (h:w.all okb = true):w.all argc = true := by
 refine QhO (fun c hc => ?_) h
 unfold okb at hc; unfold argc
 simp only [Bool.not_eq_true',Bool.or_eq_false_iff,decide_eq_false_iff_not] at hc ⊢
 exact ⟨hc.1,hc.2.2.2,hc.2.2.1⟩
theorem Qq6 (r:Bs) (hr:Rest r):∀ (args l:List Bs) (j:Nat),(∀ w ∈ args,w.all okb = true) → args.length < j → Qb9 j l (Lib.joinTail [32] args ++ r) = (l ++ args,r)
 | [],l,j,h,hj => by
  obtain ⟨j,rfl⟩ : ∃ m,j = m + 1 := ⟨j - 1,by simp at hj; omega⟩
  show Qb9 (j + 1) l r = _
  rcases hr with rfl | ⟨c,q,rfl,hc⟩
  ·rw [Qb9,List.append_nil]
  ·rw [Qb9,if_neg (by rcases hc with rfl | rfl <;> decide),List.append_nil]
 | w :: args,l,j,h,hj => by
  obtain ⟨j,rfl⟩ : ∃ m,j = m + 1 := ⟨j - 1,by simp at hj; omega⟩
  have ht:Lib.joinTail [32] args ++ r = [] ∨ ∃ c q,Lib.joinTail [32] args ++ r = c :: q ∧ argc c = false := by
   cases args with
   | nil => exact QuO hr (by decide) (by decide)
   | cons z args => exact .inr ⟨32,z ++ (Lib.joinTail [32] args ++ r),by simp [Lib.joinTail],by decide⟩
  obtain ⟨e1,e2⟩ := QvR (QAK (h w (by simp))) ht
  have e:Lib.joinTail [32] (w :: args) ++ r = 32 :: (w ++ (Lib.joinTail [32] args ++ r)) := by simp [Lib.joinTail]
  rw [e,Qb9,if_pos (by decide),e1,e2,Qq6 r hr args (l ++ [w]) j (fun z hz => h z (by simp [hz])) (by simp at hj; omega)]
  simp
theorem Qp7:∀ l:List Bs,l.length ≤ (Lib.joinTail [32] l).length
 | [] => by simp
 | w :: l => by
  have := Qp7 l
  have e:(Lib.joinTail [32] (w :: l)).length = 1 + w.length + (Lib.joinTail [32] l).length := by simp [Lib.joinTail]; omega
  rw [e,List.length_cons]
  omega
theorem Qww {c:Cd} (h:parE c = 0) (hl:isl c.k = false) (d:Nat) (r:Bs) (hr:Rest r):∃ x,Qch (d + 1) (wrC c ++ r) = (x,some r) ∧ Qbe x c = true := by
 obtain ⟨k1,k2,_,_⟩ := QdY (QcC h).1
 obtain ⟨e1,e2⟩ := QoA k1 k2 (QvU c.args hr)
 have hc := Qp7 c.args
 have ea := Qq6 r hr c.args [] ((Lib.joinTail [32] c.args ++ r).length + 1) (Qxy h) (by rw [List.length_append]; omega)
 refine ⟨_, ?_,QwY h hl⟩
 rw [Qs1 hl,Qch,e1,e2,Qkf k1 k2,if_neg (by omega),hl,if_neg (by simp),ea]
 rfl
theorem Qpc {p:Bs → Cd × Option Bs} (r:Bs):∀ (l:List Cd) (x:Cd) (a:List Cd) (j:Nat),(∀ z ∈ x :: l, ∀ r',Rest r' → ∃ y,p (wrC z ++ r') = (y,some r') ∧ Qbe y z = true) → l.length < j →
  ∃ b,QbN p j a (wrC x ++ (Qbz l ++ [41] ++ r)) = (a ++ b,some r) ∧ Qa1 b (x :: l) = true
 | [],x,a,j,h,hj => by
  obtain ⟨j,rfl⟩ : ∃ m,j = m + 1 := ⟨j - 1,by simp at hj; omega⟩
  obtain ⟨y,hy,hs⟩ := h x (by simp) _ (Qk1 [] r)
  refine ⟨[y], ?_,by rw [Qd3,hs,Qa1]; rfl⟩
  rw [QbN,hy]
  rfl
 | z :: l,x,a,j,h,hj => by
  obtain ⟨j,rfl⟩ : ∃ m,j = m + 1 := ⟨j - 1,by simp at hj; omega⟩
  obtain ⟨y,hy,hs⟩ := h x (by simp) _ (Qk1 (z :: l) r)
  obtain ⟨b,hb,hbs⟩ := Qpc r l z (a ++ [y]) j (fun w hw => h w (List.mem_cons_of_mem _ hw)) (by simp at hj; omega)
  refine ⟨y :: b, ?_,by rw [Qd3,hs,hbs]; rfl⟩
  have e:Qbz (z :: l) ++ [41] ++ r = 44 :: 32 :: (wrC z ++ (Qbz l ++ [41] ++ r)) := by simp [Qbz]
  rw [QbN,hy,e]
  show (if (some (44:UInt8)) = some 41 then _ else if [44,32] = ([44,32]:Bs) then QbN p j (a ++ [y]) (wrC z ++ (Qbz l ++ [41] ++ r)) else _) = _
  rw [if_neg (by decide),if_pos rfl,hb]
  simp
theorem QxJ:∀ (l:List Cd) (n:Int),n ≤ levs n l ∧ ∀ x ∈ l,levC x ≤ levs n l
 | [],n => ⟨by rw [levs]; omega,fun x hx => by cases hx⟩
 | c :: r,n => by
  rw [levs]
  obtain ⟨h1,h2⟩ := QxJ r (if levC c > n then levC c else n)
  have h3:n ≤ (if levC c > n then levC c else n) ∧ levC c ≤ (if levC c > n then levC c else n) := by split <;> omega
  refine ⟨by omega,fun x hx => ?_⟩
  rcases List.mem_cons.1 hx with rfl | hx
  ·omega
  ·exact h2 x hx
theorem QxG {B:Int} : ∀ (l:List Cd) (n:Int),n ≤ B → (∀ x ∈ l,levC x ≤ B) → levs n l ≤ B
 | [],n,h,_ => by rw [levs]; exact h
 | c :: r,n,h,g => by
  rw [levs]
  have := g c (by simp)
  exact QxG r _ (by split <;> omega) fun x hx => g x (by simp [hx])
theorem QyW:∀ c:Cd,tsz c ≤ 1000000 → 1 ≤ levC c ∧ levC c ≤ tsz c ∧ ∀ x ∈ c.l,levC x + 1 ≤ levC c := by
 refine Cd.ind fun c ih h => ?_
 rw [Qd9] at h
 have hx:∀ x ∈ c.l,1 ≤ levC x ∧ levC x ≤ tszs c.l := fun x hx => by
  have h1 := Qj3 hx
  obtain ⟨h2,h3,_⟩ := ih x hx (by omega)
  exact ⟨h2,by omega⟩
 obtain ⟨h1,h2⟩ := QxJ c.l 0
 have h3 := QxG (B := (tszs c.l:Int)) c.l 0 (by omega) fun x hx' => (hx x hx').2
 have e:levC c = levs 0 c.l + 1 := by rw [QlY]; exact Qad (by omega) (by omega)
 rw [e,Qd9]
 exact ⟨by omega,by omega,fun x hx' => by have := h2 x hx'; omega⟩
theorem QxU:∀ c:Cd,parE c = 0 → tsz c ≤ 1000000 → ∀ (d:Nat) (r:Bs),Rest r → levC c ≤ d → ∃ x,Qch d (wrC c ++ r) = (x,some r) ∧ Qbe x c = true := by
 refine Cd.ind fun c ih h ht d r hr hd => ?_
 obtain ⟨b1,_,b3⟩ := QyW c ht
 obtain ⟨d,rfl⟩ : ∃ m,d = m + 1 := ⟨d - 1,by omega⟩
 cases hl:isl c.k with
 | false => exact Qww h hl d r hr
 | true =>
  have hks := Qyg hl
  have hne:c.l ≠ [] := by
   intro e
   obtain ⟨_,_,_,h1⟩ := QdY (QcC h).1
   unfold QbE at h1
   rcases hks with q | q | q
   ·rw [if_pos (by omega),e] at h1; exact absurd h1 (by decide)
   ·rw [if_pos (by omega),e] at h1; exact absurd h1 (by decide)
   ·rw [if_neg (by omega),if_pos q,e] at h1; exact absurd h1 (by decide)
  have hp := (QcC h).2
  cases hcl:c.l with
  | nil => exact absurd hcl hne
  | cons x l =>
   have ew:wrC c ++ r = kwd c.k ++ 40 :: (wrC x ++ (Qbz l ++ [41] ++ r)) := by
    rw [Qcp c,if_pos hl,hcl,QkO]
    simp
   have ihp:∀ z ∈ x :: l, ∀ r',Rest r' → ∃ y,Qch d (wrC z ++ r') = (y,some r') ∧ Qbe y z = true := fun z hz r' hr' => by
    rw [← hcl] at hz
    have h1 := Qj3 hz
    rw [Qd9] at ht
    exact ih z hz (hp z hz) (by omega) d r' hr' (by have := b3 z hz; omega)
   have hll := Qmq l
   obtain ⟨b,hb,hbs⟩ := Qpc (p := Qch d) r l x [] ((wrC x ++ (Qbz l ++ [41] ++ r)).length + 1) ihp (by simp only [List.length_append]; omega)
   rw [List.nil_append] at hb
   obtain ⟨e1,e2⟩ := QoA (k := c.k) (t := 40 :: (wrC x ++ (Qbz l ++ [41] ++ r))) (by omega) (by omega) (.inr ⟨40,_,rfl,by decide⟩)
   refine ⟨mkI c.k b, ?_, ?_⟩
   ·rw [ew,Qch,e1,e2,Qkf (by omega) (by omega),if_neg (by omega),hl,if_pos rfl]
    dsimp only
    rw [if_pos (by decide),hb]
   ·obtain ⟨_,z2,z3,z4,z5⟩ := Qkn h
    have hc:isc c.k = false := by rcases hks with q | q | q <;> rw [q] <;> rfl
    have hpp:isp c.k = false := by rcases hks with q | q | q <;> rw [q] <;> rfl
    have hn:nums c.k = 0 := by rcases hks with q | q | q <;> rw [q] <;> rfl
    obtain ⟨y1,y2,y3⟩ := z3 hpp
    refine QeA.2 ⟨rfl,(z4 (by omega)).symm,(z5 (by omega)).symm,y1.symm,y2.symm,y3.symm,(z2 hc).symm, ?_⟩
    show Qa1 b c.l = true
    rw [hcl]
    exact hbs
end Go.Proofs
set_option linter.unusedVariables false
set_option linter.unusedSimpArgs false
set_option maxRecDepth 100000
namespace Go.Proofs
open Go.Am
theorem Qxc {B L:Nat} {c:Cd} {args:List Bs} (hl:c.l = []) (ht:c.t = [] ∨ c.t = args) (hb:args.length ≤ B) (ha:∀ s ∈ args,s.length ≤ L):Sm B L c ∧ tsz c = 1 := by
 refine ⟨(QgV c).2 ⟨by rw [hl]; simp,fun x hx => (by rw [hl] at hx; cases hx), ?_,fun s hs => ?_⟩,by rw [Qd9,hl,tszs]⟩
 ·rcases ht with h | h <;> rw [h]
  ·simp
  ·exact hb
 ·rcases ht with h | h <;> rw [h] at hs
  ·cases hs
  ·exact ha s hs
theorem QwF {k:Int} {args:List Bs} {c:Cd} (h:Qc9 k args = some c):c.l = [] ∧ (c.t = [] ∨ c.t = args) := by
 unfold Qc9 at h
 split at h
 ·obtain rfl := Option.some.inj h; exact ⟨rfl, .inr rfl⟩
 split at h
 ·split at h
  ·split at h
   ·obtain rfl := Option.some.inj h; exact ⟨rfl, .inl rfl⟩
   ·cases h
  ·cases h
 split at h
 ·split at h
  ·split at h
   ·obtain rfl := Option.some.inj h; exact ⟨rfl, .inl rfl⟩
   ·cases h
  ·cases h
 split at h
 ·split at h
  ·split at h
   ·obtain rfl := Option.some.inj h; exact ⟨rfl, .inl rfl⟩
   ·cases h
  ·cases h
 split at h
 ·split at h
  ·split at h
   ·obtain rfl := Option.some.inj h; exact ⟨rfl, .inl rfl⟩
   ·cases h
  ·cases h
 ·obtain rfl := Option.some.inj h; exact ⟨rfl, .inl rfl⟩
theorem Qwx {s:Bs} {c:Cd} (h:Qha (QaJ 32 s) = some c):s ≠ [] ∧ ∃ h0 args,QaJ 32 s = h0 :: args ∧ c.l = [] ∧ (c.t = [] ∨ c.t = args) := by
 constructor
 ·rintro rfl
  have e:Qha (QaJ 32 []) = none := by decide
  rw [e] at h
  cases h
 ·cases e:QaJ 32 s with
  | nil => exact absurd e (QkM 32 s)
  | cons h0 args =>
   rw [e] at h
   refine ⟨h0,args,rfl, ?_⟩
   have h:(if QbR h0 = 0 then none else if isl (QbR h0) = true then none else Qc9 (QbR h0) args) = some c := h
   split at h
   ·cases h
   split at h
   ·cases h
   ·exact QwF h
theorem QpJ:∀ (a b:List Cd),tszs (a ++ b) = tszs a + tszs b
 | [],b => by rw [List.nil_append,tszs]; omega
 | x :: a,b => by rw [List.cons_append,tszs,tszs,QpJ a b]; omega
section
variable {B:Nat}
def Fine (B:Nat) (s:Bs) (c:Cd) (r:Bs):Prop := tsz c + r.length ≤ s.length ∧ Sm (B + 1) B c
theorem QxC {c:Cd} {n:Nat} (ht:c.t = []) (hl:∀ z ∈ c.l,Sm (B + 1) B z) (hn:tszs c.l ≤ B):Sm (B + 1) B c :=
 (QgV c).2 ⟨by have := QjA c.l; omega,hl,by rw [ht]; simp,fun s hs => by rw [ht] at hs; cases hs⟩
theorem Qte {p:Bs → Option (Cd × Bs)} (hp:∀ s y,s.length ≤ B → p s = some y → Fine B s y.1 y.2) {i:Int} : ∀ (j:Nat) (l:List Cd) (s:Bs) (x:Cd × Bs),(∀ z ∈ l,Sm (B + 1) B z) → tszs l + s.length ≤ B → Qex p i j l s = some x →
  tsz x.1 + x.2.length ≤ tszs l + s.length ∧ Sm (B + 1) B x.1
 | 0,_,_,_,_,_,h => by cases h
 | j + 1,l,s,x,hl,hs,h => by
  rw [Qex] at h
  split at h
  ·rename_i s1 h1
   have hc := (QdL h1).2
   simp only [List.length_cons,List.length_nil] at hc
   split at h
   ·rename_i y hy
    obtain ⟨q1,q2⟩ := hp s1 y (by omega) hy
    have e:tszs (l ++ [y.1]) = tszs l + tsz y.1 := by rw [QpJ,tszs,tszs]; omega
    have := Qte hp j (l ++ [y.1]) y.2 x (fun z hz => by
     rcases List.mem_append.1 hz with hz | hz
     ·exact hl z hz
     ·simp only [List.mem_singleton] at hz; subst hz; exact q2) (by rw [e]; omega) h
    rw [e] at this
    exact ⟨by omega,this.2⟩
   ·cases h
  ·split at h
   ·rename_i s1 h1
    have hc := (QdL h1).2
    simp only [List.length_cons,List.length_nil] at hc
    obtain rfl := Option.some.inj h
    refine ⟨?_,QxC (n := 0) rfl hl (show tszs l ≤ B by omega)⟩
    show tsz (mkLi i l) + s1.length ≤ _
    rw [Qd9]
    show 1 + tszs l + s1.length ≤ _
    omega
   ·cases h
theorem Qk3:∀ (k:Nat) (s:Bs) (x:Cd × Bs),s.length ≤ B → Qca k s = some x → Fine B s x.1 x.2
 | 0,_,_,_,h => by cases h
 | k + 1,s,x,hs,h => by
  rw [Qca] at h
  split at h
  ·rename_i q hq
   have h1 := (QsQ hq).1
   split at h
   ·rename_i y hy
    obtain ⟨q1,q2⟩ := Qk3 k _ _ (by omega) hy
    have e:tszs [y.1] = tsz y.1 := by rw [tszs,tszs]; omega
    have := Qte (fun s y hs' hy' => Qk3 k s y hs' hy') _ _ _ _ (fun z hz => by simp only [List.mem_singleton] at hz; subst hz; exact q2) (by rw [e]; omega) h
    rw [e] at this
    exact ⟨by omega,this.2⟩
   ·cases h
  ·split at h
   ·rename_i c hc
    obtain rfl := Option.some.inj h
    obtain ⟨hne,h0,args,e,hl,ht⟩ := Qwx hc
    have hh := congrArg List.length (Qit s)
    rw [List.length_append] at hh
    have hpos:1 ≤ (Qbh s).length := by cases hq:Qbh s; exact absurd hq hne; simp
    obtain ⟨l1,l2⟩ := Qhc 32 (Qbh s)
    rw [e] at l1 l2
    simp only [List.length_cons] at l1
    obtain ⟨s1,s2⟩ := Qxc (B := B + 1) (L := B) hl ht (by omega) (fun w hw => by have := l2 w (by simp [hw]); omega)
    exact ⟨by show tsz c + (Qgn s).length ≤ _; omega,s1⟩
   ·cases h
theorem Qvj:∀ (j:Nat) (l:List Bs) (s:Bs),(Qb9 j l s).1.length + (Qb9 j l s).2.length ≤ l.length + s.length
 | 0,l,s => by rw [Qb9]; exact Nat.le_refl _
 | j + 1,l,[] => by rw [Qb9]; exact Nat.le_refl _
 | j + 1,l,c :: r => by
  rw [Qb9]
  split
  ·have h1 := Qvj j (l ++ [r.takeWhile argc]) (r.dropWhile argc)
   have h2 := QqG argc r
   simp only [List.length_append,List.length_cons,List.length_nil] at h1 ⊢
   omega
  ·exact Nat.le_refl _
theorem Qw2 (k:Int) (args:List Bs):(QhW k args).l = [] ∧ ((QhW k args).t = [] ∨ (QhW k args).t = args) := by
 refine ⟨rfl, ?_⟩
 show (if isc k = true then args else []) = [] ∨ (if isc k = true then args else []) = args
 split
 ·exact .inr rfl
 ·exact .inl rfl
theorem QqZ {p:Bs → Cd × Option Bs} (hp:∀ s r,s.length ≤ B → (p s).2 = some r → Fine B s (p s).1 r):∀ (j:Nat) (l:List Cd) (s r:Bs),(∀ z ∈ l,Sm (B + 1) B z) → tszs l + s.length ≤ B → (QbN p j l s).2 = some r →
  tszs (QbN p j l s).1 + 1 + r.length ≤ tszs l + s.length ∧ ∀ z ∈ (QbN p j l s).1,Sm (B + 1) B z
 | 0,_,_,_,_,_,h => by cases h
 | j + 1,l,s,r,hl,hs,h => by
  rw [QbN] at h ⊢
  cases hq:(p s).2 with
  | none => rw [hq] at h; cases h
  | some s2 =>
   rw [hq] at h
   obtain ⟨q1,q2⟩ := hp s s2 (by omega) hq
   have e:tszs (l ++ [(p s).1]) = tszs l + tsz (p s).1 := by rw [QpJ,tszs,tszs]; omega
   have hl2:∀ z ∈ l ++ [(p s).1],Sm (B + 1) B z := fun z hz => by
    rcases List.mem_append.1 hz with hz | hz
    ·exact hl z hz
    ·simp only [List.mem_singleton] at hz; subst hz; exact q2
   dsimp only at h ⊢
   by_cases h1:s2.head? = some 41
   ·rw [if_pos h1] at h ⊢
    obtain rfl := Option.some.inj h
    have:s2.length = s2.tail.length + 1 := by
     cases s2 with
     | nil => cases h1
     | cons a b => rfl
    refine ⟨?_,hl2⟩
    show tszs (l ++ [(p s).1]) + 1 + _ ≤ _
    rw [e]; omega
   ·rw [if_neg h1] at h ⊢
    by_cases h2:s2.take 2 = [44,32]
    ·rw [if_pos h2] at h ⊢
     have hd:(s2.drop 2).length ≤ s2.length := by rw [List.length_drop]; omega
     have := QqZ hp j (l ++ [(p s).1]) (s2.drop 2) r hl2 (by rw [e]; omega) h
     rw [e] at this
     exact ⟨by omega,this.2⟩
    ·rw [if_neg h2] at h; cases h
theorem Qn9:∀ (d:Nat) (s r:Bs),s.length ≤ B → (Qch d s).2 = some r → Fine B s (Qch d s).1 r
 | 0,s,r,_,h => by cases h
 | d + 1,s,r,hs,h => by
  have hw := QqG low s
  rw [Qch] at h ⊢
  by_cases h0:QbR (s.takeWhile low) = 0
  ·rw [if_pos h0] at h; cases h
  rw [if_neg h0] at h ⊢
  have hpos:1 ≤ (s.takeWhile low).length := by
   cases hq:s.takeWhile low with
   | nil => rw [hq] at h0; exact absurd (by decide:QbR [] = 0) h0
   | cons a b => simp
  by_cases hl:isl (QbR (s.takeWhile low)) = true
  ·rw [if_pos hl] at h ⊢
   cases hr:s.dropWhile low with
   | nil => rw [hr] at h; cases h
   | cons c q =>
    rw [hr] at h hw
    simp only [List.length_cons] at hw
    dsimp only at h ⊢
    by_cases h40:c.toNat = 40
    ·rw [if_pos h40] at h ⊢
     obtain ⟨q1,q2⟩ := QqZ (fun s r hs' hr' => Qn9 d s r hs' hr') _ [] q r (fun z hz => by cases hz) (by rw [tszs]; omega) h
     rw [tszs] at q1
     refine ⟨?_,QxC (n := 0) rfl q2 (show tszs (QbN (Qch d) (q.length + 1) [] q).1 ≤ B by omega)⟩
     show tsz (mkI _ (QbN (Qch d) (q.length + 1) [] q).1) + r.length ≤ _
     rw [Qd9]
     show 1 + tszs (QbN (Qch d) (q.length + 1) [] q).1 + r.length ≤ _
     omega
    ·rw [if_neg h40] at h; cases h
  ·rw [if_neg hl] at h ⊢
   have hcnt := Qvj ((s.dropWhile low).length + 1) [] (s.dropWhile low)
   have hall := Qqc ((s.dropWhile low).length + 1) [] (s.dropWhile low) B (by simp) (by omega)
   have hsh := Qw2 (QbR (s.takeWhile low)) (Qb9 ((s.dropWhile low).length + 1) [] (s.dropWhile low)).1
   have e:(Qb9 ((s.dropWhile low).length + 1) [] (s.dropWhile low)).2 = r := Option.some.inj h
   simp only [List.length_nil] at hcnt
   obtain ⟨s1,s2⟩ := Qxc (B := B + 1) (L := B) hsh.1 hsh.2 (by omega) hall
   exact ⟨by show tsz (QhW _ _) + _ ≤ _; rw [s2, ← e]; omega,s1⟩
end
theorem Qs0 {K:Nat} {f:Cd → Bs} : ∀ {l:List Cd},(∀ x ∈ l,(f x).length ≤ K * tsz x) → (Lib.join (l.map f) [44,32]).length ≤ K * tszs l + 2 * l.length
 | [],_ => by simp [Lib.join_nil]
 | [x],h => by
  rw [List.map_cons,List.map_nil,Lib.join_one,tszs,tszs]
  have := h x (by simp)
  simp only [Nat.add_zero]
  omega
 | x :: y :: r,h => by
  rw [List.map_cons,List.map_cons,QfF]
  have h1 := h x (by simp)
  have h2 := Qs0 (l := y :: r) fun z hz => h z (by simp at hz ⊢; right; exact hz)
  rw [List.map_cons] at h2
  rw [tszs,Nat.mul_add]
  simp only [List.length_append,List.length_cons,List.length_nil] at h2 ⊢
  omega
theorem QzQ:∀ {B L:Nat} (c:Cd),parE c = 0 → Sm B L c → (wrC c).length ≤ (4 * B + 100) * tsz c := by
 intro B L
 refine Cd.ind fun c ih h hs => ?_
 obtain ⟨h1,h2,h3,_⟩ := (QgV c).1 hs
 have hk := QoI c.k
 rw [Qd9,Nat.mul_add,Nat.mul_one]
 cases hl:isl c.k with
 | true =>
  rw [Qcp,if_pos hl]
  have := Qs0 (K := 4 * B + 100) (f := wrC) (l := c.l) fun x hx => ih x hx ((QcC h).2 x hx) (h2 x hx)
  simp only [List.length_append,List.length_cons,List.length_nil]
  omega
 | false =>
  rw [Qcp,hl,if_neg (by simp)]
  have ha:(Lib.join c.args [32]).length ≤ 4 * B + 60 := by
   cases hp:isp c.k with
   | true => rw [Qhz hp,Lib.join_one]; have := Qmc c.fr c.to c.days; omega
   | false =>
    cases hc:isc c.k with
    | true =>
     rw [Qkd hc]
     have := Qxf (s := [32]) (m := 3) fun x hx => QAe ((Qtm h hc).2 x hx)
     simp only [List.length_cons,List.length_nil] at this
     omega
    | false =>
     by_cases h8:c.k = 8
     ·rw [Qlu h8,QfF,Lib.join_one]
      have := QhJ c.a
      have := QhJ c.b
      simp only [List.length_append,List.length_cons,List.length_nil]
      omega
     ·rw [QeO hp hc h8]
      split
      ·rename_i hn
       obtain ⟨a0,a1,b0,_⟩ := QdX h (by omega)
       have b0 := b0 hn
       have := Qdp (z := c.a) (by omega) (by omega)
       have := Qdp (z := c.b) (by omega) (by omega)
       rw [QfF,Lib.join_one]
       simp only [List.length_append,List.length_cons,List.length_nil]
       omega
      split
      ·rename_i _ hn
       obtain ⟨a0,a1,_,_⟩ := QdX h hn
       have := Qdp (z := c.a) (by omega) (by omega)
       rw [Lib.join_one]
       omega
      ·rw [Lib.join_nil]; simp
  cases hq:c.args with
  | nil => rw [Lib.join_one]; omega
  | cons x r =>
   rw [QfF, ← hq]
   simp only [List.length_append,List.length_cons,List.length_nil]
   omega
end Go.Proofs
set_option linter.unusedVariables false
set_option linter.unusedSimpArgs false
set_option maxRecDepth 100000
namespace Go.Proofs
open Go.Am
variable (lb:Nat)
theorem Qq9 (b:Bool) (x y:Bs):Ret lb QgR [.bool b, .str x, .str y] (.str (bif b then x else y)) :=
 .top rfl (.all fun n => by rw [QtM]; cases b <;> rfl)
def preT:List Cd → Bs
 | [] => []
 | x :: l => 40 :: (wrC x ++ Qbz l)
theorem QxR (l:List Cd) (x:Cd):Qbz (l ++ [x]) = Qbz l ++ ([44,32] ++ wrC x) := by simp [Qbz]
theorem Qtn (l:List Cd) (x:Cd):preT (l ++ [x]) = (preT l ++ (bif l.isEmpty then [40] else [44,32])) ++ wrC x := by
 cases l with
 | nil => simp [preT,Qbz]
 | cons y l => rw [List.cons_append]; simp [preT,QxR]
theorem QAm:∀ {p u:List Cd},(preT p).length ≤ (preT (p ++ u)).length := by
 intro p u
 cases p with
 | nil => simp [preT]
 | cons x p => simp [preT,Qbz]
theorem QAs (c:Cd) (hl:isl c.k = true) (hne:c.l ≠ []) (hlen:(wrC c).length ≤ 100000000) (jn jk wi:CV) (js:List CV) (n:Nat) (hs:∀ x ∈ c.l,C lb n Qam [cdv x] = some (.str (wrC x)))
  (hch:∀ b,C lb n QgR [.bool b, .str [40], .str [44,32]] = some (.str (bif b then [40] else [44,32]))) :
  ∀ t p,p ++ t = c.l → ∀ k,t.length < k → QgY lb n k c.k c.ln (c.l.map ccv) c.a c.b c.fr c.to c.days c.tn (scv c.t) jk js jn wi (.str (kwd c.k ++ preT p)) (p.length:Int) = some (.str (wrC c)) := by
 have ew:wrC c = (kwd c.k ++ preT c.l) ++ [41] := by
  rw [Qcp,if_pos hl]
  cases hq:c.l with
  | nil => exact absurd hq hne
  | cons x l => rw [QkO]; simp [preT]
 have hcn := Qmq c.l.tail
 have hlc:c.l.length ≤ 100000001 := by
  rw [ew] at hlen
  cases hq:c.l with
  | nil => simp
  | cons x l =>
   rw [hq] at hlen hcn
   simp only [preT,List.length_append,List.length_cons,List.length_nil,List.tail_cons] at hlen hcn ⊢
   omega
 intro t
 induction t with
 | nil =>
  intro p hp k hk
  obtain ⟨k,rfl⟩ : ∃ j,k = j + 1 := ⟨k - 1,by simp at hk; omega⟩
  obtain rfl:p = c.l := by simpa using hp
  rw [Qi3]
  refine stF (decF (by rw [List.length_map]; omega)) ?_
  rw [QqM]
  rw [ew] at hlen
  simp only [List.length_append,List.length_cons,List.length_nil] at hlen
  refine stO _ rfl (stC (decT (by simp only [List.length_append,List.length_cons,List.length_nil]; omega)) ?_)
  rw [ew]
 | cons x t ih =>
  intro p hp k hk
  obtain ⟨k,rfl⟩ : ∃ j,k = j + 1 := ⟨k - 1,by simp at hk; omega⟩
  have hpl:c.l.length = p.length + (t.length + 1) := by rw [← hp]; simp
  have hat := QfB (l := c.l) (i := p.length) (x := x) (by rw [← hp]; simp)
  have hb:(((p.length:Int)) == 0) = p.isEmpty := by cases p with | nil => rfl | cons a b => simp; omega
  have e2:p ++ x :: t = (p ++ [x]) ++ t := by simp
  have hle:(kwd c.k ++ preT (p ++ [x])).length ≤ 100000000 := by
   have := QAm (p := p ++ [x]) (u := t)
   rw [← e2,hp] at this
   rw [ew] at hlen
   simp only [List.length_append,List.length_cons,List.length_nil] at hlen ⊢
   omega
  rw [Qtn] at hle
  simp only [List.length_append] at hle
  rw [Qi3,hb]
  refine stT (decT (by rw [List.length_map]; omega)) (stO _ (hch _) (stO _ rfl (stO _ rfl (stC (decT (by simp only [List.length_append]; omega)) (stO _ hat (stC rfl (stO _ rfl (stO _ rfl (stO _ rfl (stO _ rfl (stO _ rfl (stO _ rfl (stO _ rfl (stO _ rfl (stO _ (hs x (by rw [← hp]; simp)) (stO _ rfl (stC (decT (by simp only [List.length_append]; omega)) ?_)))))))))))))))))
  rw [Qad (by omega) (by omega),show (p.length:Int) + 1 = ((p ++ [x]).length:Int) by simp]
  have e3:((kwd c.k ++ preT p) ++ (bif p.isEmpty then [40] else [44,32])) ++ wrC x = kwd c.k ++ preT (p ++ [x]) := by rw [Qtn]; simp
  rw [e3]
  exact ih (p ++ [x]) (by rw [← hp]; simp) k (by simp at hk; omega)
theorem Qtf (l:List Bs) (w:Bs):Lib.joinTail [32] (l ++ [w]) = (Lib.joinTail [32] l ++ [32]) ++ w := by simp [Lib.joinTail]
theorem QvJ (w:Bs):Lib.joinTail [32] [w] = [32] ++ w := by simp [Lib.joinTail]
theorem Qz9 (c:Cd) (hlen:(kwd c.k ++ Lib.joinTail [32] c.t).length ≤ 100000000) (jn jk:CV) (js:List CV) (n:Nat):∀ t p,p ++ t = c.t → ∀ k,t.length < k →
  Qgc lb n k c.k c.ln (c.l.map ccv) c.a c.b c.fr c.to c.days c.tn (scv c.t) jk js jn (.str (kwd c.k ++ Lib.joinTail [32] p)) (p.length:Int) = some (.str (kwd c.k ++ Lib.joinTail [32] c.t)) := by
 have hcn := Qp7 c.t
 rw [List.length_append] at hlen
 intro t
 induction t with
 | nil =>
  intro p hp k hk
  obtain ⟨k,rfl⟩ : ∃ j,k = j + 1 := ⟨k - 1,by simp at hk; omega⟩
  obtain rfl:p = c.t := by simpa using hp
  rw [QiK]
  refine stF (decF (by rw [Qas]; omega)) ?_
  rw [QpM]
 | cons x t ih =>
  intro p hp k hk
  obtain ⟨k,rfl⟩ : ∃ j,k = j + 1 := ⟨k - 1,by simp at hk; omega⟩
  have hpl:c.t.length = p.length + (t.length + 1) := by rw [← hp]; simp
  have hat := QlF (t := c.t) (i := p.length) (s := x) (by rw [← hp]; simp)
  have hle:((Lib.joinTail [32] p ++ [32]) ++ x).length ≤ (Lib.joinTail [32] c.t).length := by
   rw [← Qtf, ← hp,show p ++ x :: t = (p ++ [x]) ++ t by simp]
   simp [Lib.joinTail]
  simp only [List.length_append,List.length_cons,List.length_nil] at hle
  rw [QiK]
  refine stT (decT (by rw [Qas]; omega)) (stO _ rfl (stC (decT (by simp only [List.length_append,List.length_cons,List.length_nil]; omega)) (stO _ hat (stC rfl (stO _ rfl (stO _ rfl (stC (decT (by simp only [List.length_append,List.length_cons,List.length_nil]; omega)) ?_)))))))
  rw [Qad (by omega) (by omega),show (p.length:Int) + 1 = ((p ++ [x]).length:Int) by simp]
  have e3:(kwd c.k ++ Lib.joinTail [32] p ++ [32]) ++ x = kwd c.k ++ Lib.joinTail [32] (p ++ [x]) := by rw [Qtf]; simp
  rw [e3]
  exact ih (p ++ [x]) (by rw [← hp]; simp) k (by simp at hk; omega)
theorem Qum:∀ c:Cd,Wok c → Ret lb Qam [cdv c] (.str (wrC c)) := by
 refine Qg9 lb (fun c h x hx => Qxl c h x hx) fun c hc hs => .top rfl (.eq (fun n => by rw [QvS]) ?_)
 obtain ⟨k1,k2,_,_⟩ := QdY (QcC hc.1).1
 have hlen := hc.2
 have ew := QmS lb
 have el := Qj8 lb c.k
 have ep := QfC lb c.k
 have en := Qhk lb c.k
 obtain ⟨z1,z2,z3,z4,z5⟩ := Qkn hc.1
 have hk9 := QoI c.k
 cases hl:isl c.k with
 | true =>
  rw [hl] at el
  have hne:c.l ≠ [] := by
   intro e
   obtain ⟨_,_,_,h1⟩ := QdY (QcC hc.1).1
   unfold QbE at h1
   rcases Qyg hl with q | q | q
   ·rw [if_pos (by omega),e] at h1; exact absurd h1 (by decide)
   ·rw [if_pos (by omega),e] at h1; exact absurd h1 (by decide)
   ·rw [if_neg (by omega),if_pos q,e] at h1; exact absurd h1 (by decide)
  have e1 := Qq9 lb true [40] [44,32]
  have e2 := Qq9 lb false [40] [44,32]
  refine (ew.and (Evt.and el (Evt.and hs (Evt.and e1 (Evt.and e2 (Evt.ge (c.l.length + 1))))))).mono fun n ⟨a,b,h,x,y,hn⟩ => ?_
  refine stO _ a (stO _ rfl (stO _ (Qkl c.k (by omega) k2) (stC rfl (stO _ rfl (stO _ b (stO _ rfl (stT rfl ?_)))))))
  have := QAs lb c hl hne hlen (.str (kwd c.k)) (.list false (scv kws)) (.bool true) [.str (kwd c.k)] n h (fun b => by cases b; exact y; exact x) c.l [] rfl n (by omega)
  rw [show kwd c.k ++ preT [] = kwd c.k by simp [preT]] at this
  exact this
 | false =>
  rw [hl] at el
  have et:wrC c = kwd c.k ++ Lib.joinTail [32] c.args := by rw [Qcp,hl,if_neg (by simp),Qty]
  cases hp:isp c.k with
  | true =>
   rw [hp] at ep
   have e1 := Qt3 lb c.fr c.to c.days
   have hq := Qmc c.fr c.to c.days
   rw [et,Qhz hp,QvJ]
   refine (ew.and (Evt.and el (Evt.and ep e1))).mono fun n ⟨a,b,p,x⟩ => ?_
   refine stO _ a (stO _ rfl (stO _ (Qkl c.k (by omega) k2) (stC rfl (stO _ rfl (stO _ b (stO _ rfl (stF rfl ?_)))))))
   rw [QdZ]
   refine stO _ p (stO _ rfl (stT rfl (stO _ rfl (stC (decT (by (simp only [List.length_append, List.length_cons, List.length_nil]; omega))) (stO _ x (stO _ rfl (stC (decT (by (simp only [List.length_append, List.length_cons, List.length_nil]; omega))) ?_)))))))
   rw [List.append_assoc]
  | false =>
   rw [hp] at ep
   by_cases h8:c.k = 8
   ·have e1 := QmM lb c.a
    have e2 := QmM lb c.b
    have q1 := QhJ c.a
    have q2 := QhJ c.b
    rw [et,Qlu h8,show Lib.joinTail [32] [clkS c.a,clkS c.b] = [32] ++ clkS c.a ++ [32] ++ clkS c.b by simp [Lib.joinTail]]
    refine (ew.and (Evt.and el (Evt.and ep (Evt.and e1 e2)))).mono fun n ⟨a,b,p,x,y⟩ => ?_
    refine stO _ a (stO _ rfl (stO _ (Qkl c.k (by omega) k2) (stC rfl (stO _ rfl (stO _ b (stO _ rfl (stF rfl ?_)))))))
    rw [QdZ]
    refine stO _ p (stO _ rfl (stF rfl (stT (beqT h8) (stO _ rfl (stC (decT (by (simp only [List.length_append, List.length_cons, List.length_nil]; omega))) (stO _ x (stO _ rfl (stC (decT (by (simp only [List.length_append, List.length_cons, List.length_nil]; omega))) (stC (decT (by (simp only [List.length_append, List.length_cons, List.length_nil]; omega))) (stO _ y (stO _ rfl (stC (decT (by (simp only [List.length_append, List.length_cons, List.length_nil]; omega))) ?_))))))))))))
    simp
   ·by_cases hn:nums c.k > 0
    ·obtain ⟨a0,a1,b0,_⟩ := QdX hc.1 hn
     have hct:c.t = [] := z2 (by
      unfold nums at hn; unfold isc
      rw [Bool.or_eq_false_iff,Bool.or_eq_false_iff]
      simp only [beq_eq_false_iff_ne]
      split at hn
      ·omega
      ·split at hn <;> omega)
     have hcc:isc c.k = false := by
      unfold nums at hn; unfold isc
      rw [Bool.or_eq_false_iff,Bool.or_eq_false_iff]
      simp only [beq_eq_false_iff_ne]
      split at hn
      ·omega
      ·split at hn <;> omega
     have e1 := Qhh lb c.a (by omega) (by omega)
     have q1 := Qdp (z := c.a) (by omega) (by omega)
     have hl0:((scv c.t).length:Int) = 0 := by rw [hct]; rfl
     by_cases hn1:nums c.k > 1
     ·have b0 := b0 hn1
      have e2 := Qhh lb c.b (by omega) (by omega)
      have q2 := Qdp (z := c.b) (by omega) (by omega)
      rw [et,QeO hp hcc h8,if_pos hn1,show Lib.joinTail [32] [Lib.itoa c.a,Lib.itoa c.b] = [32] ++ Lib.itoa c.a ++ [32] ++ Lib.itoa c.b by simp [Lib.joinTail]]
      refine (ew.and (Evt.and el (Evt.and ep (Evt.and en (Evt.and e1 (Evt.and e2 (Evt.ge 1))))))).mono fun n ⟨a,b,p,m,x,y,hn2⟩ => ?_
      obtain ⟨n,rfl⟩ : ∃ j,n = j + 1 := ⟨n - 1,by omega⟩
      refine stO _ a (stO _ rfl (stO _ (Qkl c.k (by omega) k2) (stC rfl (stO _ rfl (stO _ b (stO _ rfl (stF rfl ?_)))))))
      rw [QdZ]
      refine stO _ p (stO _ rfl (stF rfl (stF (beqF h8) (stO _ m (stO _ (Qai ..) (stT (decT hn) (stO _ rfl (stC (decT (by (simp only [List.length_append, List.length_cons, List.length_nil]; omega))) (stO _ x (stO _ rfl (stC (decT (by (simp only [List.length_append, List.length_cons, List.length_nil]; omega))) ?_)))))))))))
      rw [QkY]
      refine stO _ m (stO _ (Qai ..) (stT (decT hn1) (stC (decT (by (simp only [List.length_append, List.length_cons, List.length_nil]; omega))) (stO _ y (stO _ rfl (stC (decT (by (simp only [List.length_append, List.length_cons, List.length_nil]; omega))) ?_))))))
      rw [QkW,Qi8]
      refine stF (decF (by omega)) ?_
      rw [QkV]
      simp
     ·rw [et,QeO hp hcc h8,if_neg hn1,if_pos hn,QvJ]
      refine (ew.and (Evt.and el (Evt.and ep (Evt.and en (Evt.and e1 (Evt.ge 1)))))).mono fun n ⟨a,b,p,m,x,hn2⟩ => ?_
      obtain ⟨n,rfl⟩ : ∃ j,n = j + 1 := ⟨n - 1,by omega⟩
      refine stO _ a (stO _ rfl (stO _ (Qkl c.k (by omega) k2) (stC rfl (stO _ rfl (stO _ b (stO _ rfl (stF rfl ?_)))))))
      rw [QdZ]
      refine stO _ p (stO _ rfl (stF rfl (stF (beqF h8) (stO _ m (stO _ (Qai ..) (stT (decT hn) (stO _ rfl (stC (decT (by (simp only [List.length_append, List.length_cons, List.length_nil]; omega))) (stO _ x (stO _ rfl (stC (decT (by (simp only [List.length_append, List.length_cons, List.length_nil]; omega))) ?_)))))))))))
      rw [QkY]
      refine stO _ m (stO _ (Qai ..) (stF (decF hn1) ?_))
      rw [QkW,Qi8]
      refine stF (decF (by omega)) ?_
      rw [QkV]
      simp
    ·have ht:c.args = c.t := by
      cases hcc:isc c.k with
      | true => exact Qkd hcc
      | false => rw [QeO hp hcc h8,if_neg (by omega),if_neg hn,z2 hcc]
     rw [et,ht] at hlen
     rw [et,ht]
     refine (ew.and (Evt.and el (Evt.and ep (Evt.and en (Evt.ge (c.t.length + 1)))))).mono fun n ⟨a,b,p,m,hn2⟩ => ?_
     refine stO _ a (stO _ rfl (stO _ (Qkl c.k (by omega) k2) (stC rfl (stO _ rfl (stO _ b (stO _ rfl (stF rfl ?_)))))))
     rw [QdZ]
     refine stO _ p (stO _ rfl (stF rfl (stF (beqF h8) (stO _ m (stO _ (Qai ..) (stF (decF hn) ?_))))))
     rw [Qrc]
     refine stO _ m (stO _ (Qai ..) (stF (decF (by omega)) ?_))
     rw [Qqt]
     have := Qz9 lb c hlen (.str (kwd c.k)) (.list false (scv kws)) [.str (kwd c.k)] n c.t [] rfl n (by omega)
     rw [show kwd c.k ++ Lib.joinTail [32] [] = kwd c.k by simp [Lib.joinTail]] at this
     exact this
theorem Qm3 (c:Cd) (hf:Fits c) (hs:tsz c ≤ 1000000) (hw:QcT c = 0 → (wrC c).length ≤ 100000000):Ret lb Qie [cdv c] (.tup [.str (prV c).1, .int .i64 (prV c).2]) := by
 refine .top rfl (.eq (fun n => by rw [QuT]) ?_)
 have e0 := Qt5 lb c hf hs
 unfold prV
 by_cases h0:QcT c ≠ 0
 ·rw [if_pos h0]
  exact e0.mono fun n a => stO _ a (stO _ (Qai ..) (stT (bneT h0) rfl))
 rw [if_neg h0]
 have h0 := Classical.byContradiction h0
 obtain ⟨_,hp,_⟩ := QeZ hs h0
 have e1 := Qum lb c ⟨hp,hw h0⟩
 by_cases h1:((wrC c).length:Int) > 65536
 ·rw [if_pos h1]
  exact Evt.imp2 e0 e1 fun n a b => stO _ a (stO _ (Qai ..) (stF (bneF h0) (stO _ b (stO _ rfl (stT (decT h1) rfl)))))
 ·rw [if_neg h1]
  exact Evt.imp2 e0 e1 fun n a b => stO _ a (stO _ (Qai ..) (stF (bneF h0) (stO _ b (stO _ rfl (stF (decF h1) rfl)))))
end Go.Proofs
set_option linter.unusedVariables false
set_option linter.unusedSimpArgs false
set_option maxRecDepth 100000
namespace Go.Proofs
open Go.Am
variable (lb:Nat)
theorem QAo:some (.tup [Qmz (8,1320,359), .bool true]) = some (Quy (Qca 17 [104,111,117,114,32,50,50,58,48,48,32,48,53,58,53,57])) := by kernel_rfl
theorem QBT:some (.tup [Qmz (1,0,0), .bool true]) = some (Quy (Qca 4 [97,108,108])) := by kernel_rfl
theorem QtV (s:Bs) (hs:s.length < 800000):Ret (lb + 2) Qf4 [.str s] (Quy (Qca (s.length + 1) s)) := by
 cases ht:Qjz s with
 | none => exact Qun lb s hs ht
 | some x =>
  refine .lib (s := QdO) rfl ?_
  simp only [QdO,ht]
  unfold Qjz at ht
  split at ht
  ·rename_i e
   obtain rfl := Option.some.inj ht
   subst e
   exact QAo
  split at ht
  ·rename_i e
   obtain rfl := Option.some.inj ht
   subst e
   exact QBT
  ·cases ht
def Has (s:Bs) (c:Cd):Prop := QcT c = 0 ∧ tsz c ≤ 1000000 ∧ wrC c = s
def Qjr (c:Cd):Prop := tsz c ≤ 1000000 ∧ Sm 70000 70000 c
def parV (o:Option Cd):CV := match o with
 | some c => .tup [cdv c, .int .i64 0]
 | none => .tup [cdv (mkL 0 0 0 0 0 0 true []), .int .i64 3]
def QqE (s:Bs) (o:Option Cd):Prop := (∀ c,o = some c → Has s c ∧ Qjr c) ∧ (o = none → ∀ c, ¬ Has s c) ∧ ∀ c c',o = some c → Has s c' → Qbe c c' = true
theorem QzK {s:Bs} {c:Cd} (hs:s.length ≤ 65536) (h:Has s c):prV c = (s,0) := by
 unfold prV
 rw [if_neg (fun e => e h.1),h.2.2,if_neg (by omega)]
theorem Qza {s:Bs} {c:Cd} (ht:tsz c ≤ 1000000) (h:prV c = (s,0)):Has s c := by
 unfold prV at h
 split at h
 ·rename_i q; exact absurd (congrArg Prod.snd h) q
 rename_i q
 split at h
 ·exact absurd (show (4:Int) = 0 from congrArg Prod.snd h) (by decide)
 ·exact ⟨Classical.byContradiction q,ht,congrArg Prod.fst h⟩
theorem Qvy {s:Bs} {a b:Cd} (ht:tsz a ≤ 1000000) (h:Qbe a b = true) (hb:Has s b):Has s a := ⟨(QyF h).trans hb.1,ht,(QBL a b h).trans hb.2.2⟩
theorem Qws {c:Cd} (h:Qjr c) (hc:QcT c = 0):(wrC c).length ≤ 100000000 := by
 obtain ⟨h1,h2,_⟩ := QeZ h.1 hc
 have := QzQ c h2 h.2
 have:(4 * 70000 + 100) * tsz c ≤ (4 * 70000 + 100) * 128 := Nat.mul_le_mul_left _ h1
 omega
theorem Qq0 {c:Cd} (h:Qjr c):Fits c := QBy (by decide) (by decide) c h.2
theorem QsM {c:Cd} (h:Qjr c):Big c := QxH (by decide) (by decide) c h.2
theorem Qje {s:Bs} {c:Cd} {r:Bs} (hs:s.length ≤ 65536) (h:Fine 65536 s c r):Qjr c := ⟨by have := h.1; omega,QxH (by decide) (by decide) c h.2⟩
def QqB (s:Bs):Option Cd := match Qca (s.length + 1) s with
 | some (x,[]) => if prV x = (s,0) then some x else none
 | _ => none
theorem QzJ (s:Bs) (hs:s.length ≤ 65536):QqE s (QqB s) := by
 have there:∀ c,Has s c → ∃ x,Qca (s.length + 1) s = some (x,[]) ∧ Qbe x c = true := fun c h => by
  obtain ⟨h1,h2,_⟩ := QeZ h.2.1 h.1
  obtain ⟨x,hx,hsx⟩ := Qyq c h2 (s.length + 1) [] (.inl rfl) (by rw [h.2.2]; omega)
  rw [List.append_nil,h.2.2] at hx
  exact ⟨x,hx,hsx⟩
 unfold QqB
 cases hp:Qca (s.length + 1) s with
 | none =>
  refine ⟨fun c e => (by cases e),fun _ c h => ?_,fun c c' e => (by cases e)⟩
  obtain ⟨x,hx,_⟩ := there c h
  rw [hp] at hx; cases hx
 | some q =>
  obtain ⟨x,r⟩ := q
  have hf := Qje hs (Qk3 _ _ _ hs hp)
  cases r with
  | cons a b =>
   refine ⟨fun c e => (by cases e),fun _ c h => ?_,fun c c' e => (by cases e)⟩
   obtain ⟨y,hy,_⟩ := there c h
   rw [hp] at hy; cases hy
  | nil =>
   dsimp only
   have key:∀ c,Has s c → Qbe x c = true := fun c h => by
    obtain ⟨y,hy,hsy⟩ := there c h
    rw [hp] at hy
    simp only [Option.some.injEq,Prod.mk.injEq,and_true] at hy
    rw [hy]; exact hsy
   by_cases hq:prV x = (s,0)
   ·rw [if_pos hq]
    refine ⟨fun c e => ?_,fun e => (by cases e),fun c c' e h => ?_⟩
    ·obtain rfl := Option.some.inj e
     exact ⟨Qza hf.1 hq,hf⟩
    ·obtain rfl := Option.some.inj e
     exact key c' h
   ·rw [if_neg hq]
    refine ⟨fun c e => (by cases e),fun _ c h => hq ?_,fun c c' e => (by cases e)⟩
    exact QzK hs (Qvy hf.1 (key c h) h)
theorem Qxq {p:Bs × Int} {s:Bs} (h:¬ p = (s,0)) (h2:p.2 = 0):¬ p.1 = s := fun e => h (by rw [← e, ← h2])
theorem Qr4 (s:Bs) (hs:s.length ≤ 65536):Ret (lb + 2) QjE [.str s] (parV (QqB s)) := by
 refine .top rfl (.eq (fun n => by rw [Quj]) ?_)
 have e1 := QtV lb s (by omega)
 unfold QqB
 cases hp:Qca (s.length + 1) s with
 | none =>
  rw [hp] at e1
  exact e1.mono fun n a => stF (decF (by omega)) (stO _ a (stO _ rfl (stO _ rfl (stO _ rfl (stO _ rfl (stO _ rfl (stC rfl (stO _ rfl (stO _ rfl (stO _ rfl (stO _ rfl (stO _ rfl (stO _ rfl (stO _ rfl (stO _ rfl (stO _ rfl (stT rfl rfl)))))))))))))))))
 | some q =>
  obtain ⟨x,r⟩ := q
  rw [hp] at e1
  have hf := Qje hs (Qk3 _ _ _ hs hp)
  cases r with
  | cons a b =>
   exact e1.mono fun n a => stF (decF (by omega)) (stO _ a (stO _ rfl (stO _ rfl (stO _ rfl (stO _ rfl (stO _ rfl (stC rfl (stO _ rfl (stO _ rfl (stO _ rfl (stO _ rfl (stO _ rfl (stO _ rfl (stO _ rfl (stO _ rfl (stO _ rfl (stT rfl rfl)))))))))))))))))
  | nil =>
   dsimp only
   have e2 := Qlv (lb + 2) x (Qq0 hf) hf.1 (Qws hf)
   refine Evt.imp2 e1 e2 fun n a b => stF (decF (by omega)) (stO _ a (stO _ rfl (stO _ rfl (stO _ rfl (stO _ rfl (stO _ rfl (stC rfl (stO _ rfl (stO _ rfl (stO _ rfl (stO _ rfl (stO _ rfl (stO _ rfl (stO _ rfl (stO _ rfl (stO _ rfl (stF rfl (stO _ b (stO _ rfl (stO _ rfl (stO _ rfl (stO _ rfl (stO _ (Qai ..) ?_)))))))))))))))))))))))
   by_cases hq:prV x = (s,0)
   ·rw [if_pos hq]
    have h1:(prV x).1 = s := by rw [hq]
    have h2:(prV x).2 = 0 := by rw [hq]
    exact stF (bneF h2) (stO _ rfl (stF (beqS h1) rfl))
   ·rw [if_neg hq]
    by_cases h2:(prV x).2 = 0
    ·exact stF (bneF h2) (stO _ rfl (stT (bneS (Qxq hq h2)) rfl))
    ·exact stT (bneT h2) rfl
def QqF (s:Bs):Option Cd := match Qch 8 s with
 | (x,some []) => if prV x = (s,0) then some x else none
 | _ => none
theorem Qzh (s:Bs) (hs:s.length ≤ 65536):QqE s (QqF s) := by
 have there:∀ c,Has s c → ∃ x,Qch 8 s = (x,some []) ∧ Qbe x c = true := fun c h => by
  obtain ⟨h1,h2,h3⟩ := QeZ h.2.1 h.1
  obtain ⟨x,hx,hsx⟩ := QxU c h2 h.2.1 8 [] (.inl rfl) (by omega)
  rw [List.append_nil,h.2.2] at hx
  exact ⟨x,hx,hsx⟩
 unfold QqF
 rcases hp:Qch 8 s with ⟨x,o⟩
 cases o with
 | none =>
  refine ⟨fun c e => (by cases e),fun _ c h => ?_,fun c c' e => (by cases e)⟩
  obtain ⟨y,hy,_⟩ := there c h
  rw [hp] at hy; cases hy
 | some r =>
  have hf:Qjr x := by
   have := Qn9 (B := 65536) 8 s r hs (by rw [hp])
   rw [hp] at this
   exact Qje hs this
  cases r with
  | cons a b =>
   refine ⟨fun c e => (by cases e),fun _ c h => ?_,fun c c' e => (by cases e)⟩
   obtain ⟨y,hy,_⟩ := there c h
   rw [hp] at hy; cases hy
  | nil =>
   dsimp only
   have key:∀ c,Has s c → Qbe x c = true := fun c h => by
    obtain ⟨y,hy,hsy⟩ := there c h
    rw [hp] at hy
    simp only [Prod.mk.injEq,and_true] at hy
    rw [hy]; exact hsy
   by_cases hq:prV x = (s,0)
   ·rw [if_pos hq]
    refine ⟨fun c e => ?_,fun e => (by cases e),fun c c' e h => ?_⟩
    ·obtain rfl := Option.some.inj e
     exact ⟨Qza hf.1 hq,hf⟩
    ·obtain rfl := Option.some.inj e
     exact key c' h
   ·rw [if_neg hq]
    refine ⟨fun c e => (by cases e),fun _ c h => hq ?_,fun c c' e => (by cases e)⟩
    exact QzK hs (Qvy hf.1 (key c h) h)
theorem Qug (s:Bs) (hs:s.length ≤ 65536):Ret (lb + 1) Qlr [.str s] (parV (QqF s)) := by
 refine .top rfl (.eq (fun n => by rw [Qwm]) ?_)
 have e1 := QuW lb s (by omega)
 unfold QqF
 rcases hp:Qch 8 s with ⟨x,o⟩
 rw [hp] at e1
 cases o with
 | none =>
  exact e1.mono fun n a => stF (decF (by omega)) (stO _ a (stO _ rfl (stO _ rfl (stO _ rfl (stO _ rfl (stO _ rfl (stC rfl (stO _ rfl (stO _ rfl (stO _ rfl (stO _ rfl (stO _ rfl (stO _ rfl (stO _ rfl (stO _ rfl (stO _ (Qai ..) (stT (bneT (by rw [QAz]; omega)) rfl)))))))))))))))))
 | some r =>
  have hf:Qjr x := by
   have := Qn9 (B := 65536) 8 s r hs (by rw [hp])
   rw [hp] at this
   exact Qje hs this
  have hsuf:r.length ≤ s.length := (Qqh 8 s r (by rw [hp])).len
  cases r with
  | cons a b =>
   simp only [List.length_cons] at hsuf
   exact e1.mono fun n a => stF (decF (by omega)) (stO _ a (stO _ rfl (stO _ rfl (stO _ rfl (stO _ rfl (stO _ rfl (stC rfl (stO _ rfl (stO _ rfl (stO _ rfl (stO _ rfl (stO _ rfl (stO _ rfl (stO _ rfl (stO _ rfl (stO _ (Qai ..) (stT (bneT (by rw [QhK,List.length_cons]; omega)) rfl)))))))))))))))))
  | nil =>
   dsimp only
   have e2 := Qm3 (lb + 1) x (Qq0 hf) hf.1 (Qws hf)
   refine Evt.imp2 e1 e2 fun n a b => stF (decF (by omega)) (stO _ a (stO _ rfl (stO _ rfl (stO _ rfl (stO _ rfl (stO _ rfl (stC rfl (stO _ rfl (stO _ rfl (stO _ rfl (stO _ rfl (stO _ rfl (stO _ rfl (stO _ rfl (stO _ rfl (stO _ (Qai ..) (stF (bneF (by rw [QhK,List.length_nil]; omega)) (stO _ b (stO _ rfl (stO _ rfl (stO _ rfl (stO _ rfl (stO _ (Qai ..) ?_)))))))))))))))))))))))
   by_cases hq:prV x = (s,0)
   ·rw [if_pos hq]
    have h1:(prV x).1 = s := by rw [hq]
    have h2:(prV x).2 = 0 := by rw [hq]
    exact stF (bneF h2) (stO _ rfl (stF (beqS h1) rfl))
   ·rw [if_neg hq]
    by_cases h2:(prV x).2 = 0
    ·exact stF (bneF h2) (stO _ rfl (stT (bneS (Qxq hq h2)) rfl))
    ·exact stT (bneT h2) rfl
def getC (o:Option Cd):Cd := o.getD (mkL 0 0 0 0 0 0 true [])
def errC (o:Option Cd):Int := match o with
 | some _ => 0
 | none => 3
theorem QBG (o:Option Cd):parV o = .tup [cdv (getC o), .int .i64 (errC o)] := by cases o <;> rfl
theorem Qyn {s:Bs} {a b:Option Cd} (ha:QqE s a) (hb:QqE s b):Qbe (getC a) (getC b) = true ∧ errC a = errC b := by
 cases a with
 | none =>
  cases b with
  | none => exact ⟨Qx1 _,rfl⟩
  | some y => exact absurd (hb.1 y rfl).1 (ha.2.1 rfl y)
 | some x =>
  cases b with
  | none => exact absurd (ha.1 x rfl).1 (hb.2.1 rfl x)
  | some y => exact ⟨ha.2.2 x y rfl (hb.1 y rfl).1,rfl⟩
theorem Qs6 {s:Bs} {a:Option Cd} (ha:QqE s a):Big (getC a) ∧ Qjr (getC a) := by
 cases a with
 | none => 
  have h:Qjr (mkL 0 0 0 0 0 0 true []) := ⟨by decide,(QgV _).2 ⟨by decide,fun x hx => (by cases hx),by decide,fun s hs => (by cases hs)⟩⟩
  exact ⟨QsM h,h⟩
 | some x => exact ⟨QsM (ha.1 x rfl).2,(ha.1 x rfl).2⟩
theorem QzB {c:Cd} (hf:Fits c) (hl:lgC c = false) (hc:QcT c = 0):(wrC c).length ≤ 100000000 := by
 obtain ⟨h1,h2,_⟩ := QeZ (by have := (QmF c hf hl).2; omega) hc
 have := QzQ c h2 (QCo c ⟨hf,hl⟩)
 have:(4 * 400 + 100) * tsz c ≤ (4 * 400 + 100) * 128 := Nat.mul_le_mul_left _ h1
 omega
theorem Qt1 (c:Cd) (s:Bs) (hf:Fits c):Ret (lb + 2) Qk7 [cdv c, .str s] (.bool true) := by
 refine .top rfl (.eq (fun n => by rw [QpZ]) ?_)
 have k := QxW lb
 have e1 := QtY (lb + 2) c hf
 cases hl:lgC c with
 | true =>
  rw [hl] at e1
  exact Evt.imp2 e1 k fun n x y => stO _ x (stO _ rfl (stT rfl (stO _ y rfl)))
 | false =>
  rw [hl] at e1
  by_cases h4:(s.length:Int) > 4000
  ·exact Evt.imp2 e1 k fun n x y => stO _ x (stO _ rfl (stF rfl (stT (decT h4) (stO _ y rfl))))
  have hs:s.length ≤ 65536 := by omega
  have ht:tsz c ≤ 1000000 := by have := (QmF c hf hl).2; omega
  have p1 := Qlv (lb + 2) c hf ht (QzB hf hl)
  have p2 := Qm3 (lb + 2) c hf ht (QzB hf hl)
  have q1 := Qr4 lb s hs
  have q2 := Qug (lb + 1) s hs
  have f1 := QzJ s hs
  have f2 := Qzh s hs
  obtain ⟨s1,s2⟩ := Qyn f1 f2
  have sm := Qvg (lb + 2) _ _ (Qs6 f1).1 (Qs6 f2).1
  rw [s1] at sm
  rw [QBG] at q1 q2
  exact Evt.imp2 (Evt.and e1 k) (Evt.and (Evt.and p1 p2) (Evt.and (Evt.and q1 q2) sm)) fun n ⟨x,y⟩ ⟨⟨a,b⟩,⟨d,e⟩,f⟩ =>
   stO _ x (stO _ rfl (stF rfl (stF (decF h4) (stO _ a (stO _ rfl (stO _ rfl (stO _ rfl (stO _ rfl (stO _ b (stO _ rfl (stO _ rfl (stO _ rfl (stO _ rfl
    (stO _ d (stO _ rfl (stO _ rfl (stO _ rfl (stO _ rfl (stO _ rfl (stC rfl (stO _ rfl (stO _ rfl (stO _ rfl (stO _ rfl (stO _ rfl (stO _ rfl (stO _ rfl (stO _ rfl
    (stO _ e (stO _ rfl (stO _ rfl (stO _ rfl (stO _ rfl (stO _ rfl (stC rfl (stO _ rfl (stO _ rfl (stO _ rfl (stO _ rfl (stO _ rfl (stO _ rfl (stO _ rfl (stO _ rfl
    (stO _ rfl (stO _ rfl (stT (by simp) (stO _ (Qai ..) (stO _ (Qai ..) (stT (beqT rfl) (stO _ f (stO _ rfl (stT rfl (stO _ (Qai ..) (stO _ (Qai ..) (stT (beqT s2) (stO _ y rfl))))))))))))))))))))))))))))))))))))))))))))))))))))))))
end Go.Proofs
