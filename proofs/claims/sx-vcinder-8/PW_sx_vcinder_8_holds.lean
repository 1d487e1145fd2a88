import PyProof.Rows.All
import PyProof.Rows.News
import PyProof.CompFree
import PyProof.ListOps
import PyProof.TupleOps
import PyProof.DictStraight
import PyProof.Rows.TupSub
import PyProof.DefCall
import PyProof.Cells
import PyProof.Rows.RowBridgeG
import PyProof.Rows.ListMul
import PyProof.Rows.Lst
import PyProof.Rows.RuleB_floordiv
import PyProof.Rows.RuleB_mod
import PyProof.Rows.RuleB_mul
import PyProof.Rows.RuleU_int
import PyProof.Rows.RuleC_int
import PyProof.Rows.RuleC_bool
import PyProof.Rows.RuleN_abs
import PyProof.Rows.IntRules
import PyProof.EqAt
import PyProof.Rules3
import PyProof.NeKinds
import PyProof.EqKinds
import PyProof.DictRoads
import PyProof.Rules2
import PyProof.ListCopy
import PyProof.SliceMore
import PyProof.Rows.StrTemp
import PyProof.PvWalk
import PyProof.SeqI
import PyProof.DictCalls
import PyProof.RangeFor
import PyProof.WalksMore
import PyProof.WalksPairs
import PyProof.ForAny
import PyProof.TupleIter
import KE.KItem
import PyProof.FactsAll.list
import PyProof.FactsAll.dict
import PyProof.Plain
import PyProof.AttrMissSeq
import PyProof.Rows.Top
import PyProof.Rows.SeqGenD
import PyProof.TypeOfCall
import PyProof.IsRules
import Wide.All
import OpenK.AllK
import Wide.FinOn
import PySem.Challenge.RW_sx_vcinder_8
set_option Elab.async false
/-! ## part A0 -/
set_option linter.unusedVariables false
/-! two lists, item by item; steps of a computation that may fail -/
namespace Mine
set_option genSizeOf false
set_option genInjectivity false
inductive All2 {α β : Type} (R : α → β → Prop) : List α → List β → Prop
  | nil : All2 R [] []
  | cons {a : α} {b : β} {as : List α} {bs : List β} : R a b → All2 R as bs → All2 R (a :: as) (b :: bs)
theorem nil_at {α : Type} {i : Nat} {a : α} (h : ([] : List α)[i]? = some a) : False := by simp at h
namespace All2
variable {α β : Type} {R S : α → β → Prop} {as cs : List α} {bs ds : List β}
theorem mono (h : ∀ a b, R a b → S a b) (r : All2 R as bs) : All2 S as bs := by
  induction r with
  | nil => exact .nil
  | cons a _ ih => exact .cons (h _ _ a) ih
theorem length (r : All2 R as bs) : as.length = bs.length := by
  induction r with
  | nil => rfl
  | cons _ _ ih => exact congrArg Nat.succ ih
theorem append (r : All2 R as bs) (k : All2 R cs ds) : All2 R (as ++ cs) (bs ++ ds) := by
  induction r with
  | nil => exact k
  | cons a _ ih => exact .cons a ih
theorem get (r : All2 R as bs) : ∀ {i : Nat} {a : α}, as[i]? = some a → ∃ b, bs[i]? = some b ∧ R a b := by
  induction r with
  | nil => exact fun h => (nil_at h).elim
  | cons r _ ih => intro i a h; cases i with
    | zero => exact ⟨_, rfl, Option.some.inj h ▸ r⟩
    | succ i => exact ih h
theorem swap (r : All2 R as bs) : All2 (fun b a => R a b) bs as := by
  induction r with
  | nil => exact .nil
  | cons a _ ih => exact .cons a ih
theorem getR (r : All2 R as bs) {i : Nat} {b : β} (h : bs[i]? = some b) : ∃ a, as[i]? = some a ∧ R a b := r.swap.get h
theorem set (r : All2 R as bs) : ∀ (i : Nat) {a : α} {b : β}, R a b → All2 R (as.set i a) (bs.set i b) := by
  induction r with
  | nil => exact fun _ _ _ _ => .nil
  | cons r rs ih => intro i a b h; cases i with
    | zero => exact .cons h rs
    | succ i => exact .cons r (ih i h)
theorem drop (r : All2 R as bs) : ∀ i : Nat, All2 R (as.drop i) (bs.drop i) := by
  induction r with
  | nil => intro i; rw [List.drop_nil, List.drop_nil]; exact .nil
  | cons r rs ih => intro i; cases i with
    | zero => exact .cons r rs
    | succ i => exact ih i
theorem take (r : All2 R as bs) : ∀ i : Nat, All2 R (as.take i) (bs.take i) := by
  induction r with
  | nil => intro i; rw [List.take_nil, List.take_nil]; exact .nil
  | cons r rs ih => intro i; cases i with
    | zero => exact .nil
    | succ i => exact .cons r (ih i)
theorem mem (r : All2 R as bs) {b : β} (h : b ∈ bs) : ∃ a, a ∈ as ∧ R a b := by
  obtain ⟨i, h⟩ := List.mem_iff_getElem?.mp h
  obtain ⟨a, e, q⟩ := r.getR h
  exact ⟨a, List.mem_of_getElem? e, q⟩
theorem map {γ : Type} (g : γ → β) (f : γ → α) (h : ∀ c, R (f c) (g c)) (cs : List γ) : All2 R (cs.map f) (cs.map g) := by
  induction cs with
  | nil => exact .nil
  | cons c _ ih => exact .cons (h c) ih
theorem head {a : α} {b : β} (r : All2 R (a :: as) (b :: bs)) : R a b := by cases r with | cons h _ => exact h
theorem tail {a : α} {b : β} (r : All2 R (a :: as) (b :: bs)) : All2 R as bs := by cases r with | cons _ h => exact h
theorem unL {b : β} (r : All2 R as (b :: bs)) : ∃ a as', as = a :: as' ∧ R a b ∧ All2 R as' bs := by cases r with | cons h k => exact ⟨_, _, rfl, h, k⟩
theorem unN (r : All2 R as []) : as = [] := by cases r; rfl
end All2
theorem bI {α β : Type} {x : Option α} {f : α → Option β} {a : α} {r : Option β} (h : x = some a) (k : f a = r) : (x >>= f) = r := by subst h; exact k
theorem bE {α β : Type} {x : Option α} {f : α → Option β} {r : β} (h : (x >>= f) = some r) : ∃ a, x = some a ∧ f a = some r := by
  cases x with
  | none => cases h
  | some a => exact ⟨a, rfl, h⟩
theorem iE {α : Type} {c : Prop} [Decidable c] {x : Option α} {r : α} (h : (if c then x else none) = some r) : c ∧ x = some r := by
  by_cases hc : c
  · rw [if_pos hc] at h; exact ⟨hc, h⟩
  · rw [if_neg hc] at h; cases h
theorem len0 {α : Type} {l : List α} (h : l.length = 0) : l = [] := List.eq_nil_of_length_eq_zero h
theorem lenS {α : Type} {n : Nat} {l : List α} (h : l.length = n + 1) : ∃ a t, l = a :: t ∧ t.length = n := by
  cases l with
  | nil => cases h
  | cons a t => exact ⟨a, t, rfl, Nat.succ.inj h⟩
theorem len1 {α : Type} {l : List α} (h : l.length = 1) : ∃ a, l = [a] := by
  obtain ⟨a, t, e, k⟩ := lenS h
  exact ⟨a, by rw [e, len0 k]⟩
theorem len2 {α : Type} {l : List α} (h : l.length = 2) : ∃ a b, l = [a, b] := by
  obtain ⟨a, t, e, k⟩ := lenS h
  obtain ⟨b, e'⟩ := len1 k
  exact ⟨a, b, by rw [e, e']⟩
theorem len3 {α : Type} {l : List α} (h : l.length = 3) : ∃ a b c, l = [a, b, c] := by
  obtain ⟨a, t, e, k⟩ := lenS h
  obtain ⟨b, c, e'⟩ := len2 k
  exact ⟨a, b, c, by rw [e, e']⟩
theorem len4 {α : Type} {l : List α} (h : l.length = 4) : ∃ a b c d, l = [a, b, c, d] := by
  obtain ⟨a, t, e, k⟩ := lenS h
  obtain ⟨b, c, d, e'⟩ := len3 k
  exact ⟨a, b, c, d, by rw [e, e']⟩
theorem len5 {α : Type} {l : List α} (h : l.length = 5) : ∃ a b c d x, l = [a, b, c, d, x] := by
  obtain ⟨a, t, e, k⟩ := lenS h
  obtain ⟨b, c, d, x, e'⟩ := len4 k
  exact ⟨a, b, c, d, x, by rw [e, e']⟩
end Mine

/-! ## part A1 -/
/-! the mini machine: values, ledger, combinators -/
namespace Mine

inductive V where
  | none | bool (b : Bool) | int (i : Int) | ref (k : Nat)
deriving DecidableEq

inductive O where
  | list (xs : List V) | tup (xs : List V) | dict (es : List (Int × V))
deriving DecidableEq

noncomputable abbrev Led := List O
noncomputable abbrev Vars := List (Option V)
noncomputable abbrev Ex := Vars → Led → Option (V × Led)
noncomputable abbrev Te := Vars → Led → Option (Bool × Led)
inductive Fl where
  | next | ret (v : V)
noncomputable abbrev Stm := Nat → Vars → Led → Option (Fl × Vars × Led)
noncomputable abbrev Fn := List V → Led → Option (V × Led)

/-- the line on sizes -/
noncomputable def big : Nat := 100000

noncomputable def getV (vs : Vars) (i : Nat) : Option V := vs[i]?.join

noncomputable def xVar (i : Nat) : Ex := fun vs Λ => (getV vs i).map fun v => (v, Λ)
noncomputable def xInt (n : Int) : Ex := fun _ Λ => some (.int n, Λ)
noncomputable def xBool (b : Bool) : Ex := fun _ Λ => some (.bool b, Λ)
noncomputable def xNone : Ex := fun _ Λ => some (.none, Λ)
noncomputable def xRef (k : Nat) : Ex := fun _ Λ => some (.ref k, Λ)

noncomputable def alloc (o : O) (Λ : Led) : V × Led := (.ref Λ.length, Λ ++ [o])

noncomputable def asList (Λ : Led) : V → Option (List V)
  | .ref k => match Λ[k]? with
    | some (.list xs) => some xs
    | _ => none
  | _ => none
noncomputable def asTup (Λ : Led) : V → Option (List V)
  | .ref k => match Λ[k]? with
    | some (.tup xs) => some xs
    | _ => none
  | _ => none
noncomputable def asDict (Λ : Led) : V → Option (List (Int × V))
  | .ref k => match Λ[k]? with
    | some (.dict es) => some es
    | _ => none
  | _ => none
noncomputable def asInt : V → Option Int
  | .int i => some i
  | _ => none
noncomputable def asBool : V → Option Bool
  | .bool b => some b
  | _ => none

noncomputable def newList (xs : List V) (Λ : Led) : Option (V × Led) := if xs.length ≤ big then some (alloc (.list xs) Λ) else none

/-- binary operators -/
noncomputable def oAdd (a b : V) (Λ : Led) : Option (V × Led) := match a, b with
  | .int i, .int j => some (.int (i + j), Λ)
  | .ref j, .ref k => do newList ((← asList Λ (.ref j)) ++ (← asList Λ (.ref k))) Λ
  | _, _ => none
noncomputable def oSub (a b : V) (Λ : Led) : Option (V × Led) := match a, b with
  | .int i, .int j => some (.int (i - j), Λ)
  | _, _ => none
/-- an int times an int that is short (-2^62 < i < 2^62), or a list times an int -/
noncomputable def oMul (a b : V) (Λ : Led) : Option (V × Led) := match a, b with
  | .int i, .int j => if i = 2 then some (.int (i * j), Λ) else none
  | .ref j, .int n => do
    let xs ← asList Λ (.ref j)
    if xs.length = 1 ∧ -1000 ≤ n ∧ n ≤ 1000 then newList ((List.replicate n.toNat xs).flatten) Λ else none
  | _, _ => none
noncomputable def oDiv (a b : V) (Λ : Led) : Option (V × Led) := match a, b with
  | .int i, .int j => if 0 < j ∧ j < 1000 then some (.int (i / j), Λ) else none
  | _, _ => none
noncomputable def oMod (a b : V) (Λ : Led) : Option (V × Led) := match a, b with
  | .int i, .int j => if 0 < j then some (.int (i % j), Λ) else none
  | _, _ => none

noncomputable def xBin (op : V → V → Led → Option (V × Led)) (a b : Ex) : Ex := fun vs Λ => do
  let (x, Λ) ← a vs Λ
  let (y, Λ) ← b vs Λ
  op x y Λ
noncomputable def xNeg (a : Ex) : Ex := fun vs Λ => do
  let (x, Λ) ← a vs Λ
  some (.int (- (← asInt x)), Λ)
noncomputable def xAbs (a : Ex) : Ex := fun vs Λ => do
  let (x, Λ) ← a vs Λ
  some (.int ((← asInt x).natAbs : Int), Λ)

/-- comparisons -/
noncomputable def allEq (f : V → V → Option Bool) : List V → List V → Option Bool
  | [], [] => some true
  | x :: xs, y :: ys => do
    let b ← f x y
    let r ← allEq f xs ys
    some (b && r)
  | _, _ => some false
noncomputable def eqV (Λ : Led) : Nat → V → V → Option Bool
  | _, .int i, .int j => some (decide (i = j))
  | _, .bool b, .bool c => some (decide (b = c))
  | n + 1, .ref j, .ref k => match Λ[j]?, Λ[k]? with
    | some (.list xs), some (.list ys) => allEq (eqV Λ n) xs ys
    | some (.tup xs), some (.tup ys) => allEq (eqV Λ n) xs ys
    | _, _ => none
  | _, _, _ => none
noncomputable abbrev Cmp := V → V → Led → Option Bool
noncomputable def cEq : Cmp := fun a b Λ => eqV Λ 3 a b
noncomputable def cNe : Cmp := fun a b Λ => (eqV Λ 3 a b).map (!·)
noncomputable def cLt : Cmp := fun a b _ => do some (decide ((← asInt a) < (← asInt b)))
noncomputable def cGt : Cmp := fun a b _ => do some (decide ((← asInt a) > (← asInt b)))
noncomputable def cGe : Cmp := fun a b _ => do some (decide ((← asInt a) ≥ (← asInt b)))
noncomputable def allInts : List V → Option (List Int)
  | [] => some []
  | .int i :: r => (allInts r).map (i :: ·)
  | _ :: _ => none
noncomputable def mem? (a b : V) (Λ : Led) : Option Bool := match a, b with
  | .int i, .ref k => match Λ[k]? with
    | some (.list xs) => (allInts xs).map fun l => decide (i ∈ l)
    | some (.tup xs) => (allInts xs).map fun l => decide (i ∈ l)
    | some (.dict es) => some (decide (i ∈ es.map (·.1)))
    | none => none
  | _, _ => none
noncomputable def cIn : Cmp := mem?
noncomputable def cNotIn : Cmp := fun a b Λ => (mem? a b Λ).map (!·)
noncomputable def cIs : Cmp := fun a b _ => match b with
  | .none => some (decide (a = .none))
  | _ => none
noncomputable def xCmp (c : Cmp) (a b : Ex) : Ex := fun vs Λ => do
  let (x, Λ) ← a vs Λ
  let (y, Λ) ← b vs Λ
  some (.bool (← c x y Λ), Λ)

/-- tests -/
noncomputable def tOf (e : Ex) : Te := fun vs Λ => do
  let (x, Λ) ← e vs Λ
  some (← asBool x, Λ)
noncomputable def tNot (t : Te) : Te := fun vs Λ => do
  let (b, Λ) ← t vs Λ
  some (!b, Λ)
noncomputable def tAnd (t u : Te) : Te := fun vs Λ => do
  let (b, Λ) ← t vs Λ
  if b then u vs Λ else some (false, Λ)
noncomputable def tTrue : Te := fun _ Λ => some (true, Λ)
noncomputable def xIf (t : Te) (a b : Ex) : Ex := fun vs Λ => do
  let (c, Λ) ← t vs Λ
  if c then a vs Λ else b vs Λ

/-- several -/
noncomputable def xs_ : List Ex → Vars → Led → Option (List V × Led)
  | [], _, Λ => some ([], Λ)
  | e :: r, vs, Λ => do
    let (x, Λ) ← e vs Λ
    let (xs, Λ) ← xs_ r vs Λ
    some (x :: xs, Λ)
noncomputable def xTup (es : List Ex) : Ex := fun vs Λ => do
  let (xs, Λ) ← xs_ es vs Λ
  if xs.length ≤ big then some (alloc (.tup xs) Λ) else none
noncomputable def xList (es : List Ex) : Ex := fun vs Λ => do
  let (xs, Λ) ← xs_ es vs Λ
  newList xs Λ
noncomputable def xCall (f : Fn) (es : List Ex) : Ex := fun vs Λ => do
  let (xs, Λ) ← xs_ es vs Λ
  f xs Λ

noncomputable def lenV (Λ : Led) : V → Option Nat
  | .ref k => match Λ[k]? with
    | some (.list xs) => some xs.length
    | some (.tup xs) => some xs.length
    | _ => none
  | _ => none
noncomputable def xLen (a : Ex) : Ex := fun vs Λ => do
  let (x, Λ) ← a vs Λ
  let n ← lenV Λ x
  if n ≤ big then some (.int n, Λ) else none

noncomputable def idxV (Λ : Led) (a b : V) : Option V := match a, b with
  | .ref k, .int i => match Λ[k]? with
    | some (.list xs) => if 0 ≤ i ∧ i < 100000 then xs[i.toNat]? else none
    | some (.tup xs) => if 0 ≤ i ∧ i < 100000 then xs[i.toNat]? else none
    | some (.dict es) => es.lookup i
    | none => none
  | _, _ => none
noncomputable def xIdx (a i : Ex) : Ex := fun vs Λ => do
  let (x, Λ) ← a vs Λ
  let (j, Λ) ← i vs Λ
  some (← idxV Λ x j, Λ)

/-- slices with bounds that are 0 or more -/
noncomputable def natOf : V → Option Nat
  | .int i => if 0 ≤ i then some i.toNat else none
  | _ => none
noncomputable def partV (e : Option Ex) : Vars → Led → Option (Option Nat × Led) := fun vs Λ => match e with
  | some e => do
    let (v, Λ) ← e vs Λ
    some (some (← natOf v), Λ)
  | none => some (none, Λ)
noncomputable def cut (l h : Option Nat) (xs : List V) : List V := (match h with | some k => xs.take k | none => xs).drop (l.getD 0)
noncomputable def xSlice (a : Ex) (lo hi : Option Ex) : Ex := fun vs Λ => do
  let (x, Λ) ← a vs Λ
  let (l, Λ) ← partV lo vs Λ
  let (h, Λ) ← partV hi vs Λ
  let xs ← asList Λ x
  if xs.length ≤ big then newList (cut l h xs) Λ else none

noncomputable def xListOf (a : Ex) : Ex := fun vs Λ => do
  let (x, Λ) ← a vs Λ
  newList (← asList Λ x) Λ

/-- list(d.items()) -/
noncomputable def itemTups (es : List (Int × V)) : List O := es.map fun e => .tup [.int e.1, e.2]
noncomputable def xItems (a : Ex) : Ex := fun vs Λ => do
  let (x, Λ) ← a vs Λ
  let es ← asDict Λ x
  newList ((List.range es.length).map fun i => .ref (Λ.length + i)) (Λ ++ itemTups es)

/-- dict(pairs) -/
noncomputable def putD (k : Int) (v : V) : List (Int × V) → List (Int × V)
  | [] => [(k, v)]
  | (j, u) :: r => if j = k then (j, v) :: r else (j, u) :: putD k v r
noncomputable def asPair (Λ : Led) (x : V) : Option (Int × V) := match asTup Λ x with
  | some [.int k, v] => some (k, v)
  | _ => none
noncomputable def asPairs (Λ : Led) : List V → Option (List (Int × V))
  | [] => some []
  | x :: r => do
    let p ← asPair Λ x
    let ps ← asPairs Λ r
    some (p :: ps)
noncomputable def xDictOf (a : Ex) : Ex := fun vs Λ => do
  let (x, Λ) ← a vs Λ
  let ps ← asPairs Λ (← asList Λ x)
  if ps.length ≤ 1000 then some (alloc (.dict (ps.foldl (fun d p => putD p.1 p.2 d) [])) Λ) else none

/-- sorted(d), where the keys lie in order already -/
noncomputable def inOrder : List Int → Bool
  | a :: b :: r => decide (a < b) && inOrder (b :: r)
  | _ => true
noncomputable def xSorted (a : Ex) : Ex := fun vs Λ => do
  let (x, Λ) ← a vs Λ
  let es ← asDict Λ x
  if inOrder (es.map (·.1)) ∧ es.length ≤ 60 then newList (es.map fun e => .int e.1) Λ else none

/-- d.get(k, dflt) -/
noncomputable def xGet (a k dflt : Ex) : Ex := fun vs Λ => do
  let (x, Λ) ← a vs Λ
  let _ ← asDict Λ x
  let (j, Λ) ← k vs Λ
  let (y, Λ) ← dflt vs Λ
  let es ← asDict Λ x
  some ((es.lookup (← asInt j)).getD y, Λ)

/-- all(type(v) is int for v in xs) -/
noncomputable def xAllInt (a : Ex) : Ex := fun vs Λ => do
  let (x, Λ) ← a vs Λ
  let _ ← allInts (← asList Λ x)
  some (.bool true, Λ)

/-- what is iterated: items, and the object that must stand meanwhile -/
noncomputable abbrev Src := Vars → Led → Option (List V × Option Nat × Led)
noncomputable def sList (a : Ex) : Src := fun vs Λ => do
  let (x, Λ) ← a vs Λ
  match x with
  | .ref k => do
    let xs ← asList Λ (.ref k)
    if xs.length ≤ big then some (xs, some k, Λ) else none
  | _ => none
noncomputable def sRange (a : Ex) : Src := fun vs Λ => do
  let (x, Λ) ← a vs Λ
  let n ← asInt x
  if -1000 ≤ n ∧ n ≤ big then some ((List.range n.toNat).map fun (i : Nat) => V.int (i : Int), none, Λ) else none
noncomputable def stands (k? : Option Nat) (xs : List V) (Λ : Led) : Bool := match k? with
  | some k => decide (Λ[k]? = some (.list xs))
  | none => true

/-- comprehensions: mk lays the block's own variables -/
noncomputable def compGo (ok : Led → Bool) (t : Te) (elt : Ex) (mk : V → Vars) : List V → Led → Option (List V × Led)
  | [], Λ => if ok Λ then some ([], Λ) else none
  | v :: r, Λ => if ok Λ then do
      let (b, Λ) ← t (mk v) Λ
      if b then do
        let (x, Λ) ← elt (mk v) Λ
        let (xs, Λ) ← compGo ok t elt mk r Λ
        some (x :: xs, Λ)
      else compGo ok t elt mk r Λ
    else none
noncomputable def capsOf (caps : List Nat) (vs : Vars) : Vars := caps.map (getV vs)
noncomputable def xComp (caps : List Nat) (src : Src) (t : Te) (elt : Ex) : Ex := fun vs Λ => do
  let (items, k?, Λ) ← src vs Λ
  let (xs, Λ) ← compGo (stands k? items) t elt (fun v => some v :: capsOf caps vs) items Λ
  newList xs Λ
/-- two clauses: for p in src for j in src2 -/
noncomputable def comp2Go (ok : Led → Bool) (src2 : Src) (elt : Ex) (cs : Vars) : List V → Led → Option (List V × Led)
  | [], Λ => if ok Λ then some ([], Λ) else none
  | v :: r, Λ => if ok Λ then do
      let (items, k?, Λ) ← src2 (some v :: none :: cs) Λ
      let (xs, Λ) ← compGo (stands k? items) tTrue elt (fun u => some v :: some u :: cs) items Λ
      let (ys, Λ) ← comp2Go ok src2 elt cs r Λ
      some (xs ++ ys, Λ)
    else none
noncomputable def xComp2 (caps : List Nat) (src src2 : Src) (elt : Ex) : Ex := fun vs Λ => do
  let (items, k?, Λ) ← src vs Λ
  let (xs, Λ) ← comp2Go (stands k? items) src2 elt (capsOf caps vs) items Λ
  newList xs Λ

/-- statements -/
noncomputable def sPass : Stm := fun _ vs Λ => some (.next, vs, Λ)
noncomputable def sSeq (a b : Stm) : Stm := fun nb vs Λ => do
  match ← a nb vs Λ with
  | (.next, vs, Λ) => b nb vs Λ
  | r => some r
noncomputable def sAssign (i : Nat) (e : Ex) : Stm := fun _ vs Λ => do
  let (v, Λ) ← e vs Λ
  some (.next, vs.set i (some v), Λ)
noncomputable def sAppend (i : Nat) (e : Ex) : Stm := fun nb vs Λ => do
  match getV vs i with
  | some (.ref k) => do
    let _ ← asList Λ (.ref k)
    let (v, Λ) ← e vs Λ
    let xs ← asList Λ (.ref k)
    if nb ≤ k ∧ xs.length < big then some (.next, vs, Λ.set k (.list (xs ++ [v]))) else none
  | _ => none
noncomputable def sSetIdx (i : Nat) (ix e : Ex) : Stm := fun nb vs Λ => do
  let (v, Λ) ← e vs Λ
  match getV vs i with
  | some (.ref k) => do
    let (j, Λ) ← ix vs Λ
    let xs ← asList Λ (.ref k)
    let n ← natOf j
    if nb ≤ k ∧ n < xs.length ∧ n < 100000 then some (.next, vs, Λ.set k (.list (xs.set n v))) else none
  | _ => none
noncomputable def sIf (t : Te) (a b : Stm) : Stm := fun nb vs Λ => do
  let (c, Λ) ← t vs Λ
  if c then a nb vs Λ else b nb vs Λ
noncomputable def sRet (e : Ex) : Stm := fun _ vs Λ => do
  let (v, Λ) ← e vs Λ
  some (.ret v, vs, Λ)
/-- targets: a name, or two names out of a pair -/
noncomputable abbrev Asg := V → Vars → Led → Option Vars
noncomputable def aName (i : Nat) : Asg := fun v vs _ => some (vs.set i (some v))
noncomputable def aPair (i j : Nat) : Asg := fun v vs Λ => match asTup Λ v with
  | some [a, b] => some ((vs.set i (some a)).set j (some b))
  | _ => none
noncomputable def forGo (ok : Led → Bool) (asg : Asg) (body : Stm) (nb : Nat) : List V → Vars → Led → Option (Fl × Vars × Led)
  | [], vs, Λ => if ok Λ then some (.next, vs, Λ) else none
  | v :: r, vs, Λ => if ok Λ then do
      let vs ← asg v vs Λ
      match ← body nb vs Λ with
      | (.next, vs, Λ) => forGo ok asg body nb r vs Λ
      | (.ret x, vs, Λ) => some (.ret x, vs, Λ)
    else none
noncomputable def sFor (src : Src) (asg : Asg) (body : Stm) : Stm := fun nb vs Λ => do
  let (items, k?, Λ) ← src vs Λ
  forGo (stands k? items) asg body nb items vs Λ
noncomputable def whileGo (t : Te) (body : Stm) (nb : Nat) : Nat → Vars → Led → Option (Fl × Vars × Led)
  | 0, _, _ => none
  | n + 1, vs, Λ => do
    let (c, Λ) ← t vs Λ
    if c then
      match ← body nb vs Λ with
      | (.next, vs, Λ) => whileGo t body nb n vs Λ
      | (.ret x, vs, Λ) => some (.ret x, vs, Λ)
    else some (.next, vs, Λ)
noncomputable def sWhile (fuel : Nat) (t : Te) (body : Stm) : Stm := fun nb vs Λ => whileGo t body nb fuel vs Λ

/-- a def of np parameters and n names, the first are its parameters -/
noncomputable def def_ (np n : Nat) (body : Stm) : Fn := fun args Λ => if args.length = np then do
  match ← body Λ.length (args.map some ++ List.replicate (n - np) none) Λ with
  | (.ret v, _, Λ) => some (v, Λ)
  | (.next, _, Λ) => some (.none, Λ)
  else none

end Mine

/-! ## part A1p -/
namespace Mine
/-! the program in combinators -/
noncomputable def f_is_pointer : Fn := def_ 1 1 (sSeq (sRet (xCmp cEq (xBin oMod (xVar 0) (xInt 2)) (xInt 1))) sPass)
noncomputable def f_pointer_to : Fn := def_ 1 1 (sSeq (sRet (xBin oAdd (xBin oMul (xInt 2) (xVar 0)) (xInt 1))) sPass)
noncomputable def f_address_of : Fn := def_ 1 1 (sSeq (sRet (xBin oDiv (xVar 0) (xInt 2))) sPass)

/- mem 0, blocks 1, at 2, j 3, h 4, n 5 -/
noncomputable def b_blocks_body : Stm :=
  sSeq (sIf (tOf (xCmp cEq (xVar 3) (xVar 2)))
    (sSeq (sAssign 4 (xIdx (xVar 0) (xVar 3)))
    (sSeq (sAssign 5 (xIf (tOf (xCmp cGe (xVar 4) (xInt 0))) (xBin oAdd (xVar 4) (xInt 1)) (xNeg (xVar 4))))
    (sSeq (sIf (tOf (xCmp cGt (xBin oAdd (xVar 3) (xVar 5)) (xLen (xVar 0)))) (sSeq (sRet xNone) sPass) sPass)
    (sSeq (sAppend 1 (xTup [xVar 3, xVar 5, xCmp cLt (xVar 4) (xInt 0)]))
    (sSeq (sAssign 2 (xBin oAdd (xVar 3) (xVar 5))) sPass))))) sPass) sPass
noncomputable def b_blocks : Stm :=
  sSeq (sAssign 1 (xList []))
  (sSeq (sAssign 2 (xInt 0))
  (sSeq (sFor (sRange (xLen (xVar 0))) (aName 3) b_blocks_body)
  (sSeq (sRet (xVar 1)) sPass)))
noncomputable def f_blocks_of : Fn := def_ 1 6 b_blocks

/- mem 0, a 1 -/
noncomputable def f_fields_of : Fn := def_ 2 2 (sSeq (sRet (xSlice (xVar 0) (some (xBin oAdd (xVar 1) (xInt 1))) (some (xBin oAdd (xBin oAdd (xVar 1) (xInt 1)) (xIdx (xVar 0) (xVar 1)))))) sPass)

/- mem 0, a 1, i 2, w 3, new 4 -/
noncomputable def f_with_field : Fn := def_ 4 5
  (sSeq (sAssign 4 (xListOf (xVar 0)))
  (sSeq (sSetIdx 4 (xBin oAdd (xBin oAdd (xVar 1) (xInt 1)) (xVar 2)) (xVar 3))
  (sSeq (sRet (xVar 4)) sPass)))

/- mem 0, roots 1, met 2, w 3, place 4 -/
noncomputable def b_meet : Stm :=
  sSeq (sIf (tAnd (tOf (xCall f_is_pointer [xVar 3])) (tAnd (tOf (xCmp cNotIn (xCall f_address_of [xVar 3]) (xVar 2))) tTrue))
    (sSeq (sAppend 2 (xCall f_address_of [xVar 3])) sPass) sPass) sPass
noncomputable def b_reach_turn : Stm :=
  sSeq (sFor (sList (xCall f_fields_of [xVar 0, xIdx (xVar 2) (xVar 4)])) (aName 3) b_meet)
  (sSeq (sAssign 4 (xBin oAdd (xVar 4) (xInt 1))) sPass)
noncomputable def f_reachable : Fn := def_ 2 5
  (sSeq (sAssign 2 (xList []))
  (sSeq (sFor (sList (xVar 1)) (aName 3) b_meet)
  (sSeq (sAssign 4 (xInt 0))
  (sSeq (sWhile 1000 (tOf (xCmp cLt (xVar 4) (xLen (xVar 2)))) b_reach_turn)
  (sSeq (sRet (xVar 2)) sPass)))))

/- mem 0, marked 1, new 2, run 3, b 4, a 5, n 6 -/
noncomputable def b_swept_body : Stm :=
  sSeq (sAssign 5 (xIdx (xVar 4) (xInt 0)))
  (sSeq (sAssign 6 (xIdx (xVar 4) (xInt 1)))
  (sSeq (sIf (tAnd (tNot (tOf (xIdx (xVar 4) (xInt 2)))) (tAnd (tOf (xCmp cIn (xVar 5) (xVar 1))) tTrue))
    (sSeq (sAssign 2 (xBin oAdd (xVar 2) (xSlice (xVar 0) (some (xVar 5)) (some (xBin oAdd (xVar 5) (xVar 6))))))
    (sSeq (sAssign 3 (xNeg (xInt 1))) sPass))
    (sSeq (sIf (tOf (xCmp cGe (xVar 3) (xInt 0)))
      (sSeq (sSetIdx 2 (xVar 3) (xBin oSub (xIdx (xVar 2) (xVar 3)) (xVar 6)))
      (sSeq (sAssign 2 (xBin oAdd (xVar 2) (xBin oMul (xList [xInt 0]) (xVar 6)))) sPass))
      (sSeq (sAssign 3 (xLen (xVar 2)))
      (sSeq (sAssign 2 (xBin oAdd (xBin oAdd (xVar 2) (xList [xNeg (xVar 6)])) (xBin oMul (xList [xInt 0]) (xBin oSub (xVar 6) (xInt 1))))) sPass))) sPass)) sPass))
noncomputable def f_swept : Fn := def_ 2 7
  (sSeq (sAssign 2 (xList []))
  (sSeq (sAssign 3 (xNeg (xInt 1)))
  (sSeq (sFor (sList (xCall f_blocks_of [xVar 0])) (aName 4) b_swept_body)
  (sSeq (sRet (xVar 2)) sPass))))

noncomputable def f_sweeping : Fn := def_ 2 2 (sSeq (sRet (xCall f_swept [xVar 0, xCall f_reachable [xVar 0, xVar 1]])) sPass)

/- mem 0, new 1, forward 2, top 3, w 4, a 5, j 6 -/
noncomputable def b_fwd_copy : Stm := sSeq (sSetIdx 1 (xBin oAdd (xVar 3) (xVar 6)) (xIdx (xVar 0) (xBin oAdd (xVar 5) (xVar 6)))) sPass
noncomputable def f_forwarded : Fn := def_ 5 7
  (sSeq (sAssign 1 (xListOf (xVar 1)))
  (sSeq (sAssign 2 (xListOf (xVar 2)))
  (sSeq (sIf (tNot (tOf (xCall f_is_pointer [xVar 4]))) (sSeq (sRet (xTup [xVar 1, xVar 2, xVar 3, xVar 4])) sPass) sPass)
  (sSeq (sAssign 5 (xCall f_address_of [xVar 4]))
  (sSeq (sIf (tOf (xCmp cLt (xIdx (xVar 2) (xVar 5)) (xInt 0)))
    (sSeq (sFor (sRange (xBin oAdd (xIdx (xVar 0) (xVar 5)) (xInt 1))) (aName 6) b_fwd_copy)
    (sSeq (sSetIdx 2 (xVar 5) (xVar 3))
    (sSeq (sAssign 3 (xBin oAdd (xBin oAdd (xVar 3) (xIdx (xVar 0) (xVar 5))) (xInt 1))) sPass))) sPass)
  (sSeq (sRet (xTup [xVar 1, xVar 2, xVar 3, xCall f_pointer_to [xIdx (xVar 2) (xVar 5)]])) sPass))))))

/- mem 0, roots 1, size 2, new 3, forward 4, top 5, moved 6, w 7, step 8, scan 9, i 10 -/
noncomputable def b_copy_root : Stm :=
  sSeq (sAssign 8 (xCall f_forwarded [xVar 0, xVar 3, xVar 4, xVar 5, xVar 7]))
  (sSeq (sAssign 3 (xIdx (xVar 8) (xInt 0)))
  (sSeq (sAssign 4 (xIdx (xVar 8) (xInt 1)))
  (sSeq (sAssign 5 (xIdx (xVar 8) (xInt 2)))
  (sSeq (sAppend 6 (xIdx (xVar 8) (xInt 3))) sPass))))
noncomputable def xScanI : Ex := xBin oAdd (xBin oAdd (xVar 9) (xInt 1)) (xVar 10)
noncomputable def b_copy_field : Stm :=
  sSeq (sAssign 8 (xCall f_forwarded [xVar 0, xVar 3, xVar 4, xVar 5, xIdx (xVar 3) xScanI]))
  (sSeq (sAssign 3 (xIdx (xVar 8) (xInt 0)))
  (sSeq (sAssign 4 (xIdx (xVar 8) (xInt 1)))
  (sSeq (sAssign 5 (xIdx (xVar 8) (xInt 2)))
  (sSeq (sSetIdx 3 xScanI (xIdx (xVar 8) (xInt 3))) sPass))))
noncomputable def b_copy_scan : Stm :=
  sSeq (sFor (sRange (xIdx (xVar 3) (xVar 9))) (aName 10) b_copy_field)
  (sSeq (sAssign 9 (xBin oAdd (xBin oAdd (xVar 9) (xIdx (xVar 3) (xVar 9))) (xInt 1))) sPass)
noncomputable def f_copying : Fn := def_ 2 11
  (sSeq (sAssign 2 (xLen (xVar 0)))
  (sSeq (sAssign 3 (xBin oMul (xList [xInt 0]) (xVar 2)))
  (sSeq (sAssign 4 (xBin oMul (xList [xNeg (xInt 1)]) (xVar 2)))
  (sSeq (sAssign 5 (xInt 0))
  (sSeq (sAssign 6 (xList []))
  (sSeq (sFor (sList (xVar 1)) (aName 7) b_copy_root)
  (sSeq (sAssign 9 (xInt 0))
  (sSeq (sWhile 1000 (tOf (xCmp cLt (xVar 9) (xVar 5))) b_copy_scan)
  (sSeq (sIf (tOf (xCmp cLt (xVar 5) (xVar 2))) (sSeq (sSetIdx 3 (xVar 5) (xBin oSub (xVar 5) (xVar 2))) sPass) sPass)
  (sSeq (sRet (xTup [xVar 3, xVar 6])) sPass))))))))))

/- n 0 -/
noncomputable def f_gap : Fn := def_ 1 1
  (sSeq (sIf (tOf (xCmp cEq (xVar 0) (xInt 0))) (sSeq (sRet (xList [])) sPass) sPass)
  (sSeq (sRet (xBin oAdd (xList [xNeg (xVar 0)]) (xBin oMul (xList [xInt 0]) (xBin oSub (xVar 0) (xInt 1))))) sPass))

/- sizes 0, gaps 1, heads 2, at 3, i 4 -/
noncomputable def f_heads : Fn := def_ 2 5
  (sSeq (sAssign 2 (xList []))
  (sSeq (sAssign 3 (xInt 0))
  (sSeq (sFor (sRange (xInt 4)) (aName 4)
    (sSeq (sAppend 2 (xBin oAdd (xVar 3) (xIdx (xVar 1) (xVar 4))))
    (sSeq (sAssign 3 (xBin oAdd (xBin oAdd (xBin oAdd (xVar 3) (xIdx (xVar 1) (xVar 4))) (xIdx (xVar 0) (xVar 4))) (xInt 1))) sPass)))
  (sSeq (sRet (xBin oAdd (xVar 2) (xList [xBin oAdd (xVar 3) (xIdx (xVar 1) (xInt 4))]))) sPass))))

/- cells 0, heads 1, words 2, c 3 -/
noncomputable def f_words : Fn := def_ 2 4
  (sSeq (sAssign 2 (xList []))
  (sSeq (sFor (sList (xVar 0)) (aName 3)
    (sSeq (sIf (tOf (xCmp cEq (xBin oMod (xVar 3) (xInt 5)) (xInt 4)))
      (sSeq (sAppend 2 (xBin oMul (xInt 2) (xAbs (xVar 3)))) sPass)
      (sSeq (sAppend 2 (xBin oAdd (xBin oMul (xInt 2) (xIdx (xVar 1) (xBin oMod (xVar 3) (xInt 5)))) (xInt 1))) sPass)) sPass))
  (sSeq (sRet (xVar 2)) sPass)))

/- table 0, roots 1, words 2, met 3, i 4 -/
noncomputable def f_order : Fn := def_ 2 5
  (sSeq (sAssign 2 (xListOf (xVar 1)))
  (sSeq (sAssign 3 (xList []))
  (sSeq (sFor (sRange (xInt 12)) (aName 4)
    (sSeq (sIf (tAnd (tOf (xCmp cLt (xVar 4) (xLen (xVar 2)))) (tAnd (tOf (xCmp cIn (xIdx (xVar 2) (xVar 4)) (xVar 0))) (tAnd (tOf (xCmp cNotIn (xIdx (xVar 2) (xVar 4)) (xVar 3))) tTrue)))
      (sSeq (sAppend 3 (xIdx (xVar 2) (xVar 4)))
      (sSeq (sAssign 2 (xBin oAdd (xVar 2) (xIdx (xVar 0) (xIdx (xVar 2) (xVar 4))))) sPass)) sPass) sPass))
  (sSeq (sRet (xVar 3)) sPass))))

/- table 0, keep 1, size 2, mem 3, p 4 -/
noncomputable def f_heap : Fn := def_ 3 5
  (sSeq (sAssign 3 (xList []))
  (sSeq (sFor (sList (xSorted (xVar 0))) (aName 4)
    (sSeq (sIf (tOf (xCmp cIn (xVar 4) (xVar 1)))
      (sSeq (sAssign 3 (xBin oAdd (xBin oAdd (xBin oAdd (xVar 3) (xCall f_gap [xBin oSub (xBin oDiv (xVar 4) (xInt 2)) (xLen (xVar 3))])) (xList [xLen (xIdx (xVar 0) (xVar 4))])) (xIdx (xVar 0) (xVar 4)))) sPass) sPass) sPass))
  (sSeq (sRet (xBin oAdd (xVar 3) (xCall f_gap [xBin oSub (xVar 2) (xLen (xVar 3))]))) sPass)))

/- table 0, roots 1, size 2, order 3, pairs 4, at 5, p 6, place 7, mem 8; in the block: w 0, place 1 -/
noncomputable def xPlaced (src : Ex) : Ex := xComp [7] (sList src) tTrue (xGet (xVar 1) (xVar 0) (xVar 0))
noncomputable def f_packed : Fn := def_ 3 9
  (sSeq (sAssign 3 (xCall f_order [xVar 0, xVar 1]))
  (sSeq (sAssign 4 (xList []))
  (sSeq (sAssign 5 (xInt 0))
  (sSeq (sFor (sList (xVar 3)) (aName 6)
    (sSeq (sAppend 4 (xTup [xVar 6, xBin oAdd (xBin oMul (xInt 2) (xVar 5)) (xInt 1)]))
    (sSeq (sAssign 5 (xBin oAdd (xBin oAdd (xVar 5) (xLen (xIdx (xVar 0) (xVar 6)))) (xInt 1))) sPass)))
  (sSeq (sAssign 7 (xDictOf (xVar 4)))
  (sSeq (sAssign 8 (xList []))
  (sSeq (sFor (sList (xVar 3)) (aName 6)
    (sSeq (sAssign 8 (xBin oAdd (xBin oAdd (xVar 8) (xList [xLen (xIdx (xVar 0) (xVar 6))])) (xPlaced (xIdx (xVar 0) (xVar 6))))) sPass))
  (sSeq (sRet (xTup [xBin oAdd (xVar 8) (xCall f_gap [xBin oSub (xVar 2) (xVar 5)]), xPlaced (xVar 1)])) sPass))))))))

/- table 0, spot 1, w 2, row 3 -/
noncomputable def f_write : Fn := def_ 3 4
  (sSeq (sAssign 3 (xIdx (xVar 0) (xIdx (xVar 1) (xInt 0))))
  (sSeq (sRet (xDictOf (xBin oAdd (xItems (xVar 0)) (xList [xTup [xIdx (xVar 1) (xInt 0),
     xBin oAdd (xBin oAdd (xSlice (xVar 3) none (some (xIdx (xVar 1) (xInt 1)))) (xList [xVar 2])) (xSlice (xVar 3) (some (xBin oAdd (xIdx (xVar 1) (xInt 1)) (xInt 1))) none)]])))) sPass))

/- script 0, sizes 1, heads 2, size 3, words 4, table 5, wide 6, picks 7, narrow 8, mem 9, live 10, want 11, once 12, loose 13, left 14, right 15, one 16, two 17, both 18, far 19, near 20, tight 21, heap 22, held 23, blank 24, unmoved 25, step 26, spots 27, s 28, t 29, w 30, x 31, st 32, ts 33, keep 34, a 35, b 36, h 37 -/
noncomputable def b_law_inner : Stm :=
  (sSeq (sAssign 35 (xCall f_with_field [(xCall f_with_field [(xVar 22), (xBin oDiv (xIdx (xVar 28) (xInt 0)) (xInt 2)), (xIdx (xVar 28) (xInt 1)), (xVar 30)]), (xBin oDiv (xIdx (xVar 29) (xInt 0)) (xInt 2)), (xIdx (xVar 29) (xInt 1)), (xVar 31)]))
  (sSeq (sAssign 36 (xCall f_with_field [(xCall f_with_field [(xVar 22), (xBin oDiv (xIdx (xVar 29) (xInt 0)) (xInt 2)), (xIdx (xVar 29) (xInt 1)), (xVar 31)]), (xBin oDiv (xIdx (xVar 28) (xInt 0)) (xInt 2)), (xIdx (xVar 28) (xInt 1)), (xVar 30)]))
  (sSeq (sIf (tAnd (tOf (xCmp cNe (xVar 28) (xVar 29))) (tAnd (tOf (xCmp cNe (xVar 35) (xVar 36))) tTrue)) (sSeq (sRet (xBool false))
  sPass) sPass)
  (sSeq (sIf (tOf (xCmp cNe (xList [(xVar 35), (xVar 36)]) (xList [(xCall f_heap [(xVar 32), (xVar 34), (xVar 3)]), (xCall f_heap [(xVar 33), (xVar 34), (xVar 3)])]))) (sSeq (sRet (xBool false))
  sPass) sPass)
  (sSeq (sIf (tOf (xCmp cNe (xCall f_sweeping [(xVar 35), (xVar 8)]) (xCall f_heap [(xVar 32), (xCall f_order [(xVar 32), (xVar 8)]), (xVar 3)]))) (sSeq (sRet (xBool false))
  sPass) sPass)
  (sSeq (sIf (tOf (xCmp cNe (xCall f_copying [(xVar 36), (xVar 8)]) (xCall f_packed [(xVar 33), (xVar 8), (xVar 3)]))) (sSeq (sRet (xBool false))
  sPass) sPass)
  sPass))))))
noncomputable def b_law_spots : Stm :=
  (sSeq (sAssign 28 (xIdx (xVar 27) (xBin oMod (xIdx (xVar 0) (xInt 19)) (xLen (xVar 27)))))
  (sSeq (sAssign 29 (xIdx (xVar 27) (xBin oMod (xIdx (xVar 0) (xInt 20)) (xLen (xVar 27)))))
  (sSeq (sAssign 30 (xIdx (xVar 6) (xBin oMod (xIdx (xVar 0) (xInt 21)) (xInt 3))))
  (sSeq (sAssign 31 (xIdx (xVar 6) (xBin oMod (xBin oAdd (xIdx (xVar 0) (xInt 21)) (xInt 1)) (xInt 3))))
  (sSeq (sAssign 32 (xCall f_write [(xCall f_write [(xVar 5), (xVar 28), (xVar 30)]), (xVar 29), (xVar 31)]))
  (sSeq (sAssign 33 (xCall f_write [(xCall f_write [(xVar 5), (xVar 29), (xVar 31)]), (xVar 28), (xVar 30)]))
  (sSeq (sFor (sList (xList [(xTup [(xVar 9), (xVar 5)]), (xTup [(xVar 12), (xVar 10)])])) (aPair 22 34) b_law_inner)
  sPass)))))))
noncomputable def b_law_0 : Stm := (sIf (tOf (xCmp cLt (xLen (xVar 0)) (xInt 23))) (sSeq (sRet (xBool true))
  sPass) sPass)
noncomputable def b_law_1 : Stm := (sAssign 1 (xList [(xBin oMod (xIdx (xVar 0) (xInt 0)) (xInt 3)), (xBin oMod (xIdx (xVar 0) (xInt 1)) (xInt 3)), (xBin oMod (xIdx (xVar 0) (xInt 2)) (xInt 3)), (xBin oMod (xIdx (xVar 0) (xInt 3)) (xInt 3))]))
noncomputable def b_law_2 : Stm := (sAssign 2 (xCall f_heads [(xVar 1), (xIdx (xRef 0) (xBin oMod (xIdx (xVar 0) (xInt 4)) (xInt 6)))]))
noncomputable def b_law_3 : Stm := (sAssign 3 (xIdx (xVar 2) (xInt 4)))
noncomputable def b_law_4 : Stm := (sAssign 4 (xCall f_words [(xList [(xIdx (xVar 0) (xInt 5)), (xIdx (xVar 0) (xInt 6)), (xIdx (xVar 0) (xInt 7)), (xIdx (xVar 0) (xInt 8)), (xIdx (xVar 0) (xInt 9)), (xIdx (xVar 0) (xInt 10)), (xIdx (xVar 0) (xInt 11)), (xIdx (xVar 0) (xInt 12)), (xIdx (xVar 0) (xInt 13)), (xIdx (xVar 0) (xInt 14)), (xIdx (xVar 0) (xInt 15))]), (xVar 2)]))
noncomputable def b_law_5 : Stm := (sAssign 5 (xDictOf (xComp [2, 4, 1] (sRange (xInt 4)) tTrue (xTup [(xBin oAdd (xBin oMul (xInt 2) (xIdx (xVar 1) (xVar 0))) (xInt 1)), (xSlice (xVar 2) (some (xBin oMul (xInt 2) (xVar 0))) (some (xBin oAdd (xBin oMul (xInt 2) (xVar 0)) (xIdx (xVar 3) (xVar 0)))))]))))
noncomputable def b_law_6 : Stm := (sAssign 6 (xSlice (xVar 4) (some (xInt 8)) none))
noncomputable def b_law_7 : Stm := (sAssign 7 (xComp [] (sList (xList [(xBin oMod (xIdx (xVar 0) (xInt 16)) (xInt 4)), (xBin oMod (xIdx (xVar 0) (xInt 17)) (xInt 4)), (xBin oMod (xIdx (xVar 0) (xInt 18)) (xInt 4))])) (tAnd (tOf (xCmp cLt (xVar 0) (xInt 3))) tTrue) (xVar 0)))
noncomputable def b_law_8 : Stm := (sAssign 8 (xComp [6] (sList (xVar 7)) tTrue (xIdx (xVar 1) (xVar 0))))
noncomputable def b_law_9 : Stm := (sAssign 9 (xCall f_heap [(xVar 5), (xVar 5), (xVar 3)]))
noncomputable def b_law_10 : Stm := (sAssign 10 (xCall f_order [(xVar 5), (xVar 6)]))
noncomputable def b_law_11 : Stm := (sAssign 11 (xCall f_heap [(xVar 5), (xCall f_order [(xVar 5), (xVar 8)]), (xVar 3)]))
noncomputable def b_law_12 : Stm := (sAssign 12 (xCall f_sweeping [(xVar 9), (xVar 6)]))
noncomputable def b_law_13 : Stm := (sAssign 13 (xCall f_sweeping [(xVar 12), (xVar 8)]))
noncomputable def b_law_14 : Stm := (sIf (tOf (xCmp cNe (xList [(xVar 12), (xVar 13), (xCall f_sweeping [(xVar 9), (xVar 8)])]) (xList [(xCall f_heap [(xVar 5), (xVar 10), (xVar 3)]), (xVar 11), (xVar 11)]))) (sSeq (sRet (xBool false))
  sPass) sPass)
noncomputable def b_law_15 : Stm := (sAssign 14 (xCall f_reachable [(xVar 9), (xSlice (xVar 6) none (some (xInt 2)))]))
noncomputable def b_law_16 : Stm := (sAssign 15 (xCall f_reachable [(xVar 9), (xSlice (xVar 6) (some (xInt 1)) none)]))
noncomputable def b_law_17 : Stm := (sAssign 16 (xCall f_order [(xVar 5), (xSlice (xVar 6) none (some (xInt 2)))]))
noncomputable def b_law_18 : Stm := (sAssign 17 (xCall f_order [(xVar 5), (xSlice (xVar 6) (some (xInt 1)) none)]))
noncomputable def b_law_19 : Stm := (sAssign 18 (xCall f_heap [(xVar 5), (xComp [17] (sList (xVar 16)) (tAnd (tOf (xCmp cIn (xVar 0) (xVar 1))) tTrue) (xVar 0)), (xVar 3)]))
noncomputable def b_law_20 : Stm := (sIf (tOf (xCmp cNe (xList [(xCall f_swept [(xCall f_swept [(xVar 9), (xVar 14)]), (xVar 15)]), (xCall f_swept [(xCall f_swept [(xVar 9), (xVar 15)]), (xVar 14)]), (xCall f_swept [(xVar 9), (xBin oAdd (xVar 14) (xVar 15))])]) (xList [(xVar 18), (xVar 18), (xVar 12)]))) (sSeq (sRet (xBool false))
  sPass) sPass)
noncomputable def b_law_21 : Stm := (sIf (tOf (xCmp cNe (xList [(xVar 14), (xVar 15)]) (xList [(xComp [] (sList (xVar 16)) tTrue (xBin oDiv (xVar 0) (xInt 2))), (xComp [] (sList (xVar 17)) tTrue (xBin oDiv (xVar 0) (xInt 2)))]))) (sSeq (sRet (xBool false))
  sPass) sPass)
noncomputable def b_law_22 : Stm := (sAssign 19 (xCall f_copying [(xVar 9), (xVar 6)]))
noncomputable def b_law_23 : Stm := (sIf (tOf (xCmp cNe (xVar 19) (xCall f_packed [(xVar 5), (xVar 6), (xVar 3)]))) (sSeq (sRet (xBool false))
  sPass) sPass)
noncomputable def b_law_24 : Stm := (sAssign 20 (xComp [19] (sList (xVar 7)) tTrue (xIdx (xIdx (xVar 1) (xInt 1)) (xVar 0))))
noncomputable def b_law_25 : Stm := (sAssign 21 (xCall f_packed [(xVar 5), (xVar 8), (xVar 3)]))
noncomputable def b_law_26 : Stm := (sFor (sList (xList [(xTup [(xVar 9), (xVar 8)]), (xTup [(xVar 12), (xVar 8)]), (xTup [(xIdx (xVar 19) (xInt 0)), (xVar 20)]), (xTup [(xCall f_sweeping [(xIdx (xVar 19) (xInt 0)), (xVar 20)]), (xVar 20)])])) (aPair 22 23) (sSeq (sIf (tOf (xCmp cNe (xCall f_copying [(xVar 22), (xVar 23)]) (xVar 21))) (sSeq (sRet (xBool false))
  sPass) sPass)
  sPass))
noncomputable def b_law_27 : Stm := (sAssign 24 (xBin oMul (xList [(xInt 0)]) (xVar 3)))
noncomputable def b_law_28 : Stm := (sAssign 25 (xBin oMul (xList [(xNeg (xInt 1))]) (xVar 3)))
noncomputable def b_law_29 : Stm := (sAssign 26 (xCall f_forwarded [(xVar 9), (xVar 24), (xVar 25), (xInt 0), (xIdx (xVar 6) (xInt 0))]))
noncomputable def b_law_30 : Stm := (sIf (tOf (xCmp cNe (xList [(xVar 24), (xVar 25)]) (xList [(xBin oMul (xList [(xInt 0)]) (xVar 3)), (xBin oMul (xList [(xNeg (xInt 1))]) (xVar 3))]))) (sSeq (sRet (xBool false))
  sPass) sPass)
noncomputable def b_law_31 : Stm := (sIf (tOf (xCmp cNe (xCall f_forwarded [(xVar 9), (xIdx (xVar 26) (xInt 0)), (xIdx (xVar 26) (xInt 1)), (xIdx (xVar 26) (xInt 2)), (xIdx (xVar 6) (xInt 0))]) (xVar 26))) (sSeq (sRet (xBool false))
  sPass) sPass)
noncomputable def b_law_32 : Stm := (sAssign 27 (xComp2 [5] (sList (xVar 10)) (sRange (xLen (xIdx (xVar 2) (xVar 0)))) (xTup [(xVar 0), (xVar 1)])))
noncomputable def b_law_33 : Stm := (sIf (tOf (xCmp cGt (xLen (xVar 27)) (xInt 0))) b_law_spots sPass)
noncomputable def b_law_34 : Stm := (sAssign 37 (xBin oSub (xBin oMod (xIdx (xVar 0) (xInt 22)) (xInt 6)) (xInt 3)))
noncomputable def b_law_35 : Stm := (sIf (tOf (xCmp cNe (xCmp cIs (xCall f_blocks_of [(xBin oAdd (xVar 12) (xList [(xVar 37), (xInt 0)]))]) xNone) (xCmp cIn (xVar 37) (xTup [(xNeg (xInt 3)), (xInt 2)])))) (sSeq (sRet (xBool false))
  sPass) sPass)
noncomputable def b_law_36 : Stm := (sIf (tNot (tOf (xAllInt (xBin oAdd (xBin oAdd (xBin oAdd (xBin oAdd (xBin oAdd (xVar 12) (xVar 13)) (xVar 14)) (xVar 15)) (xIdx (xVar 19) (xInt 0))) (xIdx (xVar 19) (xInt 1)))))) (sSeq (sRet (xBool false))
  sPass) sPass)
noncomputable def b_law_37 : Stm := (sIf (tOf (xCmp cNe (xList [(xVar 9), (xVar 6), (xVar 8), (xVar 12)]) (xList [(xCall f_heap [(xVar 5), (xVar 5), (xVar 3)]), (xSlice (xVar 4) (some (xInt 8)) none), (xComp [6] (sList (xVar 7)) tTrue (xIdx (xVar 1) (xVar 0))), (xCall f_heap [(xVar 5), (xVar 10), (xVar 3)])]))) (sSeq (sRet (xBool false))
  sPass) sPass)
noncomputable def b_law_38 : Stm := (sIf (tOf (xCmp cNe (xVar 19) (xCall f_packed [(xVar 5), (xVar 6), (xVar 3)]))) (sSeq (sRet (xBool false))
  sPass) sPass)
noncomputable def b_law_39 : Stm := (sRet (xBool true))
noncomputable def b_law : Stm := (sSeq b_law_0
  (sSeq b_law_1
  (sSeq b_law_2
  (sSeq b_law_3
  (sSeq b_law_4
  (sSeq b_law_5
  (sSeq b_law_6
  (sSeq b_law_7
  (sSeq b_law_8
  (sSeq b_law_9
  (sSeq b_law_10
  (sSeq b_law_11
  (sSeq b_law_12
  (sSeq b_law_13
  (sSeq b_law_14
  (sSeq b_law_15
  (sSeq b_law_16
  (sSeq b_law_17
  (sSeq b_law_18
  (sSeq b_law_19
  (sSeq b_law_20
  (sSeq b_law_21
  (sSeq b_law_22
  (sSeq b_law_23
  (sSeq b_law_24
  (sSeq b_law_25
  (sSeq b_law_26
  (sSeq b_law_27
  (sSeq b_law_28
  (sSeq b_law_29
  (sSeq b_law_30
  (sSeq b_law_31
  (sSeq b_law_32
  (sSeq b_law_33
  (sSeq b_law_34
  (sSeq b_law_35
  (sSeq b_law_36
  (sSeq b_law_37
  (sSeq b_law_38
  (sSeq b_law_39
  sPass))))))))))))))))))))))))))))))))))))))))
noncomputable def f_law : Fn := def_ 1 38 b_law

end Mine
noncomputable def Mine.gaps0 : Mine.Led := [.tup [.ref 1, .ref 2, .ref 3, .ref 4, .ref 5, .ref 6], .tup [.int 0, .int 0, .int 0, .int 0, .int 0], .tup [.int 0, .int 0, .int 0, .int 0, .int 1], .tup [.int 1, .int 0, .int 0, .int 0, .int 0], .tup [.int 0, .int 2, .int 0, .int 1, .int 0], .tup [.int 0, .int 0, .int 1, .int 0, .int 3], .tup [.int 2, .int 1, .int 0, .int 0, .int 0]]

/-! ## part C1 -/
set_option linter.unusedVariables false
/-! the plain world: tables and the memories they lie in -/
namespace Mine

noncomputable abbrev Tab := List (Int × List Int)
noncomputable def gapI : Nat → List Int
  | 0 => []
  | n + 1 => -((n : Int) + 1) :: List.replicate n 0
theorem gapI_len : ∀ n, (gapI n).length = n
  | 0 => rfl
  | n + 1 => by simp [gapI]
noncomputable def adr (p : Int) : Nat := (p / 2).toNat
noncomputable def rend : Nat → Tab → Nat → List Int
  | at_, [], size => gapI (size - at_)
  | at_, (p, row) :: T, size => gapI (adr p - at_) ++ (((row.length : Int) :: row) ++ rend (adr p + row.length + 1) T size)
noncomputable def Fit : Nat → Tab → Nat → Prop
  | at_, [], size => at_ ≤ size
  | at_, (p, row) :: T, size => p % 2 = 1 ∧ 0 ≤ p ∧ at_ ≤ adr p ∧ Fit (adr p + row.length + 1) T size

theorem Fit.le : ∀ {at_ : Nat} {T : Tab} {size : Nat}, Fit at_ T size → at_ ≤ size
  | _, [], _, h => h
  | _, (p, row) :: T, _, h => by have := Fit.le h.2.2.2; have := h.2.2.1; lia
theorem Fit.down : ∀ {at_ b : Nat} {T : Tab} {size : Nat}, Fit at_ T size → b ≤ at_ → Fit b T size
  | _, _, [], _, h, hb => Nat.le_trans hb h
  | _, _, (p, row) :: T, _, h, hb => ⟨h.1, h.2.1, Nat.le_trans hb h.2.2.1, h.2.2.2⟩
theorem Fit.filter (f : Int × List Int → Bool) : ∀ {at_ : Nat} {T : Tab} {size : Nat}, Fit at_ T size → Fit at_ (T.filter f) size
  | _, [], _, h => h
  | _, (p, row) :: T, _, h => by
    have ih := Fit.filter f h.2.2.2
    rw [List.filter_cons]
    split
    · exact ⟨h.1, h.2.1, h.2.2.1, ih⟩
    · exact ih.down (by have := h.2.2.1; lia)
theorem rend_len : ∀ {at_ : Nat} {T : Tab} {size : Nat}, Fit at_ T size → (rend at_ T size).length = size - at_
  | _, [], _, h => gapI_len _
  | at_, (p, row) :: T, size, h => by
    have ih := rend_len h.2.2.2
    have := h.2.2.1
    have := h.2.2.2.le
    simp only [rend, List.length_append, gapI_len, List.length_cons, ih]
    lia
theorem Fit.key : ∀ {at_ : Nat} {T : Tab} {size : Nat}, Fit at_ T size → ∀ {p : Int} {row : List Int}, (p, row) ∈ T → p % 2 = 1 ∧ 0 ≤ p ∧ at_ ≤ adr p ∧ adr p + row.length + 1 ≤ size
  | _, [], _, h, _, _, hm => nomatch hm
  | _, (q, r) :: T, _, h, p, row, hm => by
    rcases List.mem_cons.mp hm with e | hm
    · cases e; exact ⟨h.1, h.2.1, h.2.2.1, h.2.2.2.le⟩
    · obtain ⟨a, b, c, d⟩ := Fit.key h.2.2.2 hm
      exact ⟨a, b, by have := h.2.2.1; lia, d⟩
theorem adr_eq {p : Int} (h1 : p % 2 = 1) (h0 : 0 ≤ p) : p = 2 * (adr p : Int) + 1 := by unfold adr; lia
theorem adr_cast {p : Int} (h0 : 0 ≤ p) : (adr p : Int) = p / 2 := by unfold adr; lia

/-- what lies at a key -/
theorem rend_drop : ∀ {at_ : Nat} {T : Tab} {size : Nat}, Fit at_ T size → ∀ {p : Int} {row : List Int}, (p, row) ∈ T → ∃ rest, (rend at_ T size).drop (adr p - at_) = ((row.length : Int) :: row) ++ rest
  | _, [], _, h, _, _, hm => nomatch hm
  | at_, (q, r) :: T, size, h, p, row, hm => by
    rcases List.mem_cons.mp hm with e | hm
    · cases e
      refine ⟨rend (adr q + r.length + 1) T size, ?_⟩
      simp only [rend]
      rw [List.drop_left' (gapI_len _)]
    · obtain ⟨rest, e⟩ := rend_drop h.2.2.2 hm
      obtain ⟨_, _, c, _⟩ := Fit.key h.2.2.2 hm
      refine ⟨rest, ?_⟩
      simp only [rend]
      rw [← List.append_assoc, List.drop_append]
      have l1 : (gapI (adr q - at_) ++ ((r.length : Int) :: r)).length = adr q + r.length + 1 - at_ := by
        simp only [List.length_append, gapI_len, List.length_cons]; have := h.2.2.1; lia
      rw [List.drop_of_length_le (by rw [l1]; have := h.2.2.1; lia), l1, List.nil_append]
      rw [← e]; congr 1; have := h.2.2.1; lia
theorem rend_get {T : Tab} {size : Nat} (h : Fit 0 T size) {p : Int} {row : List Int} (hm : (p, row) ∈ T) : (rend 0 T size)[adr p]? = some (row.length : Int) ∧ ((rend 0 T size).drop (adr p + 1)).take row.length = row ∧ ∀ i, i < row.length → (rend 0 T size)[adr p + 1 + i]? = row[i]? := by
  obtain ⟨rest, e⟩ := rend_drop h hm
  simp only [Nat.sub_zero] at e
  refine ⟨?_, ?_, fun i hi => ?_⟩
  · have := congrArg (fun l => l[0]?) e
    simpa using this
  · have := congrArg (fun l => (l.drop 1).take row.length) e
    simpa [List.drop_drop] using this
  · have := congrArg (fun l => l[1 + i]?) e
    simp only [List.getElem?_drop] at this
    rw [show adr p + 1 + i = adr p + (1 + i) by lia, this, show 1 + i = i + 1 by lia]
    rw [List.cons_append, List.getElem?_cons_succ, List.getElem?_append_left hi]

/-- a field written -/
noncomputable def wr (T : Tab) (p : Int) (i : Nat) (w : Int) : Tab := T.map fun e => if e.1 = p then (e.1, e.2.set i w) else e
theorem wr_keys {T : Tab} {p : Int} {i : Nat} {w : Int} : (wr T p i w).map (·.1) = T.map (·.1) := by
  simp only [wr, List.map_map]; apply List.map_congr_left; intro e _; simp only [Function.comp]; split <;> rfl
theorem Fit.wr {p : Int} {i : Nat} {w : Int} : ∀ {at_ : Nat} {T : Tab} {size : Nat}, Fit at_ T size → Fit at_ (wr T p i w) size
  | _, [], _, h => h
  | _, (q, row) :: T, _, h => by
    have ih := Fit.wr (p := p) (i := i) (w := w) h.2.2.2
    simp only [Mine.wr, List.map_cons] at ih ⊢
    split
    · exact ⟨h.1, h.2.1, h.2.2.1, by simpa using ih⟩
    · exact ⟨h.1, h.2.1, h.2.2.1, ih⟩
theorem wr_out {p : Int} {i : Nat} {w : Int} : ∀ {at_ : Nat} {T : Tab} {size : Nat}, Fit at_ T size → adr p < at_ → wr T p i w = T
  | _, [], _, h, _ => rfl
  | _, (q, row) :: T, _, h, hp => by
    have ih := wr_out (p := p) (i := i) (w := w) h.2.2.2 (by have := h.2.2.1; lia)
    have hne : q ≠ p := by rintro rfl; have := h.2.2.1; lia
    simp only [wr, List.map_cons, if_neg hne] at ih ⊢
    rw [ih]
theorem rend_wr {p : Int} {i : Nat} {w : Int} : ∀ {at_ : Nat} {T : Tab} {size : Nat}, Fit at_ T size → ∀ {row : List Int}, (p, row) ∈ T → i < row.length → (rend at_ T size).set (adr p + 1 + i - at_) w = rend at_ (wr T p i w) size
  | _, [], _, h, _, hm, _ => nomatch hm
  | at_, (q, r) :: T, size, h, row, hm, hi => by
    have h3 := h.2.2.1
    by_cases hq : q = p
    · subst hq
      have e1 : wr ((q, r) :: T) q i w = (q, r.set i w) :: T := by
        have := wr_out (p := q) (i := i) (w := w) h.2.2.2 (by lia)
        simp only [wr, List.map_cons, if_true] at this ⊢
        rw [this]
      have hrow : i < r.length := by
        rcases List.mem_cons.mp hm with e | hm
        · cases e; exact hi
        · have := (Fit.key h.2.2.2 hm).2.2.1; lia
      rw [e1]
      simp only [rend, List.length_set]
      rw [List.set_append_right _ _ (by rw [gapI_len]; lia), gapI_len]
      congr 1
      rw [show adr q + 1 + i - at_ - (adr q - at_) = i + 1 by lia, List.cons_append, List.set_cons_succ, List.set_append_left _ _ hrow]
      rfl
    · have hm' : (p, row) ∈ T := by
        rcases List.mem_cons.mp hm with e | hm
        · cases e; exact absurd rfl hq
        · exact hm
      have ih := rend_wr (w := w) h.2.2.2 hm' hi
      have h4 := (Fit.key h.2.2.2 hm').2.2.1
      have e1 : wr ((q, r) :: T) p i w = (q, r) :: wr T p i w := by simp only [wr, List.map_cons, if_neg hq]
      rw [e1]
      simp only [rend]
      rw [List.set_append_right _ _ (by rw [gapI_len]; lia), gapI_len]
      congr 1
      rw [List.set_append_right _ _ (by simp only [List.length_cons]; lia), List.length_cons]
      congr 1
      rw [← ih]; congr 1; lia

/-! blocks -/
noncomputable abbrev Blk := Nat × Nat × Bool
noncomputable def Prs (mem : List Int) : Nat → List Blk → Prop
  | at_, [] => at_ = mem.length
  | at_, (a, n, b) :: bs => a = at_ ∧ 0 < n ∧ at_ + n ≤ mem.length ∧ (∃ h : Int, mem[at_]? = some h ∧ (if h ≥ 0 then h + 1 else -h) = n ∧ b = decide (h < 0)) ∧ Prs mem (at_ + n) bs
noncomputable def blks : Nat → Tab → Nat → List Blk
  | at_, [], size => if size - at_ = 0 then [] else [(at_, size - at_, true)]
  | at_, (p, row) :: T, size => (if adr p - at_ = 0 then [] else [(at_, adr p - at_, true)]) ++ (adr p, row.length + 1, false) :: blks (adr p + row.length + 1) T size
theorem prs_gap {mem : List Int} {at_ n : Nat} {bs : List Blk} {pre post : List Int} (hm : mem = pre ++ (gapI n ++ post)) (hp : pre.length = at_) (h : Prs mem (at_ + n) bs) : Prs mem at_ ((if n = 0 then [] else [(at_, n, true)]) ++ bs) := by
  cases n with
  | zero => simpa using h
  | succ n =>
    simp only [Nat.succ_ne_zero, if_false, List.singleton_append, Nat.add_eq_zero_iff, Nat.one_ne_zero, and_false]
    refine ⟨rfl, by lia, ?_, ⟨-((n : Int) + 1), ?_, ?_, ?_⟩, h⟩
    · rw [hm]; simp [gapI_len]; lia
    · rw [hm, List.getElem?_append_right (by lia), hp, Nat.sub_self]; simp [gapI]
    · rw [if_neg (by lia)]; lia
    · simp <;> lia
theorem prs_rend {size : Nat} {tail : List Int} {mem : List Int} : ∀ {at_ : Nat} {T : Tab} {pre : List Int} {bs : List Blk}, Fit at_ T size → pre.length = at_ → mem = pre ++ (rend at_ T size ++ tail) → Prs mem size bs → Prs mem at_ (blks at_ T size ++ bs)
  | at_, [], pre, bs, h, hp, hm, hb => by
    simp only [rend] at hm
    have hle : at_ ≤ size := h
    exact prs_gap (n := size - at_) hm hp (by rw [show at_ + (size - at_) = size by lia]; exact hb)
  | at_, (p, row) :: T, pre, bs, h, hp, hm, hb => by
    have h3 := h.2.2.1
    simp only [rend] at hm
    have hm2 : mem = (pre ++ gapI (adr p - at_) ++ ((row.length : Int) :: row)) ++ (rend (adr p + row.length + 1) T size ++ tail) := by rw [hm]; simp
    have l2 : (pre ++ gapI (adr p - at_) ++ ((row.length : Int) :: row)).length = adr p + row.length + 1 := by simp [gapI_len, hp]; lia
    have ih := prs_rend (bs := bs) h.2.2.2 l2 hm2 hb
    simp only [blks, List.append_assoc, List.cons_append]
    refine prs_gap (n := adr p - at_) (by rw [hm]; simp; rfl) hp ?_
    rw [show at_ + (adr p - at_) = adr p by lia]
    refine ⟨rfl, by lia, ?_, ⟨(row.length : Int), ?_, ?_, ?_⟩, by rw [show adr p + (row.length + 1) = adr p + row.length + 1 by lia]; exact ih⟩
    · rw [hm2, List.length_append, l2]; lia
    · rw [hm, List.getElem?_append_right (by lia), List.append_assoc, List.getElem?_append_right (by rw [gapI_len]; lia), gapI_len, show adr p - pre.length - (adr p - at_) = 0 by lia]; simp
    · rw [if_pos (by lia)]; lia
    · simp <;> lia

/-! sweeping -/
/-- one block swept -/
noncomputable def swp (mem : List Int) (marked : List Int) (st : List Int × Int) (b : Blk) : List Int × Int :=
  if !b.2.2 && decide ((b.1 : Int) ∈ marked) then (st.1 ++ (mem.take (b.1 + b.2.1)).drop b.1, -1)
  else if st.2 ≥ 0 then (st.1.set st.2.toNat ((st.1[st.2.toNat]?).getD 0 - b.2.1) ++ List.replicate b.2.1 0, st.2)
  else (st.1 ++ [-(b.2.1 : Int)] ++ List.replicate (b.2.1 - 1) 0, st.1.length)
noncomputable def runOf (pre : List Int) (r : Nat) : Int := if r = 0 then -1 else pre.length
theorem gap_grow (r n : Nat) : (gapI (r + 1)).set 0 (-((r : Int) + 1) - (n + 1)) ++ List.replicate (n + 1) 0 = gapI (r + 1 + (n + 1)) := by
  rw [show r + 1 + (n + 1) = (r + (n + 1)) + 1 by lia]
  simp only [gapI, List.set_cons_zero, List.cons_append, List.replicate_append_replicate]
  congr 1 <;> lia
theorem swp_free {mem marked pre : List Int} {r n : Nat} {b : Blk} (hb : (!b.2.2 && decide ((b.1 : Int) ∈ marked)) = false) (hn : b.2.1 = n + 1) : swp mem marked (pre ++ gapI r, runOf pre r) b = (pre ++ gapI (r + (n + 1)), runOf pre (r + (n + 1))) := by
  unfold swp
  rw [if_neg (by rw [hb]; simp)]
  cases r with
  | zero =>
    rw [if_neg (by simp [runOf])]
    simp only [hn, gapI, List.append_nil, runOf, Nat.zero_add, Nat.succ_ne_zero, if_false, Nat.add_sub_cancel, List.append_assoc, List.singleton_append]
    simp
  | succ r =>
    have hr : runOf pre (r + 1) = (pre.length : Int) := by simp [runOf]
    rw [hr, if_pos (by lia)]
    simp only [Int.toNat_natCast, hn]
    have g0 : (pre ++ gapI (r + 1))[pre.length]? = some (-((r : Int) + 1)) := by rw [List.getElem?_append_right (Nat.le_refl _), Nat.sub_self]; rfl
    rw [g0, List.set_append_right _ _ (Nat.le_refl _), Nat.sub_self, List.append_assoc]
    refine Prod.ext ?_ ?_
    · show pre ++ ((gapI (r + 1)).set 0 (-((r : Int) + 1) - ((n + 1 : Nat) : Int)) ++ List.replicate (n + 1) 0) = _
      have := gap_grow r n
      rw [show ((n + 1 : Nat) : Int) = (n : Int) + 1 by lia, this]
    · show (pre.length : Int) = runOf pre (r + 1 + (n + 1))
      simp [runOf]
theorem swp_gaps {mem marked pre : List Int} {r n at_ : Nat} {bs : List Blk} : ((if n = 0 then [] else [((at_, n, true) : Blk)]) ++ bs).foldl (swp mem marked) (pre ++ gapI r, runOf pre r) = bs.foldl (swp mem marked) (pre ++ gapI (r + n), runOf pre (r + n)) := by
  cases n with
  | zero => simp
  | succ n =>
    simp only [Nat.add_eq_zero_iff, Nat.one_ne_zero, and_false, if_false, List.singleton_append, List.foldl_cons]
    rw [swp_free (n := n) (by simp) rfl]
theorem sweep_rend {size : Nat} {marked : List Int} {mem : List Int} : ∀ {at_ : Nat} {T : Tab} {pre0 pre : List Int} {r : Nat}, Fit at_ T size → pre0.length = at_ → mem = pre0 ++ rend at_ T size → pre.length + r = at_ →
    ((blks at_ T size).foldl (swp mem marked) (pre ++ gapI r, runOf pre r)).1 = pre ++ rend pre.length (T.filter fun e => decide ((adr e.1 : Int) ∈ marked)) size
  | at_, [], pre0, pre, r, h, hp, hm, hr => by
    have hle : at_ ≤ size := h
    have e := swp_gaps (mem := mem) (marked := marked) (pre := pre) (r := r) (n := size - at_) (at_ := at_) (bs := [])
    simp only [List.append_nil, List.foldl_nil] at e
    simp only [blks]
    rw [e]
    simp only [List.filter_nil, rend]
    rw [show r + (size - at_) = size - pre.length by lia]
  | at_, (p, row) :: T, pre0, pre, r, h, hp, hm, hr => by
    have h3 := h.2.2.1
    have hm0 := hm
    simp only [rend] at hm
    have hm2 : mem = (pre0 ++ gapI (adr p - at_) ++ ((row.length : Int) :: row)) ++ rend (adr p + row.length + 1) T size := by rw [hm]; simp
    have l2 : (pre0 ++ gapI (adr p - at_) ++ ((row.length : Int) :: row)).length = adr p + row.length + 1 := by simp [gapI_len, hp]; lia
    simp only [blks]
    rw [swp_gaps, List.foldl_cons]
    by_cases hk : ((adr p : Int) ∈ marked)
    · have e1 : swp mem marked (pre ++ gapI (r + (adr p - at_)), runOf pre (r + (adr p - at_))) (adr p, row.length + 1, false) = ((pre ++ gapI (r + (adr p - at_)) ++ ((row.length : Int) :: row)) ++ gapI 0, runOf (pre ++ gapI (r + (adr p - at_)) ++ ((row.length : Int) :: row)) 0) := by
        unfold swp
        rw [if_pos (by simp [hk])]
        refine Prod.ext ?_ ?_
        · show pre ++ gapI (r + (adr p - at_)) ++ (mem.take (adr p + (row.length + 1))).drop (adr p) = _
          have : (mem.take (adr p + (row.length + 1))).drop (adr p) = (row.length : Int) :: row := by
            rw [hm2, List.take_append_of_le_length (by lia), List.take_of_length_le (by lia)]
            rw [List.drop_left' (by simp [gapI_len, hp]; lia)]
          rw [this]; simp [gapI]
        · simp [runOf]
      rw [e1]
      have ih := sweep_rend (marked := marked) (pre := pre ++ gapI (r + (adr p - at_)) ++ ((row.length : Int) :: row)) (r := 0) h.2.2.2 l2 hm2 (by simp [gapI_len]; lia)
      rw [ih, List.filter_cons, if_pos (by simpa using hk)]
      simp only [rend]
      have l3 : (pre ++ gapI (r + (adr p - at_)) ++ ((row.length : Int) :: row)).length = adr p + row.length + 1 := by simp [gapI_len]; lia
      rw [l3, show r + (adr p - at_) = adr p - pre.length by lia]
      simp
    · have e1 := swp_free (mem := mem) (marked := marked) (pre := pre) (r := r + (adr p - at_)) (n := row.length) (b := (adr p, row.length + 1, false)) (by simpa using hk) rfl
      rw [e1]
      have ih := sweep_rend (marked := marked) (pre := pre) (r := r + (adr p - at_) + (row.length + 1)) h.2.2.2 l2 hm2 (by lia)
      rw [ih, List.filter_cons, if_neg (by simpa using hk)]
end Mine

/-! ## part C2 -/
set_option linter.unusedVariables false
/-! the plain order of a table's objects -/
namespace Mine

inductive Ord (T : Tab) : List Int → List Int → List Int → Prop
  | nil {m : List Int} : Ord T [] m m
  | hit {w : Int} {q m r row : List Int} : T.lookup w = some row → w ∉ m → Ord T (q ++ row) (m ++ [w]) r → Ord T (w :: q) m r
  | miss {w : Int} {q m r : List Int} : (T.lookup w = none ∨ w ∈ m) → Ord T q m r → Ord T (w :: q) m r

noncomputable def ordN (T : Tab) : Nat → List Int → List Int → List Int
  | 0, _, m => m
  | n + 1, [], m => ordN T n [] m
  | n + 1, w :: q, m => match T.lookup w with
    | some row => if w ∈ m then ordN T n q m else ordN T n (q ++ row) (m ++ [w])
    | none => ordN T n q m
theorem ordN_nil (T : Tab) (m : List Int) : ∀ n, ordN T n [] m = m
  | 0 => rfl
  | n + 1 => ordN_nil T m n

noncomputable def tot : Tab → List Int → Nat
  | [], _ => 0
  | e :: T, m => (if e.1 ∈ m then 0 else e.2.length) + tot T m
theorem tot_le (w : Int) (m : List Int) : ∀ T : Tab, tot T (m ++ [w]) ≤ tot T m
  | [] => Nat.le_refl _
  | e :: T => by
    have := tot_le w m T
    simp only [tot, List.mem_append, List.mem_singleton]
    split <;> split <;> simp_all <;> lia
theorem tot_hit {w : Int} {m row : List Int} (hw : w ∉ m) : ∀ {T : Tab}, T.lookup w = some row → tot T (m ++ [w]) + row.length ≤ tot T m
  | [], h => by simp at h
  | (p, r) :: T, h => by
    rw [List.lookup_cons] at h
    have := tot_le w m T
    by_cases e : w = p
    · subst e
      simp only [beq_self_eq_true] at h
      cases h
      simp only [tot, List.mem_append, List.mem_singleton, or_true, if_true, if_neg hw]; lia
    · have e' : (w == p) = false := by simpa using e
      rw [e'] at h
      have ih := tot_hit hw h
      have e2 : ¬ p = w := fun x => e x.symm
      simp only [tot, List.mem_append, List.mem_singleton, e2, or_false]
      lia
theorem ordN_spec {T : Tab} : ∀ (n : Nat) {q m : List Int}, q.length + tot T m ≤ n → Ord T q m (ordN T n q m)
  | 0, [], m, h => .nil
  | 0, w :: q, m, h => by simp at h
  | n + 1, [], m, h => by rw [ordN_nil]; exact .nil
  | n + 1, w :: q, m, h => by
    simp only [List.length_cons] at h
    unfold ordN
    cases e : T.lookup w with
    | none => exact .miss (.inl e) (ordN_spec n (by lia))
    | some row =>
      simp only
      by_cases hm : w ∈ m
      · rw [if_pos hm]; exact .miss (.inr hm) (ordN_spec n (by lia))
      · rw [if_neg hm]
        have := tot_hit hm e
        exact .hit e hm (ordN_spec n (by simp only [List.length_append]; lia))

theorem Ord.det {T : Tab} {q m r : List Int} (h : Ord T q m r) : ∀ {r' : List Int}, Ord T q m r' → r = r' := by
  induction h with
  | nil => intro r' h'; cases h'; rfl
  | hit e hm _ ih =>
    intro r' h'
    cases h' with
    | hit e' _ h' => rw [e] at e'; cases e'; exact ih h'
    | miss hx _ => rcases hx with hx | hx
                   · rw [e] at hx; cases hx
                   · exact absurd hx hm
  | miss hx _ ih =>
    intro r' h'
    cases h' with
    | hit e' hm' h' => rcases hx with hx | hx
                       · rw [e'] at hx; cases hx
                       · exact absurd hx hm'
    | miss _ h' => exact ih h'
theorem Ord.pre {T : Tab} {q m r : List Int} (h : Ord T q m r) : m <+: r := by
  induction h with
  | nil => exact List.prefix_refl _
  | hit _ _ _ ih => exact List.IsPrefix.trans (List.prefix_append _ _) ih
  | miss _ _ ih => exact ih
theorem Ord.sub {T : Tab} {q m r : List Int} (h : Ord T q m r) {w : Int} (hw : w ∈ m) : w ∈ r := h.pre.subset hw
theorem Ord.roots {T : Tab} {q m r : List Int} (h : Ord T q m r) : ∀ w ∈ q, (T.lookup w).isSome → w ∈ r := by
  induction h with
  | nil => intro w hw; cases hw
  | hit e hm h ih =>
    intro w hw hs
    rcases List.mem_cons.mp hw with rfl | hw
    · exact h.sub (by simp)
    · exact ih w (by simp [hw]) hs
  | miss hx h ih =>
    intro w hw hs
    rcases List.mem_cons.mp hw with rfl | hw
    · rcases hx with hx | hx
      · rw [hx] at hs; cases hs
      · exact h.sub hx
    · exact ih w hw hs
/-- closed: what its rows name lies in it -/
noncomputable def Closed (T : Tab) (S : List Int) : Prop := ∀ p ∈ S, ∃ row, T.lookup p = some row ∧ ∀ u ∈ row, (T.lookup u).isSome → u ∈ S
theorem Ord.closed {T : Tab} {q m r : List Int} (h : Ord T q m r) : (∀ p ∈ m, ∃ row, T.lookup p = some row ∧ ∀ u ∈ row, (T.lookup u).isSome → u ∈ m ∨ u ∈ q) → Closed T r := by
  induction h with
  | nil =>
    intro hm p hp
    obtain ⟨row, e, hu⟩ := hm p hp
    exact ⟨row, e, fun u h1 h2 => (hu u h1 h2).elim id fun x => nomatch x⟩
  | @hit w q m r row e hw h ih =>
    intro hm
    refine ih fun p hp => ?_
    rcases List.mem_append.mp hp with hp | hp
    · obtain ⟨row', e', hu⟩ := hm p hp
      refine ⟨row', e', fun u h1 h2 => ?_⟩
      rcases hu u h1 h2 with x | x
      · exact .inl (by simp [x])
      · rcases List.mem_cons.mp x with rfl | x
        · exact .inl (by simp)
        · exact .inr (by simp [x])
    · simp at hp; subst hp
      exact ⟨row, e, fun u h1 h2 => .inr (by simp [h1])⟩
  | @miss w q m r hx h ih =>
    intro hm
    refine ih fun p hp => ?_
    obtain ⟨row', e', hu⟩ := hm p hp
    refine ⟨row', e', fun u h1 h2 => ?_⟩
    rcases hu u h1 h2 with x | x
    · exact .inl x
    · rcases List.mem_cons.mp x with rfl | x
      · rcases hx with hx | hx
        · rw [hx] at h2; cases h2
        · exact .inl hx
      · exact .inr x
theorem Ord.closed0 {T : Tab} {q r : List Int} (h : Ord T q [] r) : Closed T r := h.closed fun p hp => nomatch hp
/-- least: within any closed set that holds the roots -/
theorem Ord.least {T : Tab} {S : List Int} (hS : Closed T S) {q m r : List Int} (h : Ord T q m r) : (∀ w ∈ q, (T.lookup w).isSome → w ∈ S) → (∀ w ∈ m, w ∈ S) → ∀ w ∈ r, w ∈ S := by
  induction h with
  | nil => intro _ hm; exact hm
  | @hit w q m r row e hw h ih =>
    intro hq hm
    have hwS : w ∈ S := hq w (.head _) (by rw [e]; rfl)
    obtain ⟨row', e', hu⟩ := hS w hwS
    rw [e] at e'; cases e'
    refine ih (fun u hu' hs => ?_) (fun u hu' => ?_)
    · rcases List.mem_append.mp hu' with x | x
      · exact hq u (.tail _ x) hs
      · exact hu u x hs
    · rcases List.mem_append.mp hu' with x | x
      · exact hm u x
      · simp at x; subst x; exact hwS
  | miss hx h ih => intro hq hm; exact ih (fun u hu => hq u (.tail _ hu)) hm
theorem Ord.nodup {T : Tab} {q m r : List Int} (h : Ord T q m r) : m.Nodup → r.Nodup := by
  induction h with
  | nil => exact id
  | hit e hm h ih =>
    intro hn
    refine ih (List.nodup_append.mpr ⟨hn, by simp, fun a ha b hb => ?_⟩)
    simp at hb; subst hb; rintro rfl; exact hm ha
  | miss _ _ ih => exact ih
theorem Ord.keys {T : Tab} {q m r : List Int} (h : Ord T q m r) : (∀ w ∈ m, (T.lookup w).isSome) → ∀ w ∈ r, (T.lookup w).isSome := by
  induction h with
  | nil => exact id
  | hit e hm h ih =>
    intro hn
    refine ih fun u hu => ?_
    rcases List.mem_append.mp hu with x | x
    · exact hn u x
    · simp at x; subst x; rw [e]; rfl
  | miss _ _ ih => exact ih

/-- the table cut down to S -/
noncomputable def only (T : Tab) (S : List Int) : Tab := T.filter fun e => decide (e.1 ∈ S)
theorem only_look {S : List Int} {w : Int} : ∀ {T : Tab}, (only T S).lookup w = if w ∈ S then T.lookup w else none
  | [] => by simp [only]
  | (p, row) :: T => by
    have ih := only_look (S := S) (w := w) (T := T)
    unfold only at ih ⊢
    rw [List.filter_cons]
    by_cases hp : p ∈ S
    · rw [if_pos (by simpa using hp), List.lookup_cons, List.lookup_cons, ih]
      by_cases e : w = p
      · subst e; simp [hp]
      · have e' : (w == p) = false := by simpa using e
        rw [e']
    · rw [if_neg (by simpa using hp), ih, List.lookup_cons]
      by_cases e : w = p
      · subst e; simp [hp]
      · have e' : (w == p) = false := by simpa using e
        rw [e']
theorem Ord.only {T : Tab} {S : List Int} (hS : Closed T S) {q m r : List Int} (h : Ord T q m r) : (∀ w ∈ q, (T.lookup w).isSome → w ∈ S) → Ord (only T S) q m r := by
  induction h with
  | nil => intro _; exact .nil
  | @hit w q m r row e hw h ih =>
    intro hq
    have hwS : w ∈ S := hq w (.head _) (by rw [e]; rfl)
    obtain ⟨row', e', hu⟩ := hS w hwS
    rw [e] at e'; cases e'
    refine .hit (by rw [only_look, if_pos hwS, e]) hw (ih fun u hu' hs => ?_)
    rcases List.mem_append.mp hu' with x | x
    · exact hq u (.tail _ x) hs
    · exact hu u x hs
  | @miss w q m r hx h ih =>
    intro hq
    refine .miss ?_ (ih fun u hu => hq u (.tail _ hu))
    rcases hx with hx | hx
    · left; rw [only_look]; split <;> simp [hx]
    · exact .inr hx
/-- renaming -/
theorem Ord.map {T T2 : Tab} {f : Int → Int} {P : Int → Prop} (hP : ∀ w row, P w → T.lookup w = some row → ∀ u ∈ row, P u) (hf : ∀ w, P w → T2.lookup (f w) = (T.lookup w).map (List.map f))
    (hi : ∀ u w, P u → P w → (T.lookup u).isSome → (T.lookup w).isSome → f u = f w → u = w) {q m r : List Int} (h : Ord T q m r) : (∀ w ∈ q, P w) → (∀ w ∈ m, P w ∧ (T.lookup w).isSome) → Ord T2 (q.map f) (m.map f) (r.map f) := by
  induction h with
  | nil => intro _ _; exact .nil
  | @hit w q m r row e hw h ih =>
    intro hq hm
    have hw' : P w := hq w (.head _)
    have hs : (T.lookup w).isSome := by rw [e]; rfl
    have := ih (fun u hu => by
      rcases List.mem_append.mp hu with x | x
      · exact hq u (.tail _ x)
      · exact hP w row hw' e u x) (fun u hu => by
      rcases List.mem_append.mp hu with x | x
      · exact hm u x
      · simp at x; subst x; exact ⟨hw', hs⟩)
    rw [List.map_append, List.map_append] at this
    refine .hit (by rw [hf w hw', e]; rfl) (fun hx => ?_) this
    obtain ⟨u, hu, e'⟩ := List.mem_map.mp hx
    obtain ⟨a, b⟩ := hm u hu
    have := hi u w a hw' b hs e'
    subst this
    exact hw hu
  | @miss w q m r hx h ih =>
    intro hq hm
    have hw' : P w := hq w (.head _)
    refine .miss ?_ (ih (fun u hu => hq u (.tail _ hu)) hm)
    rcases hx with hx | hx
    · left; rw [hf w hw', hx]; rfl
    · right; exact List.mem_map_of_mem hx

/-! the other way of the walk: looked at when met -/
noncomputable def addK (T : Tab) (m : List Int) (w : Int) : List Int := if (T.lookup w).isSome = true ∧ w ∉ m then m ++ [w] else m
inductive Rch (T : Tab) : Nat → List Int → List Int → Prop
  | done {k : Nat} {m : List Int} : k = m.length → Rch T k m m
  | step {k : Nat} {m r row : List Int} {w : Int} : m[k]? = some w → T.lookup w = some row → Rch T (k + 1) (row.foldl (addK T) m) r → Rch T k m r
theorem addK_pre {T : Tab} {m : List Int} {w : Int} : m <+: addK T m w := by
  unfold addK; split
  · exact List.prefix_append _ _
  · exact List.prefix_refl _
theorem adds_pre {T : Tab} : ∀ {q m : List Int}, m <+: q.foldl (addK T) m
  | [], _ => List.prefix_refl _
  | w :: q, m => List.IsPrefix.trans addK_pre (adds_pre (q := q))
theorem Ord.rch {T : Tab} {q m r : List Int} (h : Ord T q m r) : Rch T m.length (q.foldl (addK T) m) r := by
  induction h with
  | nil => exact .done rfl
  | @hit w q m r row e hw h ih =>
    rw [List.foldl_append, List.length_append] at ih
    have e1 : addK T m w = m ++ [w] := by unfold addK; rw [if_pos ⟨by rw [e]; rfl, hw⟩]
    rw [List.foldl_cons, e1]
    refine .step (w := w) (row := row) ?_ e ih
    obtain ⟨t, ht⟩ := adds_pre (T := T) (q := q) (m := m ++ [w])
    rw [← ht]; simp
  | @miss w q m r hx h ih =>
    have e1 : addK T m w = m := by
      unfold addK; rw [if_neg]
      rintro ⟨a, b⟩
      rcases hx with hx | hx
      · rw [hx] at a; cases a
      · exact b hx
    rw [List.foldl_cons, e1]; exact ih
end Mine

/-! ## part C3 -/
set_option linter.unusedVariables false
/-! packing -/
namespace Mine

noncomputable def rowOf (T : Tab) (p : Int) : List Int := (T.lookup p).getD []
noncomputable def topA (T : Tab) : Nat → List Int → Nat
  | at_, [] => at_
  | at_, p :: r => topA T (at_ + (rowOf T p).length + 1) r
noncomputable def plc (T : Tab) : Nat → List Int → List (Int × Int)
  | _, [] => []
  | at_, p :: r => (p, 2 * (at_ : Int) + 1) :: plc T (at_ + (rowOf T p).length + 1) r
noncomputable def plW (T : Tab) (r : List Int) (w : Int) : Int := ((plc T 0 r).lookup w).getD w
noncomputable def pk (T : Tab) (g : Int → Int) (r : List Int) : List Int := r.flatMap fun p => ((rowOf T p).length : Int) :: (rowOf T p).map g
noncomputable def tab2 (T : Tab) (g : Int → Int) : Nat → List Int → Tab
  | _, [] => []
  | at_, p :: r => (2 * (at_ : Int) + 1, (rowOf T p).map g) :: tab2 T g (at_ + (rowOf T p).length + 1) r

variable {T : Tab}
theorem topA_append : ∀ {at_ : Nat} {r s : List Int}, topA T at_ (r ++ s) = topA T (topA T at_ r) s
  | _, [], _ => rfl
  | _, p :: r, s => topA_append (r := r)
theorem topA_le : ∀ {at_ : Nat} {r : List Int}, at_ ≤ topA T at_ r
  | _, [] => Nat.le_refl _
  | at_, p :: r => by have := topA_le (at_ := at_ + (rowOf T p).length + 1) (r := r); simp only [topA]; lia
theorem plc_append : ∀ {at_ : Nat} {r s : List Int}, plc T at_ (r ++ s) = plc T at_ r ++ plc T (topA T at_ r) s
  | _, [], _ => rfl
  | _, p :: r, s => by simp only [List.cons_append, plc, topA, plc_append (r := r)]
theorem plc_keys : ∀ {at_ : Nat} {r : List Int}, (plc T at_ r).map (·.1) = r
  | _, [] => rfl
  | _, p :: r => by simp only [plc, List.map_cons, plc_keys (r := r)]
theorem plc_len {at_ : Nat} {r : List Int} : (plc T at_ r).length = r.length := by rw [← List.length_map (f := (·.1)), plc_keys]
theorem look_none {α : Type} {l : List (Int × α)} {w : Int} : w ∉ l.map (·.1) → l.lookup w = none := by
  induction l with
  | nil => intro _; rfl
  | cons e l ih =>
    intro h
    obtain ⟨p, v⟩ := e
    simp only [List.map_cons, List.mem_cons, not_or] at h
    rw [List.lookup_cons, show (w == p) = false by simpa using h.1]
    exact ih h.2
theorem look_some {α : Type} {l : List (Int × α)} {w : Int} : w ∈ l.map (·.1) → ∃ v, l.lookup w = some v := by
  induction l with
  | nil => intro h; cases h
  | cons e l ih =>
    intro h
    obtain ⟨p, v⟩ := e
    rw [List.lookup_cons]
    by_cases e : w = p
    · subst e; exact ⟨v, by simp⟩
    · rw [show (w == p) = false by simpa using e]
      simp only [List.map_cons, List.mem_cons] at h
      exact ih (h.resolve_left e)
theorem look_mem {α : Type} {l : List (Int × α)} {w : Int} {v : α} : l.lookup w = some v → (w, v) ∈ l := by
  induction l with
  | nil => intro h; cases h
  | cons e l ih =>
    obtain ⟨p, u⟩ := e
    rw [List.lookup_cons]
    by_cases e : w = p
    · subst e; simp only [beq_self_eq_true, Option.some.injEq]; rintro rfl; exact .head _
    · rw [show (w == p) = false by simpa using e]
      intro h; exact .tail _ (ih h)
theorem plW_out {r : List Int} {w : Int} (h : w ∉ r) : plW T r w = w := by
  unfold plW; rw [look_none (by rw [plc_keys]; exact h)]; rfl
theorem plW_stay {m e : List Int} {w : Int} (h : w ∈ m) : plW T (m ++ e) w = plW T m w := by
  obtain ⟨v, hv⟩ := look_some (l := plc T 0 m) (w := w) (by rw [plc_keys]; exact h)
  unfold plW; rw [plc_append, List.lookup_append, hv]; rfl
theorem plW_new {m : List Int} {w : Int} (h : w ∉ m) : plW T (m ++ [w]) w = 2 * (topA T 0 m : Int) + 1 := by
  unfold plW; rw [plc_append, List.lookup_append, look_none (by rw [plc_keys]; exact h)]
  simp [plc, List.lookup_cons]
theorem plW_pre {m r : List Int} (hp : m <+: r) {w : Int} (h : w ∈ m ∨ w ∉ r) : plW T r w = plW T m w := by
  obtain ⟨e, rfl⟩ := hp
  rcases h with h | h
  · exact plW_stay h
  · rw [plW_out h, plW_out fun x => h (by simp [x])]
theorem plc_val : ∀ {at_ : Nat} {r : List Int} {p v : Int}, (plc T at_ r).lookup p = some v → ∃ o : Nat, v = 2 * (o : Int) + 1 ∧ at_ ≤ o ∧ o < topA T at_ r
  | _, [], _, _, h => by simp [plc] at h
  | at_, q :: r, p, v, h => by
    simp only [plc, List.lookup_cons] at h
    have := topA_le (T := T) (at_ := at_ + (rowOf T q).length + 1) (r := r)
    by_cases e : p = q
    · subst e; simp only [beq_self_eq_true, Option.some.injEq] at h
      exact ⟨at_, h.symm, Nat.le_refl _, by simp only [topA]; lia⟩
    · rw [show (p == q) = false by simpa using e] at h
      obtain ⟨o, a, b, c⟩ := plc_val h
      exact ⟨o, a, by lia, c⟩
theorem plc_inj : ∀ {at_ : Nat} {r : List Int} {p q v : Int}, (plc T at_ r).lookup p = some v → (plc T at_ r).lookup q = some v → p = q
  | _, [], _, _, _, h, _ => by simp [plc] at h
  | at_, s :: r, p, q, v, h, h' => by
    simp only [plc, List.lookup_cons] at h h'
    by_cases e : p = s <;> by_cases e' : q = s
    · rw [e, e']
    · subst e
      simp only [beq_self_eq_true, Option.some.injEq] at h
      rw [show (q == p) = false by simpa using e'] at h'
      obtain ⟨o, a, b, c⟩ := plc_val h'
      lia
    · subst e'
      simp only [beq_self_eq_true, Option.some.injEq] at h'
      rw [show (p == q) = false by simpa using e] at h
      obtain ⟨o, a, b, c⟩ := plc_val h
      lia
    · rw [show (p == s) = false by simpa using e] at h
      rw [show (q == s) = false by simpa using e'] at h'
      exact plc_inj h h'
theorem plW_some {r : List Int} {p : Int} (h : p ∈ r) : (plc T 0 r).lookup p = some (plW T r p) := by
  obtain ⟨v, hv⟩ := look_some (l := plc T 0 r) (w := p) (by rw [plc_keys]; exact h)
  unfold plW; rw [hv]; rfl
theorem plW_odd {r : List Int} {p : Int} (h : p ∈ r) : plW T r p % 2 = 1 ∧ 0 ≤ plW T r p ∧ adr (plW T r p) < topA T 0 r := by
  obtain ⟨o, a, b, c⟩ := plc_val (plW_some (T := T) h)
  rw [a]; unfold adr; lia
theorem plW_inj {r : List Int} {p q : Int} (hp : p ∈ r) (hq : q ∈ r) (h : plW T r p = plW T r q) : p = q :=
  plc_inj (plW_some hp) (by rw [h]; exact plW_some hq)
theorem tab2_look {g : Int → Int} : ∀ {at_ : Nat} {r : List Int} {p v : Int}, (plc T at_ r).lookup p = some v → (tab2 T g at_ r).lookup v = some ((rowOf T p).map g)
  | _, [], _, _, h => by simp [plc] at h
  | at_, q :: r, p, v, h => by
    simp only [plc, List.lookup_cons] at h
    simp only [tab2, List.lookup_cons]
    by_cases e : p = q
    · subst e; simp only [beq_self_eq_true, Option.some.injEq] at h
      subst h; simp
    · rw [show (p == q) = false by simpa using e] at h
      obtain ⟨o, a, b, c⟩ := plc_val h
      rw [show (v == 2 * (at_ : Int) + 1) = false by simp; lia]
      exact tab2_look h
theorem tab2_even {g : Int → Int} {v : Int} (hv : v % 2 = 0) : ∀ {at_ : Nat} {r : List Int}, (tab2 T g at_ r).lookup v = none
  | _, [] => rfl
  | at_, q :: r => by
    simp only [tab2, List.lookup_cons]
    rw [show (v == 2 * (at_ : Int) + 1) = false by simp; lia]
    exact tab2_even hv
theorem adr_of (n : Nat) : adr (2 * (n : Int) + 1) = n := by unfold adr; lia
theorem tab2_fit {g : Int → Int} {size : Nat} : ∀ {at_ : Nat} {r : List Int}, topA T at_ r ≤ size → Fit at_ (tab2 T g at_ r) size
  | _, [], h => h
  | at_, q :: r, h => by
    refine ⟨by lia, by lia, by rw [adr_of]; exact Nat.le_refl _, ?_⟩
    rw [adr_of, List.length_map]; exact tab2_fit h
theorem tab2_rend {g : Int → Int} {size : Nat} : ∀ {at_ : Nat} {r : List Int}, rend at_ (tab2 T g at_ r) size = pk T g r ++ gapI (size - topA T at_ r)
  | _, [] => rfl
  | at_, q :: r => by
    have ih := tab2_rend (g := g) (size := size) (at_ := at_ + (rowOf T q).length + 1) (r := r)
    simp only [tab2, rend, adr_of, Nat.sub_self, gapI, List.nil_append, List.length_map, ih, pk, List.flatMap_cons, topA, List.append_assoc]

/-! room -/
noncomputable def wtN : Tab → List Int → Nat
  | [], _ => 0
  | e :: T, m => (if e.1 ∈ m then 0 else e.2.length + 1) + wtN T m
theorem wtN_le (w : Int) (m : List Int) : ∀ T : Tab, wtN T (m ++ [w]) ≤ wtN T m
  | [] => Nat.le_refl _
  | e :: T => by
    have := wtN_le w m T
    simp only [wtN, List.mem_append, List.mem_singleton]
    split <;> split <;> simp_all <;> lia
theorem wtN_hit {w : Int} {m row : List Int} (hw : w ∉ m) : ∀ {T : Tab}, T.lookup w = some row → wtN T (m ++ [w]) + (row.length + 1) ≤ wtN T m
  | [], h => by simp at h
  | (p, r) :: T, h => by
    rw [List.lookup_cons] at h
    have := wtN_le w m T
    by_cases e : w = p
    · subst e
      simp only [beq_self_eq_true] at h
      cases h
      simp only [wtN, List.mem_append, List.mem_singleton, or_true, if_true, if_neg hw]; lia
    · have e' : (w == p) = false := by simpa using e
      rw [e'] at h
      have ih := wtN_hit hw h
      have e2 : ¬ p = w := fun x => e x.symm
      simp only [wtN, List.mem_append, List.mem_singleton, e2, or_false]
      lia
theorem fit_wt : ∀ {at_ : Nat} {T : Tab} {size : Nat}, Fit at_ T size → at_ + wtN T [] ≤ size
  | _, [], _, h => h
  | at_, (p, row) :: T, size, h => by
    have := fit_wt h.2.2.2
    have := h.2.2.1
    simp only [wtN, List.not_mem_nil, if_false]; lia
theorem top_room : ∀ {s m : List Int}, (m ++ s).Nodup → (∀ w ∈ s, (T.lookup w).isSome) → topA T (topA T 0 m) s + wtN T (m ++ s) ≤ topA T 0 m + wtN T m
  | [], m, _, _ => by simp [topA]
  | w :: s, m, hn, hk => by
    have hw : w ∉ m := by
      intro h
      have := (List.nodup_append.mp hn).2.2 w h w (.head _)
      exact this rfl
    obtain ⟨row, e⟩ := Option.isSome_iff_exists.mp (hk w (.head _))
    have h1 := wtN_hit hw e
    have h2 := top_room (s := s) (m := m ++ [w]) (by simpa using hn) (fun u hu => hk u (.tail _ hu))
    have e2 : topA T 0 (m ++ [w]) = topA T 0 m + row.length + 1 := by rw [topA_append]; simp [topA, rowOf, e]
    rw [e2] at h2
    simp only [topA, rowOf, e, Option.getD_some]
    rw [List.append_assoc] at h2
    simp only [List.singleton_append] at h2
    lia
theorem top_size {size : Nat} (h : Fit 0 T size) {r : List Int} (hn : r.Nodup) (hk : ∀ w ∈ r, (T.lookup w).isSome) : topA T 0 r ≤ size := by
  have h1 := top_room (T := T) (s := r) (m := []) (by simpa using hn) hk
  have h2 := fit_wt h
  simp only [topA, List.nil_append] at h1
  lia
end Mine

/-! ## part B1 -/
set_option linter.unusedVariables false
/-! deep data behind the ledger -/
namespace Mine
set_option genSizeOf false in
set_option genInjectivity false in
inductive D where
  | none | bool (b : Bool) | int (i : Int) | list (ds : List D) | tup (ds : List D) | dict (es : List (Int × D))
noncomputable abbrev Kv (P : V → D → Prop) (e : Int × V) (d : Int × D) : Prop := e.1 = d.1 ∧ P e.2 d.2
/-- one layer of data -/
noncomputable def Lay (Λ : Led) (P : V → D → Prop) (v : V) : D → Prop
  | .none => v = .none
  | .bool b => v = .bool b
  | .int i => v = .int i
  | .list ds => ∃ k xs, v = .ref k ∧ Λ[k]? = some (.list xs) ∧ All2 P xs ds
  | .tup ds => ∃ k xs, v = .ref k ∧ Λ[k]? = some (.tup xs) ∧ All2 P xs ds
  | .dict ds => ∃ k es, v = .ref k ∧ Λ[k]? = some (.dict es) ∧ All2 (Kv P) es ds
noncomputable def Den (Λ : Led) (v : V) (d : D) : Prop := ∀ P : V → D → Prop, (∀ v d, Lay Λ P v d → P v d) → P v d
noncomputable abbrev Dens (Λ : Led) : List V → List D → Prop := All2 (Den Λ)
noncomputable abbrev DenKv (Λ : Led) : List (Int × V) → List (Int × D) → Prop := All2 (Kv (Den Λ))

theorem pre_at {Λ Λ' : Led} (h : Λ <+: Λ') {k : Nat} {o : O} (e : Λ[k]? = some o) : Λ'[k]? = some o := by
  obtain ⟨t, rfl⟩ := h
  rw [List.getElem?_append_left (List.getElem?_eq_some_iff.mp e).1]; exact e
theorem ptr {α : Type} {a b c : List α} (h : a <+: b) (h' : b <+: c) : a <+: c := List.IsPrefix.trans h h'
theorem prf (Λ : Led) : Λ <+: Λ := List.prefix_refl _
theorem pap (Λ t : Led) : Λ <+: Λ ++ t := List.prefix_append _ _

theorem Lay.mono {Λ Λ' : Led} (h : Λ <+: Λ') {P Q : V → D → Prop} (hp : ∀ v d, P v d → Q v d) {v : V} {d : D} (r : Lay Λ P v d) : Lay Λ' Q v d := by
  cases d with
  | none => exact r
  | bool => exact r
  | int => exact r
  | list => obtain ⟨k, xs, e1, e2, a⟩ := r; exact ⟨k, xs, e1, pre_at h e2, a.mono hp⟩
  | tup => obtain ⟨k, xs, e1, e2, a⟩ := r; exact ⟨k, xs, e1, pre_at h e2, a.mono hp⟩
  | dict => obtain ⟨k, xs, e1, e2, a⟩ := r; exact ⟨k, xs, e1, pre_at h e2, a.mono fun _ _ x => ⟨x.1, hp _ _ x.2⟩⟩
theorem Den.mk {Λ : Led} {v : V} {d : D} (h : Lay Λ (Den Λ) v d) : Den Λ v d := fun P hP => hP v d (h.mono (prf Λ) fun v d k => k P hP)
theorem Den.inv {Λ : Led} {v : V} {d : D} (h : Den Λ v d) : Lay Λ (Den Λ) v d := h (Lay Λ (Den Λ)) fun _ _ k => k.mono (prf Λ) fun _ _ => Den.mk
theorem Den.mono {Λ Λ' : Led} (h : Λ <+: Λ') {v : V} {d : D} (r : Den Λ v d) : Den Λ' v d := r (Den Λ') fun _ _ k => Den.mk (k.mono h fun _ _ => id)
theorem Dens.mono {Λ Λ' : Led} (h : Λ <+: Λ') {v : List V} {d : List D} (r : Dens Λ v d) : Dens Λ' v d := All2.mono (fun _ _ => Den.mono h) r
theorem DenKv.mono {Λ Λ' : Led} (h : Λ <+: Λ') {v : List (Int × V)} {d : List (Int × D)} (r : DenKv Λ v d) : DenKv Λ' v d := All2.mono (fun _ _ x => ⟨x.1, x.2.mono h⟩) r
theorem Den.none {Λ : Led} : Den Λ .none .none := .mk rfl
theorem Den.bool {Λ : Led} (b : Bool) : Den Λ (.bool b) (.bool b) := .mk rfl
theorem Den.int {Λ : Led} (i : Int) : Den Λ (.int i) (.int i) := .mk rfl
theorem Den.list {Λ : Led} {k : Nat} {xs : List V} {ds : List D} (e : Λ[k]? = some (.list xs)) (r : Dens Λ xs ds) : Den Λ (.ref k) (.list ds) := .mk ⟨k, xs, rfl, e, r⟩
theorem Den.tup {Λ : Led} {k : Nat} {xs : List V} {ds : List D} (e : Λ[k]? = some (.tup xs)) (r : Dens Λ xs ds) : Den Λ (.ref k) (.tup ds) := .mk ⟨k, xs, rfl, e, r⟩
theorem Den.dict {Λ : Led} {k : Nat} {xs : List (Int × V)} {ds : List (Int × D)} (e : Λ[k]? = some (.dict xs)) (r : DenKv Λ xs ds) : Den Λ (.ref k) (.dict ds) := .mk ⟨k, xs, rfl, e, r⟩

theorem Dens.intsD {Λ : Led} (l : List Int) : Dens Λ (l.map V.int) (l.map D.int) := All2.map _ _ Den.int l
theorem Den.intOf {Λ : Led} {v : V} {i : Int} (h : Den Λ v (.int i)) : v = .int i := h.inv
theorem Dens.of_ints {Λ : Led} {vs : List V} {l : List Int} (h : Dens Λ vs (l.map D.int)) : vs = l.map V.int := by
  induction l generalizing vs with
  | nil => exact h.unN
  | cons i l ih =>
    obtain ⟨a, as, rfl, h, k⟩ := h.unL
    rw [h.intOf, ih k]; rfl

noncomputable abbrev D.ints (l : List Int) : D := .list (l.map .int)
theorem Den.boolOf {Λ : Led} {v : V} {i : Bool} (h : Den Λ v (.bool i)) : v = .bool i := h.inv
theorem Den.noneOf {Λ : Led} {v : V} (h : Den Λ v .none) : v = .none := h.inv
theorem Den.listOf {Λ : Led} {v : V} {ds : List D} (h : Den Λ v (.list ds)) : ∃ k xs, v = .ref k ∧ Λ[k]? = some (.list xs) ∧ Dens Λ xs ds := h.inv
theorem Den.tupOf {Λ : Led} {v : V} {ds : List D} (h : Den Λ v (.tup ds)) : ∃ k xs, v = .ref k ∧ Λ[k]? = some (.tup xs) ∧ Dens Λ xs ds := h.inv
theorem Den.dictOf {Λ : Led} {v : V} {ds : List (Int × D)} (h : Den Λ v (.dict ds)) : ∃ k xs, v = .ref k ∧ Λ[k]? = some (.dict xs) ∧ DenKv Λ xs ds := h.inv
theorem Den.intsOf {Λ : Led} {v : V} {l : List Int} (h : Den Λ v (.ints l)) : ∃ k, v = .ref k ∧ Λ[k]? = some (.list (l.map .int)) := by
  obtain ⟨k, xs, rfl, e, r⟩ := h.listOf
  exact ⟨k, rfl, r.of_ints ▸ e⟩
theorem Den.ofInts {Λ : Led} {k : Nat} {l : List Int} (h : Λ[k]? = some (.list (l.map .int))) : Den Λ (.ref k) (.ints l) := .list h (Dens.intsD l)

namespace DenKv
variable {Λ : Led} {vs : List (Int × V)} {ds : List (Int × D)}
theorem keys (h : DenKv Λ vs ds) : vs.map (·.1) = ds.map (·.1) := by
  induction h with
  | nil => rfl
  | cons a _ ih => rw [List.map_cons, List.map_cons, a.1, ih]
theorem look (h : DenKv Λ vs ds) (i : Int) : (∀ d, ds.lookup i = some d → ∃ v, vs.lookup i = some v ∧ Den Λ v d) ∧ (ds.lookup i = none → vs.lookup i = none) := by
  induction h with
  | nil => exact ⟨fun d h => (by cases h), fun _ => rfl⟩
  | @cons p q _ _ a _ ih =>
    obtain ⟨k, v⟩ := p
    obtain ⟨k', d⟩ := q
    obtain ⟨rfl, a⟩ := a
    rw [List.lookup_cons, List.lookup_cons]
    cases e : (i == k) with
    | true => exact ⟨fun d h => Option.some.inj h ▸ ⟨_, rfl, a⟩, fun h => by cases h⟩
    | false => exact ih
end DenKv

/-! steps -/
theorem asList_at {Λ : Led} {k : Nat} {xs : List V} (e : Λ[k]? = some (.list xs)) : asList Λ (.ref k) = some xs := by simp only [asList, e]
theorem asTup_at {Λ : Led} {k : Nat} {xs : List V} (e : Λ[k]? = some (.tup xs)) : asTup Λ (.ref k) = some xs := by simp only [asTup, e]
theorem asDict_at {Λ : Led} {k : Nat} {xs : List (Int × V)} (e : Λ[k]? = some (.dict xs)) : asDict Λ (.ref k) = some xs := by simp only [asDict, e]
theorem new_at (Λ : Led) (o : O) : (Λ ++ [o])[Λ.length]? = some o := by simp

/-- the deep environment -/
noncomputable abbrev DV := List (Option D)
noncomputable def gd (ds : DV) (i : Nat) : Option D := ds[i]?.join
structure EnvD (vs : Vars) (Λ : Led) (ds : DV) : Prop where
  len : vs.length = ds.length
  at_ : ∀ i d, gd ds i = some d → ∃ v, getV vs i = some v ∧ Den Λ v d
theorem EnvD.mono {vs : Vars} {Λ Λ' : Led} {ds : DV} (E : EnvD vs Λ ds) (h : Λ <+: Λ') : EnvD vs Λ' ds := ⟨E.len, fun i d e => (E.at_ i d e).elim fun v a => ⟨v, a.1, a.2.mono h⟩⟩
theorem EnvD.cons {vs : Vars} {Λ : Led} {ds : DV} (E : EnvD vs Λ ds) {v : V} {d : D} (h : Den Λ v d) : EnvD (some v :: vs) Λ (some d :: ds) := by
  refine ⟨congrArg Nat.succ E.len, fun j e he => ?_⟩
  cases j with
  | zero => exact ⟨v, rfl, Option.some.inj he ▸ h⟩
  | succ j => exact E.at_ j e he
theorem EnvD.skip {vs : Vars} {Λ : Led} {ds : DV} (E : EnvD vs Λ ds) {v : Option V} : EnvD (v :: vs) Λ (none :: ds) := by
  refine ⟨congrArg Nat.succ E.len, fun j e he => ?_⟩
  cases j with
  | zero => cases he
  | succ j => exact E.at_ j e he
theorem EnvD.set {vs : Vars} {Λ : Led} {ds : DV} (E : EnvD vs Λ ds) {i : Nat} {v : V} {d : D} (h : Den Λ v d) : EnvD (vs.set i (some v)) Λ (ds.set i (some d)) := by
  refine ⟨by rw [List.length_set, List.length_set, E.len], fun j e he => ?_⟩
  unfold gd at he
  unfold getV
  rw [List.getElem?_set] at he ⊢
  rw [E.len]
  split at he
  · split at he
    · rename_i h1 h2; rw [if_pos h1, if_pos h2]; exact ⟨v, rfl, Option.some.inj he ▸ h⟩
    · cases he
  · rename_i h1; rw [if_neg h1]; exact E.at_ j e he
theorem EnvD.nil {Λ : Led} : EnvD [] Λ [] := ⟨rfl, fun j e he => by cases he⟩
theorem EnvD.nones {Λ : Led} (n : Nat) : EnvD (List.replicate n none) Λ (List.replicate n none) := by
  induction n with
  | zero => exact .nil
  | succ n ih => exact ih.skip
theorem EnvD.args {Λ : Led} {vs : List V} {ds : List D} (r : Dens Λ vs ds) (n : Nat) : EnvD (vs.map some ++ List.replicate n none) Λ (ds.map some ++ List.replicate n none) := by
  induction r with
  | nil => exact EnvD.nones n
  | cons a _ ih => exact ih.cons a
theorem EnvD.caps {vs : Vars} {Λ : Led} {ds : DV} (E : EnvD vs Λ ds) (caps : List Nat) : EnvD (capsOf caps vs) Λ (caps.map (gd ds)) := by
  induction caps with
  | nil => exact .nil
  | cons c cs ih =>
    show EnvD (getV vs c :: capsOf cs vs) Λ (gd ds c :: cs.map (gd ds))
    cases h : gd ds c with
    | none => exact ih.skip
    | some d =>
      obtain ⟨v, e, r⟩ := E.at_ c d h
      rw [e]; exact ih.cons r

/-! judgements -/
section
set_option genSizeOf false
set_option genInjectivity false
/-- a run that only adds to the ledger, and what it gives -/
inductive Ran (x : Option (V × Led)) (Λ : Led) (d : D) : Prop
  | mk (v : V) (Λ' : Led) (e : x = some (v, Λ')) (p : Λ <+: Λ') (r : Den Λ' v d)
inductive RanB {β : Type} (x : Option (β × Led)) (Λ : Led) (b : β) : Prop
  | mk (Λ' : Led) (e : x = some (b, Λ')) (p : Λ <+: Λ')
inductive Rans (x : Option (List V × Led)) (Λ : Led) (l : List D) : Prop
  | mk (xs : List V) (Λ' : Led) (e : x = some (xs, Λ')) (p : Λ <+: Λ') (r : Dens Λ' xs l)
inductive RanS (x : Option (List V × Option Nat × Led)) (Λ : Led) (l : List D) : Prop
  | mk (xs : List V) (k? : Option Nat) (Λ' : Led) (e : x = some (xs, k?, Λ')) (p : Λ <+: Λ') (r : Dens Λ' xs l) (h : ∀ Λ'', Λ' <+: Λ'' → stands k? xs Λ'' = true)
end
noncomputable def DE (e : Ex) (ds : DV) (d : D) : Prop := ∀ vs Λ, EnvD vs Λ ds → Ran (e vs Λ) Λ d
noncomputable def DT (t : Te) (ds : DV) (b : Bool) : Prop := ∀ vs Λ, EnvD vs Λ ds → RanB (t vs Λ) Λ b
noncomputable def DEs (es : List Ex) (ds : DV) (l : List D) : Prop := ∀ vs Λ, EnvD vs Λ ds → Rans (xs_ es vs Λ) Λ l
noncomputable def DF (f : Fn) (args : List D) (d : D) : Prop := ∀ vs Λ, Dens Λ vs args → Ran (f vs Λ) Λ d
noncomputable def DO (o : V → V → Led → Option (V × Led)) (a b d : D) : Prop := ∀ Λ x y, Den Λ x a → Den Λ y b → Ran (o x y Λ) Λ d
noncomputable def DC (c : Cmp) (a b : D) (r : Bool) : Prop := ∀ Λ x y, Den Λ x a → Den Λ y b → c x y Λ = some r
noncomputable def DSr (s : Src) (ds : DV) (l : List D) : Prop := ∀ vs Λ, EnvD vs Λ ds → RanS (s vs Λ) Λ l

section
variable {ds : DV}
theorem DE.var {i : Nat} {d : D} (h : gd ds i = some d) : DE (xVar i) ds d := fun vs Λ E => by
  obtain ⟨v, e, r⟩ := E.at_ i d h
  exact ⟨v, Λ, congrArg (Option.map fun v => (v, Λ)) e, prf _, r⟩
theorem DE.int (i : Int) : DE (xInt i) ds (.int i) := fun vs Λ E => ⟨_, Λ, rfl, prf _, .int i⟩
theorem DE.bool (b : Bool) : DE (xBool b) ds (.bool b) := fun vs Λ E => ⟨_, Λ, rfl, prf _, .bool b⟩
theorem DE.none : DE xNone ds .none := fun vs Λ E => ⟨_, Λ, rfl, prf _, .none⟩
theorem DE.bin {o : V → V → Led → Option (V × Led)} {a b : Ex} {x y d : D} (ho : DO o x y d) (ha : DE a ds x) (hb : DE b ds y) : DE (xBin o a b) ds d := fun vs Λ E => by
  obtain ⟨v1, Λ1, e1, p1, r1⟩ := ha vs Λ E
  obtain ⟨v2, Λ2, e2, p2, r2⟩ := hb vs Λ1 (E.mono p1)
  obtain ⟨v3, Λ3, e3, p3, r3⟩ := ho Λ2 v1 v2 (r1.mono p2) r2
  exact ⟨v3, Λ3, bI e1 (bI e2 e3), ptr p1 (ptr p2 p3), r3⟩
theorem newList_ok {xs : List V} {Λ : Led} {l : List D} (r : Dens Λ xs l) (hl : l.length ≤ big) : Ran (newList xs Λ) Λ (.list l) := by
  rw [← r.length] at hl
  exact ⟨.ref Λ.length, Λ ++ [O.list xs], if_pos hl, pap _ _, .list (new_at _ _) (Dens.mono (pap _ _) r)⟩
theorem DO.ii {o : V → V → Led → Option (V × Led)} {i j r : Int} (h : ∀ Λ, o (.int i) (.int j) Λ = some (.int r, Λ)) : DO o (.int i) (.int j) (.int r) := fun Λ x y hx hy => by
  obtain rfl := hx.intOf
  obtain rfl := hy.intOf
  exact ⟨_, Λ, h Λ, prf _, .int _⟩
theorem DO.add {i j : Int} : DO oAdd (.int i) (.int j) (.int (i + j)) := .ii fun _ => rfl
theorem DO.sub {i j : Int} : DO oSub (.int i) (.int j) (.int (i - j)) := .ii fun _ => rfl
theorem DO.mul {j : Int} : DO oMul (.int 2) (.int j) (.int (2 * j)) := .ii fun _ => rfl
theorem DO.div {i j : Int} (h : 0 < j ∧ j < 1000) : DO oDiv (.int i) (.int j) (.int (i / j)) := .ii fun _ => if_pos h
theorem DO.mod {i j : Int} (h : 0 < j) : DO oMod (.int i) (.int j) (.int (i % j)) := .ii fun _ => if_pos h
theorem DO.cat {a b : List D} (h : a.length + b.length ≤ big) : DO oAdd (.list a) (.list b) (.list (a ++ b)) := fun Λ x y hx hy => by
  obtain ⟨j, xs, rfl, e1, r1⟩ := hx.listOf
  obtain ⟨k, ys, rfl, e2, r2⟩ := hy.listOf
  obtain ⟨v, Λ', e3, p, r⟩ := newList_ok (r1.append r2) (List.length_append ▸ h)
  exact ⟨v, Λ', bI (asList_at e1) (bI (asList_at e2) e3), p, r⟩
theorem le_big {n : Int} (h : -1000 ≤ n ∧ n ≤ 1000) : n.toNat ≤ big := by unfold big; lia
theorem DO.rep {d : D} {n : Int} (h : -1000 ≤ n ∧ n ≤ 1000) : DO oMul (.list [d]) (.int n) (.list (List.replicate n.toNat d)) := fun Λ x y hx hy => by
  obtain ⟨j, xs, rfl, e1, r1⟩ := hx.listOf
  obtain rfl := hy.intOf
  obtain ⟨u, us, rfl, r3, r2⟩ := r1.unL
  obtain rfl := r2.unN
  have rr : ∀ m, Dens Λ ((List.replicate m [u]).flatten) (List.replicate m d) := fun m => by
    induction m with
    | zero => exact .nil
    | succ m ih => exact .cons r3 ih
  obtain ⟨v, Λ', e3, p, r⟩ := newList_ok (rr n.toNat) (by rw [List.length_replicate]; exact le_big h)
  exact ⟨v, Λ', bI (asList_at e1) ((if_pos ⟨rfl, h⟩).trans e3), p, r⟩
theorem DE.neg {a : Ex} {i : Int} (h : DE a ds (.int i)) : DE (xNeg a) ds (.int (-i)) := fun vs Λ E => by
  obtain ⟨v1, Λ1, e1, p1, r1⟩ := h vs Λ E
  obtain rfl := r1.intOf
  exact ⟨_, Λ1, bI e1 rfl, p1, .int _⟩
theorem DE.abs {a : Ex} {i : Int} (h : DE a ds (.int i)) : DE (xAbs a) ds (.int (i.natAbs : Int)) := fun vs Λ E => by
  obtain ⟨v1, Λ1, e1, p1, r1⟩ := h vs Λ E
  obtain rfl := r1.intOf
  exact ⟨_, Λ1, bI e1 rfl, p1, .int _⟩

/-! comparisons -/
theorem DC.ii {c : Cmp} {i j : Int} {r : Bool} (h : ∀ Λ, c (.int i) (.int j) Λ = some r) : DC c (.int i) (.int j) r := fun Λ x y hx hy => by
  obtain rfl := hx.intOf
  obtain rfl := hy.intOf
  exact h Λ
theorem DC.eqI {i j : Int} : DC cEq (.int i) (.int j) (decide (i = j)) := .ii fun _ => rfl
theorem DC.lt {i j : Int} : DC cLt (.int i) (.int j) (decide (i < j)) := .ii fun _ => rfl
theorem DC.gt {i j : Int} : DC cGt (.int i) (.int j) (decide (i > j)) := .ii fun _ => rfl
theorem DC.ge {i j : Int} : DC cGe (.int i) (.int j) (decide (i ≥ j)) := .ii fun _ => rfl
theorem allInts_map (l : List Int) : allInts (l.map V.int) = some l := by
  induction l with
  | nil => rfl
  | cons i l ih => exact congrArg (Option.map (i :: ·)) ih
theorem DC.inL {i : Int} {l : List Int} : DC cIn (.int i) (.ints l) (decide (i ∈ l)) := fun Λ x y hx hy => by
  obtain rfl := hx.intOf
  obtain ⟨k, rfl, e⟩ := hy.intsOf
  simp only [cIn, mem?, e, allInts_map, Option.map_some]
theorem DC.inT {i : Int} {l : List Int} : DC cIn (.int i) (.tup (l.map .int)) (decide (i ∈ l)) := fun Λ x y hx hy => by
  obtain rfl := hx.intOf
  obtain ⟨k, xs, rfl, e, r⟩ := hy.tupOf
  rw [r.of_ints] at e
  simp only [cIn, mem?, e, allInts_map, Option.map_some]
theorem DC.inD {i : Int} {l : List (Int × D)} : DC cIn (.int i) (.dict l) (decide (i ∈ l.map (·.1))) := fun Λ x y hx hy => by
  obtain rfl := hx.intOf
  obtain ⟨k, xs, rfl, e, r⟩ := hy.dictOf
  simp only [cIn, mem?, e, DenKv.keys r]
theorem DC.notIn {a b : D} {r : Bool} (h : DC cIn a b r) : DC cNotIn a b (!r) := fun Λ x y hx hy => congrArg (Option.map (!·)) (h Λ x y hx hy)
theorem DC.isNone {a : D} {r : Bool} (h : (∀ Λ x, Den Λ x a → decide (x = V.none) = r)) : DC cIs a .none r := fun Λ x y hx hy => by
  obtain rfl := hy.noneOf
  exact congrArg some (h Λ x hx)
/-- equal data -/
noncomputable def Same2 (n : Nat) (a b : D) : Prop := ∀ (Λ : Led) (x y : V), Den Λ x a → Den Λ y b → eqV Λ n x y = some true
noncomputable def Sames (n : Nat) (a b : List D) : Prop := ∀ (Λ : Led) (x y : List V), Dens Λ x a → Dens Λ y b → allEq (eqV Λ n) x y = some true
theorem eqV_ints (Λ : Led) (n : Nat) (i j : Int) : eqV Λ n (.int i) (.int j) = some (decide (i = j)) := by cases n <;> rfl
theorem eqV_bools (Λ : Led) (n : Nat) (i j : Bool) : eqV Λ n (.bool i) (.bool j) = some (decide (i = j)) := by cases n <;> rfl
theorem Same2.int {n : Nat} (i : Int) : Same2 n (.int i) (.int i) := fun Λ x y hx hy => by
  rw [hx.intOf, hy.intOf, eqV_ints, decide_eq_true rfl]
theorem eqV_lists {Λ : Led} {j k : Nat} {xs ys : List V} (n : Nat) (e1 : Λ[j]? = some (.list xs)) (e2 : Λ[k]? = some (.list ys)) : eqV Λ (n + 1) (.ref j) (.ref k) = allEq (eqV Λ n) xs ys := by
  simp only [eqV, e1, e2]
theorem eqV_tups {Λ : Led} {j k : Nat} {xs ys : List V} (n : Nat) (e1 : Λ[j]? = some (.tup xs)) (e2 : Λ[k]? = some (.tup ys)) : eqV Λ (n + 1) (.ref j) (.ref k) = allEq (eqV Λ n) xs ys := by
  simp only [eqV, e1, e2]
theorem Same2.list {n : Nat} {a b : List D} (s : Sames n a b) : Same2 (n + 1) (.list a) (.list b) := fun Λ x y hx hy => by
  obtain ⟨j, xs, rfl, e1, r1⟩ := hx.listOf
  obtain ⟨k, ys, rfl, e2, r2⟩ := hy.listOf
  exact (eqV_lists n e1 e2).trans (s Λ _ _ r1 r2)
theorem Same2.tup {n : Nat} {a b : List D} (s : Sames n a b) : Same2 (n + 1) (.tup a) (.tup b) := fun Λ x y hx hy => by
  obtain ⟨j, xs, rfl, e1, r1⟩ := hx.tupOf
  obtain ⟨k, ys, rfl, e2, r2⟩ := hy.tupOf
  exact (eqV_tups n e1 e2).trans (s Λ _ _ r1 r2)
theorem Sames.nil {n : Nat} : Sames n [] [] := fun Λ x y hx hy => by
  rw [hx.unN, hy.unN]; rfl
theorem Sames.cons {n : Nat} {a b : D} {as bs : List D} (h : Same2 n a b) (k : Sames n as bs) : Sames n (a :: as) (b :: bs) := fun Λ x y hx hy => by
  obtain ⟨x, xs, rfl, h1, h2⟩ := hx.unL
  obtain ⟨y, ys, rfl, h3, h4⟩ := hy.unL
  exact bI (h Λ _ _ h1 h3) (bI (k Λ _ _ h2 h4) rfl)
theorem Sames.ints {n : Nat} (l : List Int) : Sames n (l.map .int) (l.map .int) := by
  induction l with
  | nil => exact .nil
  | cons i l ih => exact .cons (.int i) ih
theorem DC.ne {a b : D} (h : Same2 3 a b) : DC cNe a b false := fun Λ x y hx hy => congrArg (Option.map (!·)) (h Λ x y hx hy)
theorem allEq_ints {Λ : Led} {n : Nat} (l l' : List Int) : allEq (eqV Λ n) (l.map .int) (l'.map .int) = some (decide (l = l')) := by
  induction l generalizing l' with
  | nil => cases l' <;> rfl
  | cons i l ih =>
    cases l' with
    | nil => rfl
    | cons j l' => exact bI (eqV_ints _ _ _ _) (bI (ih l') (by rw [← Bool.decide_and]; exact congrArg some (decide_eq_decide.mpr List.cons_eq_cons.symm)))
theorem DC.neT {a b : List Int} : DC cNe (.tup (a.map .int)) (.tup (b.map .int)) (decide (a ≠ b)) := fun Λ x y hx hy => by
  obtain ⟨j, xs, rfl, e1, r1⟩ := hx.tupOf
  obtain ⟨k, ys, rfl, e2, r2⟩ := hy.tupOf
  rw [r1.of_ints] at e1
  rw [r2.of_ints] at e2
  exact (congrArg (Option.map (!·)) ((eqV_tups 2 e1 e2).trans (allEq_ints a b))).trans (congrArg some decide_not.symm)
theorem DC.neB {a b : Bool} : DC cNe (.bool a) (.bool b) (decide (a ≠ b)) := fun Λ x y hx hy => by
  rw [hx.boolOf, hy.boolOf]
  exact congrArg some decide_not.symm
theorem DE.cmp {c : Cmp} {a b : Ex} {x y : D} {r : Bool} (ho : DC c x y r) (ha : DE a ds x) (hb : DE b ds y) : DE (xCmp c a b) ds (.bool r) := fun vs Λ E => by
  obtain ⟨v1, Λ1, e1, p1, r1⟩ := ha vs Λ E
  obtain ⟨v2, Λ2, e2, p2, r2⟩ := hb vs Λ1 (E.mono p1)
  exact ⟨_, Λ2, bI e1 (bI e2 (bI (ho Λ2 v1 v2 (r1.mono p2) r2) rfl)), ptr p1 p2, .bool r⟩

/-! tests -/
theorem DT.of {e : Ex} {b : Bool} (h : DE e ds (.bool b)) : DT (tOf e) ds b := fun vs Λ E => by
  obtain ⟨v1, Λ1, e1, p1, r1⟩ := h vs Λ E
  obtain rfl := r1.boolOf
  exact ⟨Λ1, bI e1 rfl, p1⟩
theorem DT.cmp {c : Cmp} {a b : Ex} {x y : D} {r : Bool} (ho : DC c x y r) (ha : DE a ds x) (hb : DE b ds y) : DT (tOf (xCmp c a b)) ds r := DT.of (DE.cmp ho ha hb)
theorem DT.not {t : Te} {b : Bool} (h : DT t ds b) : DT (tNot t) ds (!b) := fun vs Λ E => by
  obtain ⟨Λ1, e1, p1⟩ := h vs Λ E
  exact ⟨Λ1, bI e1 rfl, p1⟩
theorem DT.true : DT tTrue ds true := fun vs Λ E => ⟨Λ, rfl, prf _⟩
theorem DT.andT {t u : Te} {b : Bool} (h : DT t ds Bool.true) (k : DT u ds b) : DT (tAnd t u) ds b := fun vs Λ E => by
  obtain ⟨Λ1, e1, p1⟩ := h vs Λ E
  obtain ⟨Λ2, e2, p2⟩ := k vs Λ1 (E.mono p1)
  exact ⟨Λ2, bI e1 e2, ptr p1 p2⟩
theorem DT.andF {t u : Te} (h : DT t ds false) : DT (tAnd t u) ds false := fun vs Λ E => by
  obtain ⟨Λ1, e1, p1⟩ := h vs Λ E
  exact ⟨Λ1, bI e1 rfl, p1⟩
theorem DT.and {t u : Te} {b c : Bool} (h : DT t ds b) (k : b = Bool.true → DT u ds c) : DT (tAnd t u) ds (b && c) := by
  cases b with
  | true => exact DT.andT h (k rfl)
  | false => exact DT.andF h
theorem DE.ifx {t : Te} {a b : Ex} {c : Bool} {d : D} (h : DT t ds c) (ha : c = Bool.true → DE a ds d) (hb : c = false → DE b ds d) : DE (xIf t a b) ds d := fun vs Λ E => by
  obtain ⟨Λ1, e1, p1⟩ := h vs Λ E
  cases c with
  | true =>
    obtain ⟨v, Λ2, e2, p2, r⟩ := ha rfl vs Λ1 (E.mono p1)
    exact ⟨v, Λ2, bI e1 e2, ptr p1 p2, r⟩
  | false =>
    obtain ⟨v, Λ2, e2, p2, r⟩ := hb rfl vs Λ1 (E.mono p1)
    exact ⟨v, Λ2, bI e1 e2, ptr p1 p2, r⟩

/-! displays, calls -/
theorem DEs.nil : DEs [] ds [] := fun vs Λ E => ⟨_, Λ, rfl, prf _, .nil⟩
theorem DEs.cons {e : Ex} {es : List Ex} {d : D} {l : List D} (h : DE e ds d) (hs : DEs es ds l) : DEs (e :: es) ds (d :: l) := fun vs Λ E => by
  obtain ⟨v1, Λ1, e1, p1, r1⟩ := h vs Λ E
  obtain ⟨v2, Λ2, e2, p2, r2⟩ := hs vs Λ1 (E.mono p1)
  exact ⟨_, Λ2, bI e1 (bI e2 rfl), ptr p1 p2, .cons (r1.mono p2) r2⟩
theorem DE.list {es : List Ex} {l : List D} (h : DEs es ds l) (hl : l.length ≤ big := by exact Nat.le_of_ble_eq_true rfl) : DE (xList es) ds (.list l) := fun vs Λ E => by
  obtain ⟨v1, Λ1, e1, p1, r1⟩ := h vs Λ E
  obtain ⟨v, Λ', e3, p, r⟩ := newList_ok r1 hl
  exact ⟨v, Λ', bI e1 e3, ptr p1 p, r⟩
theorem DE.tup {es : List Ex} {l : List D} (h : DEs es ds l) (hl : l.length ≤ big := by exact Nat.le_of_ble_eq_true rfl) : DE (xTup es) ds (.tup l) := fun vs Λ E => by
  obtain ⟨v1, Λ1, e1, p1, r1⟩ := h vs Λ E
  exact ⟨.ref Λ1.length, Λ1 ++ [O.tup v1], bI e1 (if_pos (r1.length ▸ hl)), ptr p1 (pap _ _), .tup (new_at _ _) (Dens.mono (pap _ _) r1)⟩
theorem DE.call {f : Fn} {es : List Ex} {l : List D} {d : D} (hf : DF f l d) (h : DEs es ds l) : DE (xCall f es) ds d := fun vs Λ E => by
  obtain ⟨v1, Λ1, e1, p1, r1⟩ := h vs Λ E
  obtain ⟨v, Λ', e3, p, r⟩ := hf v1 Λ1 r1
  exact ⟨v, Λ', bI e1 e3, ptr p1 p, r⟩
theorem lenV_at {Λ : Led} {k : Nat} {xs : List V} (e : Λ[k]? = some (.list xs)) : lenV Λ (.ref k) = some xs.length := by simp only [lenV, e]
theorem DE.lenL {a : Ex} {l : List D} (h : DE a ds (.list l)) (hl : l.length ≤ big) : DE (xLen a) ds (.int l.length) := fun vs Λ E => by
  obtain ⟨v1, Λ1, e1, p1, r1⟩ := h vs Λ E
  obtain ⟨k, xs, rfl, e, r⟩ := r1.listOf
  rw [← r.length] at hl ⊢
  exact ⟨_, Λ1, bI e1 (bI (lenV_at e) (if_pos hl)), p1, .int _⟩
theorem idx_list {Λ : Led} {k : Nat} {xs : List V} {i : Int} (e : Λ[k]? = some (.list xs)) (h : 0 ≤ i ∧ i < 100000) : idxV Λ (.ref k) (.int i) = xs[i.toNat]? := by simp only [idxV, e, if_pos h]
theorem idx_tup {Λ : Led} {k : Nat} {xs : List V} {i : Int} (e : Λ[k]? = some (.tup xs)) (h : 0 ≤ i ∧ i < 100000) : idxV Λ (.ref k) (.int i) = xs[i.toNat]? := by simp only [idxV, e, if_pos h]
theorem idx_dict {Λ : Led} {k : Nat} {es : List (Int × V)} {i : Int} (e : Λ[k]? = some (.dict es)) : idxV Λ (.ref k) (.int i) = es.lookup i := by simp only [idxV, e]
theorem DE.idx {a i : Ex} {x d : D} {n : Int} (h : DE a ds x) (hi : DE i ds (.int n)) (hx : ∀ Λ v, Den Λ v x → ∃ u, idxV Λ v (.int n) = some u ∧ Den Λ u d) : DE (xIdx a i) ds d := fun vs Λ E => by
  obtain ⟨v1, Λ1, e1, p1, r1⟩ := h vs Λ E
  obtain ⟨v2, Λ2, e2, p2, r2⟩ := hi vs Λ1 (E.mono p1)
  obtain rfl := r2.intOf
  obtain ⟨v, e3, r3⟩ := hx Λ2 v1 (r1.mono p2)
  exact ⟨v, Λ2, bI e1 (bI e2 (bI e3 rfl)), ptr p1 p2, r3⟩
theorem DE.idxL {a i : Ex} {l : List D} {n : Int} {d : D} (h : DE a ds (.list l)) (hi : DE i ds (.int n)) (h0 : 0 ≤ n ∧ n < 100000) (hd : l[n.toNat]? = some d) : DE (xIdx a i) ds d := h.idx hi fun Λ v r => by
  obtain ⟨k, xs, rfl, e, r⟩ := r.listOf
  obtain ⟨v, e3, r3⟩ := r.getR hd
  exact ⟨v, (idx_list e h0).trans e3, r3⟩
theorem DE.idxT {a i : Ex} {l : List D} {n : Int} {d : D} (h : DE a ds (.tup l)) (hi : DE i ds (.int n)) (h0 : 0 ≤ n ∧ n < 100000) (hd : l[n.toNat]? = some d) : DE (xIdx a i) ds d := h.idx hi fun Λ v r => by
  obtain ⟨k, xs, rfl, e, r⟩ := r.tupOf
  obtain ⟨v, e3, r3⟩ := r.getR hd
  exact ⟨v, (idx_tup e h0).trans e3, r3⟩
theorem DE.idxD {a i : Ex} {l : List (Int × D)} {n : Int} {d : D} (h : DE a ds (.dict l)) (hi : DE i ds (.int n)) (hd : l.lookup n = some d) : DE (xIdx a i) ds d := h.idx hi fun Λ v r => by
  obtain ⟨k, xs, rfl, e, r⟩ := r.dictOf
  obtain ⟨v, e3, r3⟩ := (DenKv.look r n).1 d hd
  exact ⟨v, (idx_dict e).trans e3, r3⟩
/-- a bound -/
noncomputable def DP (e : Option Ex) (ds : DV) (n : Option Nat) : Prop := ∀ vs Λ, EnvD vs Λ ds → RanB (partV e vs Λ) Λ n
theorem DP.none : DP .none ds .none := fun vs Λ E => ⟨Λ, rfl, prf _⟩
theorem DP.some {e : Ex} {n : Int} (h : DE e ds (.int n)) (h0 : 0 ≤ n) : DP (.some e) ds (.some n.toNat) := fun vs Λ E => by
  obtain ⟨v1, Λ1, e1, p1, r1⟩ := h vs Λ E
  obtain rfl := r1.intOf
  exact ⟨Λ1, bI e1 (bI (if_pos h0) rfl), p1⟩
noncomputable def cutD (l h : Option Nat) (xs : List D) : List D := (match h with | .some k => xs.take k | .none => xs).drop (l.getD 0)
theorem cutD_len {m n : Option Nat} {l : List D} : (cutD m n l).length ≤ l.length := by
  unfold cutD
  rw [List.length_drop]
  cases n with
  | none => exact Nat.sub_le _ _
  | some n => exact Nat.le_trans (Nat.sub_le _ _) (List.length_take_le' _ _)
theorem DE.slice {a : Ex} {lo hi : Option Ex} {l : List D} {m n : Option Nat} (h : DE a ds (.list l)) (hl : DP lo ds m) (hh : DP hi ds n) (hb : l.length ≤ big) : DE (xSlice a lo hi) ds (.list (cutD m n l)) := fun vs Λ E => by
  obtain ⟨v1, Λ1, e1, p1, r1⟩ := h vs Λ E
  obtain ⟨Λ2, e2, p2⟩ := hl vs Λ1 (E.mono p1)
  obtain ⟨Λ3, e3, p3⟩ := hh vs Λ2 (E.mono (ptr p1 p2))
  obtain ⟨k, xs, rfl, e, r0⟩ := (r1.mono (ptr p2 p3)).listOf
  have rc : Dens Λ3 (cut m n xs) (cutD m n l) := by
    cases n with
    | none => exact r0.drop _
    | some n => exact (r0.take _).drop _
  obtain ⟨v, Λ', e4, p, r⟩ := newList_ok rc (Nat.le_trans cutD_len hb)
  exact ⟨v, Λ', bI e1 (bI e2 (bI e3 (bI (asList_at e) ((if_pos (r0.length ▸ hb)).trans e4)))), ptr p1 (ptr p2 (ptr p3 p)), r⟩
theorem DE.listOf {a : Ex} {l : List D} (h : DE a ds (.list l)) (hb : l.length ≤ big) : DE (xListOf a) ds (.list l) := fun vs Λ E => by
  obtain ⟨v1, Λ1, e1, p1, r1⟩ := h vs Λ E
  obtain ⟨k, xs, rfl, e, r⟩ := r1.listOf
  obtain ⟨v, Λ', e4, p, r⟩ := newList_ok r hb
  exact ⟨v, Λ', bI e1 (bI (asList_at e) e4), ptr p1 p, r⟩
end
end Mine

/-! ## part B2 -/
set_option linter.unusedVariables false
namespace Mine
section
variable {ds : DV}

/-! dicts -/
noncomputable def putDD (k : Int) (v : D) : List (Int × D) → List (Int × D)
  | [] => [(k, v)]
  | (j, u) :: r => if j = k then (j, v) :: r else (j, u) :: putDD k v r
theorem DenKv.put {Λ : Led} {k : Int} {v : V} {d : D} (h : Den Λ v d) {es : List (Int × V)} {l : List (Int × D)} (r : DenKv Λ es l) : DenKv Λ (putD k v es) (putDD k d l) := by
  induction r with
  | nil => exact .cons ⟨rfl, h⟩ .nil
  | @cons p q _ _ a r ih =>
    obtain ⟨j, v⟩ := p
    obtain ⟨j', d⟩ := q
    obtain ⟨rfl, a⟩ := a
    unfold putD putDD
    by_cases e : j = k
    · rw [if_pos e, if_pos e]; exact .cons ⟨rfl, h⟩ r
    · rw [if_neg e, if_neg e]; exact .cons ⟨rfl, a⟩ ih
theorem DenKv.puts {Λ : Led} {ps : List (Int × V)} {qs : List (Int × D)} (r : DenKv Λ ps qs) : ∀ {es : List (Int × V)} {l : List (Int × D)}, DenKv Λ es l →
    DenKv Λ (ps.foldl (fun d p => putD p.1 p.2 d) es) (qs.foldl (fun d p => putDD p.1 p.2 d) l) := by
  induction r with
  | nil => exact id
  | @cons p q _ _ a r ih =>
    obtain ⟨k, v⟩ := p
    obtain ⟨k', d⟩ := q
    obtain ⟨rfl, a⟩ := a
    exact fun h => ih (DenKv.put a h)
noncomputable abbrev D.pair (p : Int × D) : D := .tup [.int p.1, p.2]
theorem Dens.two {Λ : Led} {xs : List V} {a b : D} (h : Dens Λ xs [a, b]) : ∃ u v, xs = [u, v] ∧ Den Λ u a ∧ Den Λ v b := by
  obtain ⟨u, us, rfl, h1, h2⟩ := h.unL
  obtain ⟨v, vs, rfl, h3, h4⟩ := h2.unL
  exact ⟨u, v, by rw [h4.unN], h1, h3⟩
theorem pairs_ok {Λ : Led} {l : List (Int × D)} : ∀ {xs : List V}, Dens Λ xs (l.map D.pair) → ∃ ps, asPairs Λ xs = some ps ∧ DenKv Λ ps l := by
  induction l with
  | nil => intro xs h; rw [h.unN]; exact ⟨[], rfl, .nil⟩
  | cons q l ih =>
    intro xs h
    obtain ⟨x, xs, rfl, a, r⟩ := h.unL
    obtain ⟨ps, e, rr⟩ := ih r
    obtain ⟨k, ys, rfl, e1, r1⟩ := a.tupOf
    obtain ⟨u, v, rfl, h1, h3⟩ := r1.two
    obtain rfl := h1.intOf
    have e2 : asPair Λ (.ref k) = some (q.1, v) := by unfold asPair; rw [asTup_at e1]
    exact ⟨_, bI e2 (bI e rfl), .cons ⟨rfl, h3⟩ rr⟩
theorem DE.dictOf {a : Ex} {l : List (Int × D)} (h : DE a ds (.list (l.map D.pair))) (hb : l.length ≤ 1000) : DE (xDictOf a) ds (.dict (l.foldl (fun d p => putDD p.1 p.2 d) [])) := fun vs Λ E => by
  obtain ⟨v1, Λ1, e1, p1, r1⟩ := h vs Λ E
  obtain ⟨k, xs, rfl, e, r⟩ := r1.listOf
  obtain ⟨ps, e2, r2⟩ := pairs_ok r
  rw [← r2.length] at hb
  exact ⟨.ref Λ1.length, Λ1 ++ [O.dict (ps.foldl (fun d p => putD p.1 p.2 d) [])], bI e1 (bI (asList_at e) (bI e2 (if_pos hb))), ptr p1 (pap _ _), .dict (new_at _ _) (DenKv.mono (pap _ _) (DenKv.puts r2 .nil))⟩
theorem items_ok {Λ : Led} (t : Led) {es : List (Int × V)} {l : List (Int × D)} (r : DenKv Λ es l) : ∀ (pre : Led), Λ <+: pre → Dens (pre ++ itemTups es ++ t) ((List.range es.length).map fun i => .ref (pre.length + i)) (l.map D.pair) := by
  induction r with
  | nil => exact fun _ _ => .nil
  | @cons p q es _ a r ih =>
    intro pre hp
    obtain ⟨k, v⟩ := p
    obtain ⟨k', d⟩ := q
    obtain ⟨rfl, a⟩ := a
    have ih := ih (pre ++ [.tup [.int k, v]]) (ptr hp (pap _ _))
    have e1 : pre ++ itemTups ((k, v) :: es) ++ t = pre ++ [.tup [.int k, v]] ++ itemTups es ++ t := by rw [List.append_assoc pre [_]]; rfl
    rw [e1, List.length_cons, List.range_succ_eq_map, List.map_cons, List.map_map]
    refine .cons (.tup (pre_at (ptr (pap _ _) (pap _ _)) (new_at pre _)) (.cons (.int k) (.cons (a.mono (ptr hp (ptr (pap _ _) (ptr (pap _ _) (pap _ _))))) .nil))) ?_
    have e2 : ((fun i => V.ref (pre.length + i)) ∘ Nat.succ) = fun i => V.ref ((pre ++ [O.tup [.int k, v]]).length + i) := by
      funext i; rw [List.length_append, Nat.add_assoc, Nat.add_comm _ i]; rfl
    rw [e2]; exact ih
theorem DE.items {a : Ex} {l : List (Int × D)} (h : DE a ds (.dict l)) (hb : l.length ≤ big) : DE (xItems a) ds (.list (l.map D.pair)) := fun vs Λ E => by
  obtain ⟨v1, Λ1, e1, p1, r1⟩ := h vs Λ E
  obtain ⟨k, es, rfl, e, r⟩ := r1.dictOf
  have q := items_ok [] r Λ1 (prf _)
  rw [List.append_nil] at q
  obtain ⟨v, Λ', e4, p, r'⟩ := newList_ok q (by rw [List.length_map]; exact hb)
  exact ⟨v, Λ', bI e1 (bI (asDict_at e) e4), ptr p1 (ptr (pap _ _) p), r'⟩
theorem DE.get {a k dd : Ex} {l : List (Int × D)} {n : Int} {d0 : D} (h : DE a ds (.dict l)) (hk : DE k ds (.int n)) (hd : DE dd ds d0) : DE (xGet a k dd) ds ((l.lookup n).getD d0) := fun vs Λ E => by
  obtain ⟨v1, Λ1, e1, p1, r1⟩ := h vs Λ E
  obtain ⟨v2, Λ2, e2, p2, r2⟩ := hk vs Λ1 (E.mono p1)
  obtain ⟨v3, Λ3, e3, p3, r3⟩ := hd vs Λ2 (E.mono (ptr p1 p2))
  obtain rfl := r2.intOf
  obtain ⟨k, es, rfl, e, r⟩ := r1.dictOf
  have rr := DenKv.look (DenKv.mono (ptr p2 p3) r) n
  refine ⟨_, Λ3, bI e1 (bI (asDict_at e) (bI e2 (bI e3 (bI (asDict_at (pre_at (ptr p2 p3) e)) rfl)))), ptr p1 (ptr p2 p3), ?_⟩
  cases q : l.lookup n with
  | none => rw [rr.2 q]; exact r3
  | some d => obtain ⟨v, e4, r4⟩ := rr.1 d q; rw [e4]; exact r4
theorem DE.sorted {a : Ex} {l : List (Int × D)} (h : DE a ds (.dict l)) (ho : inOrder (l.map (·.1)) = true) (hb : l.length ≤ 60) : DE (xSorted a) ds (.ints (l.map (·.1))) := fun vs Λ E => by
  obtain ⟨v1, Λ1, e1, p1, r1⟩ := h vs Λ E
  obtain ⟨k, es, rfl, e, r⟩ := r1.dictOf
  have q : Dens Λ1 (es.map fun e => V.int e.1) ((l.map (·.1)).map .int) := by
    have e2 : (es.map fun e => V.int e.1) = ((l.map (·.1)).map V.int) := by rw [← DenKv.keys r, List.map_map]; rfl
    rw [e2]; exact Dens.intsD _
  have hb2 : l.length ≤ big := by unfold big; lia
  obtain ⟨v, Λ', e4, p, r'⟩ := newList_ok q (by rw [List.length_map, List.length_map]; exact hb2)
  rw [← DenKv.keys r] at ho
  rw [← r.length] at hb
  exact ⟨v, Λ', bI e1 (bI (asDict_at e) ((if_pos ⟨ho, hb⟩).trans e4)), ptr p1 p, r'⟩
theorem DE.allInt {a : Ex} {l : List Int} (h : DE a ds (.ints l)) : DE (xAllInt a) ds (.bool true) := fun vs Λ E => by
  obtain ⟨v1, Λ1, e1, p1, r1⟩ := h vs Λ E
  obtain ⟨k, rfl, e⟩ := r1.intsOf
  exact ⟨_, Λ1, bI e1 (bI (asList_at e) (bI (allInts_map l) rfl)), p1, .bool true⟩

/-! sources, comprehensions -/
theorem DSr.list {a : Ex} {l : List D} (h : DE a ds (.list l)) (hb : l.length ≤ big) : DSr (sList a) ds l := fun vs Λ E => by
  obtain ⟨v1, Λ1, e1, p1, r1⟩ := h vs Λ E
  obtain ⟨k, xs, rfl, e, r⟩ := r1.listOf
  rw [← r.length] at hb
  exact ⟨xs, some k, Λ1, bI e1 (bI (asList_at e) (if_pos hb)), p1, r, fun Λ'' p => decide_eq_true (pre_at p e)⟩
noncomputable def rangeI (n : Nat) : List Int := (List.range n).map fun (i : Nat) => (i : Int)
theorem DSr.range {a : Ex} {n : Int} (h : DE a ds (.int n)) (hb : -1000 ≤ n ∧ n ≤ big) : DSr (sRange a) ds ((rangeI n.toNat).map .int) := fun vs Λ E => by
  obtain ⟨v1, Λ1, e1, p1, r1⟩ := h vs Λ E
  obtain rfl := r1.intOf
  have q := Dens.intsD (Λ := Λ1) (rangeI n.toNat)
  rw [rangeI, List.map_map] at q
  exact ⟨_, none, Λ1, bI e1 (if_pos hb), p1, q, fun Λ'' p => rfl⟩
theorem ifT {α : Type} {b : Bool} {x y : α} (h : b = true) : (if b = true then x else y) = x := if_pos h
theorem ifF {α : Type} {b : Bool} {x y : α} (h : b = false) : (if b = true then x else y) = y := by subst h; rfl
theorem comp_ok {ok : Led → Bool} {t : Te} {elt : Ex} {cs : Vars} {cd : DV} {p : D → Bool} {h : D → D} {l : List D} : ∀ {xs : List V} {Λ : Led}, Dens Λ xs l → EnvD cs Λ cd → (∀ Λ', Λ <+: Λ' → ok Λ' = true) →
    (∀ d ∈ l, DT t (some d :: cd) (p d)) → (∀ d ∈ l, p d = true → DE elt (some d :: cd) (h d)) →
    Rans (compGo ok t elt (fun v => some v :: cs) xs Λ) Λ ((l.filter p).map h) := by
  induction l with
  | nil => intro xs Λ r E hok ht he; rw [r.unN]; exact ⟨[], Λ, ifT (hok Λ (prf _)), prf _, .nil⟩
  | cons d l ih =>
    intro xs Λ r E hok ht he
    obtain ⟨v, vs, rfl, a, r⟩ := r.unL
    obtain ⟨Λ1, e1, p1⟩ := ht d (.head _) _ Λ (E.cons a)
    rw [List.filter_cons]
    cases hp : p d with
    | false =>
      obtain ⟨ys, Λ2, e2, p2, r2⟩ := ih (Dens.mono p1 r) (E.mono p1) (fun Λ' q => hok Λ' (ptr p1 q)) (fun d hd => ht d (.tail _ hd)) (fun d hd => he d (.tail _ hd))
      rw [hp] at e1
      exact ⟨ys, Λ2, (ifT (hok Λ (prf _))).trans (bI e1 e2), ptr p1 p2, r2⟩
    | true =>
      obtain ⟨v2, Λ2, e2, p2, r2⟩ := he d (.head _) hp _ Λ1 ((E.mono p1).cons (a.mono p1))
      obtain ⟨ys, Λ3, e3, p3, r3⟩ := ih (Dens.mono (ptr p1 p2) r) (E.mono (ptr p1 p2)) (fun Λ' q => hok Λ' (ptr p1 (ptr p2 q))) (fun d hd => ht d (.tail _ hd)) (fun d hd => he d (.tail _ hd))
      rw [hp] at e1
      exact ⟨v2 :: ys, Λ3, (ifT (hok Λ (prf _))).trans (bI e1 (bI e2 (bI e3 rfl))), ptr p1 (ptr p2 p3), .cons (r2.mono p3) r3⟩
theorem DE.comp {caps : List Nat} {src : Src} {t : Te} {elt : Ex} {l : List D} {p : D → Bool} {h : D → D} (hs : DSr src ds l) (hb : l.length ≤ big)
    (ht : ∀ d ∈ l, DT t (some d :: caps.map (gd ds)) (p d)) (he : ∀ d ∈ l, p d = true → DE elt (some d :: caps.map (gd ds)) (h d)) : DE (xComp caps src t elt) ds (.list ((l.filter p).map h)) := fun vs Λ E => by
  obtain ⟨xs, k?, Λ1, e1, p1, r1, st⟩ := hs vs Λ E
  obtain ⟨ys, Λ2, e2, p2, r2⟩ := comp_ok (ok := stands k? xs) r1 ((E.mono p1).caps caps) st ht he
  have : ((l.filter p).map h).length ≤ big := by rw [List.length_map]; exact Nat.le_trans (List.length_filter_le p l) hb
  obtain ⟨v, Λ', e4, p4, r'⟩ := newList_ok r2 this
  exact ⟨v, Λ', bI e1 (bI e2 e4), ptr p1 (ptr p2 p4), r'⟩
/-- a comprehension with no test -/
theorem DE.compT {caps : List Nat} {src : Src} {elt : Ex} {l : List D} {h : D → D} (hs : DSr src ds l) (hb : l.length ≤ big)
    (he : ∀ d ∈ l, DE elt (some d :: caps.map (gd ds)) (h d)) : DE (xComp caps src tTrue elt) ds (.list (l.map h)) := by
  have := DE.comp (t := tTrue) (p := fun _ => true) (h := h) hs hb (fun d _ => DT.true) (fun d hd _ => he d hd)
  rw [List.filter_eq_self.mpr (fun _ _ => rfl)] at this
  exact this
theorem comp2_in {ok : Led → Bool} {elt : Ex} {cs : Vars} {cd : DV} {v : V} {d : D} {h : D → D} {m : List D} : ∀ {xs : List V} {Λ : Led}, Dens Λ xs m → EnvD cs Λ cd → Den Λ v d → (∀ Λ', Λ <+: Λ' → ok Λ' = true) → (∀ u ∈ m, DE elt (some d :: some u :: cd) (h u)) → Rans (compGo ok tTrue elt (fun u => some v :: some u :: cs) xs Λ) Λ (m.map h) := by
  induction m with
  | nil => intro xs Λ r E a hok _; rw [r.unN]; exact ⟨[], Λ, ifT (hok Λ (prf _)), prf _, .nil⟩
  | cons u m ih =>
    intro xs Λ r E a hok hu
    obtain ⟨x, xs, rfl, ra, rb⟩ := r.unL
    obtain ⟨v2, Λ3, e3, p3, r3⟩ := hu u (.head _) _ Λ ((E.cons ra).cons a)
    obtain ⟨ys, Λ4, e4, p4, r4⟩ := ih (Dens.mono p3 rb) (E.mono p3) (a.mono p3) (fun Λ' q => hok Λ' (ptr p3 q)) (fun u h => hu u (.tail _ h))
    exact ⟨v2 :: ys, Λ4, (ifT (hok Λ (prf _))).trans (bI (a := (true, Λ)) rfl (bI e3 (bI e4 rfl))), ptr p3 p4, .cons (r3.mono p4) r4⟩
theorem comp2_ok {ok : Led → Bool} {src2 : Src} {elt : Ex} {cs : Vars} {cd : DV} {its : D → List D} {h : D → D → D} {l : List D} : ∀ {xs : List V} {Λ : Led}, Dens Λ xs l → EnvD cs Λ cd → (∀ Λ', Λ <+: Λ' → ok Λ' = true) →
    (∀ d ∈ l, DSr src2 (some d :: none :: cd) (its d)) → (∀ d ∈ l, ∀ u ∈ its d, DE elt (some d :: some u :: cd) (h d u)) →
    Rans (comp2Go ok src2 elt cs xs Λ) Λ (l.flatMap fun d => (its d).map (h d)) := by
  induction l with
  | nil => intro xs Λ r E hok ht he; rw [r.unN]; exact ⟨[], Λ, ifT (hok Λ (prf _)), prf _, .nil⟩
  | cons d l ih =>
    intro xs Λ r E hok ht he
    obtain ⟨v, vs, rfl, a, r⟩ := r.unL
    obtain ⟨xs2, k?, Λ1, e1, p1, r1, st⟩ := ht d (.head _) (some v :: none :: cs) Λ (E.skip.cons a)
    obtain ⟨ys, Λ2, e2, p2, r2⟩ := comp2_in r1 (E.mono p1) (a.mono p1) st (he d (.head _))
    obtain ⟨zs, Λ3, e3, p3, r3⟩ := ih (Dens.mono (ptr p1 p2) r) (E.mono (ptr p1 p2)) (fun Λ' q => hok Λ' (ptr p1 (ptr p2 q))) (fun d hd => ht d (.tail _ hd)) (fun d hd => he d (.tail _ hd))
    exact ⟨ys ++ zs, Λ3, (ifT (hok Λ (prf _))).trans (bI e1 (bI e2 (bI e3 rfl))), ptr p1 (ptr p2 p3), (Dens.mono p3 r2).append r3⟩
theorem DE.comp2 {caps : List Nat} {src src2 : Src} {elt : Ex} {l : List D} {its : D → List D} {h : D → D → D} (hs : DSr src ds l)
    (hs2 : ∀ d ∈ l, DSr src2 (some d :: Option.none :: caps.map (gd ds)) (its d)) (he : ∀ d ∈ l, ∀ u ∈ its d, DE elt (some d :: some u :: caps.map (gd ds)) (h d u)) (hb : (l.flatMap fun d => (its d).map (h d)).length ≤ big) :
    DE (xComp2 caps src src2 elt) ds (.list (l.flatMap fun d => (its d).map (h d))) := fun vs Λ E => by
  obtain ⟨xs, k?, Λ1, e1, p1, r1, st⟩ := hs vs Λ E
  obtain ⟨ys, Λ2, e2, p2, r2⟩ := comp2_ok (ok := stands k? xs) r1 ((E.mono p1).caps caps) st hs2 he
  obtain ⟨v, Λ', e4, p4, r'⟩ := newList_ok r2 hb
  exact ⟨v, Λ', bI e1 (bI e2 e4), ptr p1 (ptr p2 p4), r'⟩

/-! statements that only add to the ledger -/
set_option genSizeOf false in
set_option genInjectivity false in
inductive DFl where
  | next | ret (d : D)
noncomputable def FlD (Λ : Led) : Fl → DFl → Prop
  | .next, .next => True
  | .ret v, .ret d => Den Λ v d
  | _, _ => False
theorem FlD.mono {Λ Λ' : Led} (h : Λ <+: Λ') {a : Fl} {b : DFl} (r : FlD Λ a b) : FlD Λ' a b := by
  cases a with
  | next => cases b with
    | next => exact r
    | ret => exact r
  | ret => cases b with
    | next => exact r
    | ret => exact Den.mono h r
set_option genSizeOf false in
set_option genInjectivity false in
inductive RanF (x : Option (Fl × Vars × Led)) (Λ : Led) (fl : DFl) (ds' : DV) : Prop
  | mk (f : Fl) (vs' : Vars) (Λ' : Led) (e : x = some (f, vs', Λ')) (p : Λ <+: Λ') (E : EnvD vs' Λ' ds') (r : FlD Λ' f fl)
noncomputable def DS (s : Stm) (ds : DV) (fl : DFl) (ds' : DV) : Prop := ∀ nb vs Λ, EnvD vs Λ ds → RanF (s nb vs Λ) Λ fl ds'
theorem DS.pass : DS sPass ds .next ds := fun nb vs Λ E => ⟨_, vs, Λ, rfl, prf _, E, trivial⟩
theorem DS.seq {a b : Stm} {d1 d2 : DV} {fl : DFl} (ha : DS a ds .next d1) (hb : DS b d1 fl d2) : DS (sSeq a b) ds fl d2 := fun nb vs Λ E => by
  obtain ⟨f1, vs1, Λ1, e1, p1, E1, r1⟩ := ha nb vs Λ E
  cases f1 with
  | ret v => exact r1.elim
  | next =>
    obtain ⟨f2, vs2, Λ2, e2, p2, E2, r2⟩ := hb nb vs1 Λ1 E1
    exact ⟨f2, vs2, Λ2, bI e1 e2, ptr p1 p2, E2, r2⟩
theorem DS.seqR {a b : Stm} {d1 : DV} {d : D} (ha : DS a ds (.ret d) d1) : DS (sSeq a b) ds (.ret d) d1 := fun nb vs Λ E => by
  obtain ⟨f1, vs1, Λ1, e1, p1, E1, r1⟩ := ha nb vs Λ E
  cases f1 with
  | next => exact r1.elim
  | ret v => exact ⟨_, vs1, Λ1, bI e1 rfl, p1, E1, r1⟩
theorem DS.assign {i : Nat} {e : Ex} {d : D} (h : DE e ds d) : DS (sAssign i e) ds .next (ds.set i (some d)) := fun nb vs Λ E => by
  obtain ⟨v, Λ1, e1, p1, r1⟩ := h vs Λ E
  exact ⟨.next, vs.set i (some v), Λ1, bI e1 rfl, p1, (E.mono p1).set r1, trivial⟩
theorem DS.ret {e : Ex} {d : D} (h : DE e ds d) : DS (sRet e) ds (.ret d) ds := fun nb vs Λ E => by
  obtain ⟨v, Λ1, e1, p1, r1⟩ := h vs Λ E
  exact ⟨.ret v, vs, Λ1, bI e1 rfl, p1, E.mono p1, r1⟩
theorem DS.ite {t : Te} {a b : Stm} {c : Bool} {fl : DFl} {d' : DV} (h : DT t ds c) (ha : c = true → DS a ds fl d') (hb : c = false → DS b ds fl d') : DS (sIf t a b) ds fl d' := fun nb vs Λ E => by
  obtain ⟨Λ1, e1, p1⟩ := h vs Λ E
  cases c with
  | true =>
    obtain ⟨f2, vs2, Λ2, e2, p2, E2, r2⟩ := ha rfl nb vs Λ1 (E.mono p1)
    exact ⟨f2, vs2, Λ2, bI e1 e2, ptr p1 p2, E2, r2⟩
  | false =>
    obtain ⟨f2, vs2, Λ2, e2, p2, E2, r2⟩ := hb rfl nb vs Λ1 (E.mono p1)
    exact ⟨f2, vs2, Λ2, bI e1 e2, ptr p1 p2, E2, r2⟩
/-- for, over what stands -/
noncomputable def DA (asg : Asg) (d : D) (ds d1 : DV) : Prop := ∀ v vs Λ, Den Λ v d → EnvD vs Λ ds → ∃ vs1, asg v vs Λ = some vs1 ∧ EnvD vs1 Λ d1
theorem DA.name {i : Nat} {d : D} : DA (aName i) d ds (ds.set i (some d)) := fun v vs Λ h E => ⟨_, rfl, E.set h⟩
theorem DA.pair {i j : Nat} {a b : D} : DA (aPair i j) (.tup [a, b]) ds ((ds.set i (some a)).set j (some b)) := fun v vs Λ h E => by
  obtain ⟨k, xs, rfl, e, r⟩ := h.tupOf
  obtain ⟨u, v, rfl, r1, r2⟩ := Dens.two r
  exact ⟨_, by simp only [aPair, asTup, e], (E.set r1).set r2⟩
noncomputable def FD (asg : Asg) (body : Stm) (l : List D) (ds ds' : DV) : Prop := ∀ ok nb xs vs Λ, Dens Λ xs l → EnvD vs Λ ds → (∀ Λ', Λ <+: Λ' → ok Λ' = true) → ∃ vs' Λ', forGo ok asg body nb xs vs Λ = some (.next, vs', Λ') ∧ Λ <+: Λ' ∧ EnvD vs' Λ' ds'
theorem FD.nil {asg : Asg} {body : Stm} : FD asg body [] ds ds := fun ok nb xs vs Λ r E hok => by
  rw [r.unN]
  exact ⟨vs, Λ, ifT (hok Λ (prf _)), prf _, E⟩
theorem FD.cons {asg : Asg} {body : Stm} {d : D} {l : List D} {d1 d2 d3 : DV} (ha : DA asg d ds d1) (hb : DS body d1 .next d2) (hl : FD asg body l d2 d3) : FD asg body (d :: l) ds d3 := fun ok nb xs vs Λ r E hok => by
  obtain ⟨x, xs, rfl, r1, r2⟩ := r.unL
  obtain ⟨vs1, e1, E1⟩ := ha _ vs Λ r1 E
  obtain ⟨f2, vs2, Λ2, e2, p2, E2, q2⟩ := hb nb vs1 Λ E1
  cases f2 with
  | ret v => exact q2.elim
  | next =>
    obtain ⟨vs3, Λ3, e3, p3, E3⟩ := hl ok nb _ vs2 Λ2 (Dens.mono p2 r2) E2 (fun Λ' q => hok Λ' (ptr p2 q))
    exact ⟨vs3, Λ3, (ifT (hok Λ (prf _))).trans (bI e1 (bI e2 e3)), ptr p2 p3, E3⟩
theorem DS.for_ {src : Src} {asg : Asg} {body : Stm} {l : List D} {d' : DV} (hs : DSr src ds l) (h : FD asg body l ds d') : DS (sFor src asg body) ds .next d' := fun nb vs Λ E => by
  obtain ⟨xs, k?, Λ1, e1, p1, r1, st⟩ := hs vs Λ E
  obtain ⟨vs2, Λ2, e2, p2, E2⟩ := h (stands k? xs) nb xs vs Λ1 r1 (E.mono p1) st
  exact ⟨.next, vs2, Λ2, bI e1 e2, ptr p1 p2, E2, trivial⟩
theorem DFn {np n : Nat} {body : Stm} {args : List D} {d : D} {d' : DV} (hl : args.length = np) (h : DS body (args.map some ++ List.replicate (n - np) none) (.ret d) d') : DF (def_ np n body) args d := fun vs Λ r => by
  obtain ⟨f, vs', Λ', e, p, E, rr⟩ := h Λ.length _ Λ (EnvD.args r (n - np))
  have : vs.length = np := by rw [r.length, hl]
  cases f with
  | next => exact rr.elim
  | ret v => exact ⟨v, Λ', (if_pos this).trans (bI e rfl), p, rr⟩
end
end Mine

/-! ## part B3 -/
set_option linter.unusedVariables false
namespace Mine

theorem k_is_pointer (w : Int) : DF f_is_pointer [.int w] (.bool (decide (w % 2 = 1))) :=
  DFn rfl (DS.seqR (DS.ret (DE.cmp DC.eqI (DE.bin (DO.mod (by decide)) (DE.var rfl) (DE.int 2)) (DE.int 1))))
theorem k_pointer_to (a : Int) : DF f_pointer_to [.int a] (.int (2 * a + 1)) :=
  DFn rfl (DS.seqR (DS.ret (DE.bin DO.add (DE.bin DO.mul (DE.int 2) (DE.var rfl)) (DE.int 1))))
theorem k_address_of (w : Int) : DF f_address_of [.int w] (.int (w / 2)) :=
  DFn rfl (DS.seqR (DS.ret (DE.bin (DO.div (by decide)) (DE.var rfl) (DE.int 2))))

theorem DE.as {e : Ex} {ds : DV} {d d' : D} (h : DE e ds d) (he : d = d') : DE e ds d' := he ▸ h
theorem DF.as {f : Fn} {l : List D} {d d' : D} (h : DF f l d) (he : d = d') : DF f l d' := he ▸ h

theorem k_gap {n : Int} (h0 : 0 ≤ n) (h1 : n ≤ 1000) : DF f_gap [.int n] (.ints (gapI n.toNat)) := by
  by_cases hn : n = 0
  · subst hn
    exact DFn (d' := _) rfl (DS.seqR (DS.ite (c := true) (by simpa using DT.cmp (DC.eqI (i := 0) (j := 0)) (DE.var (ds := [some (D.int 0)]) (i := 0) rfl) (DE.int 0)) (fun _ => DS.seqR (DS.ret (DE.list (l := []) DEs.nil))) (fun h => nomatch h)))
  · refine DFn (d' := _) rfl (DS.seq (DS.ite (c := false) (by simpa [hn] using DT.cmp (DC.eqI (i := n) (j := 0)) (DE.var (ds := [some (D.int n)]) (i := 0) rfl) (DE.int 0)) (fun h => nomatch h) (fun _ => DS.pass)) (DS.seqR (DS.ret (DE.as (DE.bin (DO.cat ?_) (DE.list (DEs.cons (DE.neg (DE.var rfl)) DEs.nil)) (DE.bin (DO.rep (n := n - 1) (by lia)) (DE.list (DEs.cons (DE.int 0) DEs.nil)) (DE.bin DO.sub (DE.var rfl) (DE.int 1)))) ?_))))
    · simp [big]; lia
    · obtain ⟨m, hm⟩ : ∃ m : Nat, n = (m : Int) + 1 := ⟨(n - 1).toNat, by lia⟩
      subst hm
      have e1 : ((m : Int) + 1).toNat = m + 1 := by lia
      have e2 : ((m : Int) + 1 - 1).toNat = m := by lia
      rw [e1, e2]
      simp [gapI, D.ints]

noncomputable abbrev D.tab (T : Tab) : D := .dict (T.map fun e => (e.1, D.ints e.2))
theorem tab_look {T : Tab} {w : Int} : (T.map fun e => (e.1, D.ints e.2)).lookup w = (T.lookup w).map D.ints := by
  induction T with
  | nil => rfl
  | cons e T ih =>
    obtain ⟨p, row⟩ := e
    rw [List.map_cons, List.lookup_cons, List.lookup_cons, ih]
    cases w == p <;> rfl
theorem tab_keys {T : Tab} : (T.map fun e => (e.1, D.ints e.2)).map (·.1) = T.map (·.1) := by rw [List.map_map]; rfl
theorem look_key {T : Tab} {w : Int} : (T.lookup w).isSome = decide (w ∈ T.map (·.1)) := by
  by_cases h : w ∈ T.map (·.1)
  · obtain ⟨v, hv⟩ := look_some h
    rw [hv]; simp only [Option.isSome_some, h, decide_true]
  · rw [look_none h]; simp only [Option.isSome_none, h, decide_false]
theorem DC.inTab {T : Tab} {w : Int} : DC cIn (.int w) (.tab T) (T.lookup w).isSome := by
  have := DC.inD (i := w) (l := T.map fun e => (e.1, D.ints e.2))
  rw [tab_keys] at this
  rw [look_key]; exact this
theorem DE.row {a i : Ex} {ds : DV} {T : Tab} {w : Int} {row : List Int} (h : DE a ds (.tab T)) (hi : DE i ds (.int w)) (hl : T.lookup w = some row) : DE (xIdx a i) ds (.ints row) :=
  DE.idxD h hi (by rw [tab_look, hl]; rfl)
theorem DO.cati {a b : List Int} (h : a.length + b.length ≤ big) : DO oAdd (.ints a) (.ints b) (.ints (a ++ b)) := by
  have := DO.cat (a := a.map D.int) (b := b.map D.int) (by simpa using h)
  rw [← List.map_append] at this; exact this
theorem DE.leni {a : Ex} {ds : DV} {l : List Int} (h : DE a ds (.ints l)) (hl : l.length ≤ big) : DE (xLen a) ds (.int l.length) := by
  have := DE.lenL h (by simpa using hl)
  simpa using this
theorem DE.idxi {a i : Ex} {ds : DV} {l : List Int} {n : Nat} {x : Int} (h : DE a ds (.ints l)) (hi : DE i ds (.int n)) (hx : l[n]? = some x) (hb : n < 100000) : DE (xIdx a i) ds (.int x) :=
  DE.idxL h hi ⟨by lia, by lia⟩ (by simp [hx])
noncomputable def cutI (l h : Option Nat) (xs : List Int) : List Int := (match h with | some k => xs.take k | none => xs).drop (l.getD 0)
theorem DE.slicei {a : Ex} {ds : DV} {lo hi : Option Ex} {l : List Int} {m n : Option Nat} (h : DE a ds (.ints l)) (hl : DP lo ds m) (hh : DP hi ds n) (hb : l.length ≤ big) : DE (xSlice a lo hi) ds (.ints (cutI m n l)) := by
  have := DE.slice h hl hh (by simpa using hb)
  refine this.as ?_
  unfold cutD cutI D.ints
  cases n with
  | none => simp [List.map_drop]
  | some n => simp [List.map_drop, List.map_take]

/-! the heap of a table -/
theorem heap_loop {T : Tab} {keepD : D} {S : List Int} {size : Nat} (hk : ∀ p : Int, DC cIn (.int p) keepD (decide (p ∈ S))) (hs : size ≤ 1000) :
    ∀ (E : Tab) (mem : List Int) (pv : Option D), (∀ e ∈ E, T.lookup e.1 = some e.2) → Fit mem.length (only E S) size →
      ∃ mem' pv', FD (aName 4) (sSeq (sIf (tOf (xCmp cIn (xVar 4) (xVar 1)))
      (sSeq (sAssign 3 (xBin oAdd (xBin oAdd (xBin oAdd (xVar 3) (xCall f_gap [xBin oSub (xBin oDiv (xVar 4) (xInt 2)) (xLen (xVar 3))])) (xList [xLen (xIdx (xVar 0) (xVar 4))])) (xIdx (xVar 0) (xVar 4)))) sPass) sPass) sPass)
        ((E.map (·.1)).map .int) [some (.tab T), some keepD, some (.int size), some (.ints mem), pv] [some (.tab T), some keepD, some (.int size), some (.ints mem'), pv'] ∧ mem'.length ≤ size ∧ mem' ++ gapI (size - mem'.length) = mem ++ rend mem.length (only E S) size
  | [], mem, pv, hE, hf => ⟨mem, pv, FD.nil, hf, rfl⟩
  | (p, row) :: E, mem, pv, hE, hf => by
    have hl : T.lookup p = some row := hE (p, row) (.head _)
    by_cases hp : p ∈ S
    · have eo : only ((p, row) :: E) S = (p, row) :: only E S := by simp [only, List.filter_cons, hp]
      rw [eo] at hf ⊢
      obtain ⟨f1, f2, f3, f4⟩ := hf
      have f5 := f4.le
      have hb : big = 100000 := rfl
      have ec : p / 2 = (adr p : Int) := (adr_cast f2).symm
      have l1 : (mem ++ gapI (adr p - mem.length) ++ [(row.length : Int)] ++ row).length = adr p + row.length + 1 := by simp [gapI_len]; lia
      obtain ⟨mem', pv', h1, h2, h3⟩ := heap_loop (T := T) hk hs E (mem ++ gapI (adr p - mem.length) ++ [(row.length : Int)] ++ row) (some (.int p)) (fun e he => hE e (.tail _ he)) (by rw [l1]; exact f4)
      refine ⟨mem', pv', FD.cons DA.name (DS.seq (DS.ite (c := true) (by have := DT.cmp (hk p) (DE.var (ds := [some (.tab T), some keepD, some (.int size), some (.ints mem), some (.int p)]) (i := 4) rfl) (DE.var (i := 1) rfl); rw [show decide (p ∈ S) = true by simpa using hp] at this; exact this) (fun _ => DS.seq (DS.assign (d := .ints (mem ++ gapI (adr p - mem.length) ++ [(row.length : Int)] ++ row)) ?_) DS.pass) (fun h => nomatch h)) DS.pass) h1, h2, ?_⟩
      · refine DE.bin (DO.cati (by simp [gapI_len]; lia)) (DE.bin (DO.cati (by simp [gapI_len]; lia)) (DE.bin (DO.cati (by simp [gapI_len]; lia)) (DE.var rfl) ?_) ?_) (DE.row (DE.var rfl) (DE.var rfl) hl)
        · refine DE.call (l := [.int ((adr p - mem.length : Nat) : Int)]) ((k_gap (by lia) (by lia)).as (by simp)) (DEs.cons ?_ DEs.nil)
          refine (DE.bin DO.sub (DE.bin (DO.div (by decide)) (DE.var rfl) (DE.int 2)) (DE.leni (DE.var rfl) (by lia))).as ?_
          show D.int (p / 2 - (mem.length : Int)) = _
          congr 1
          lia
        · exact DE.list (DEs.cons (DE.leni (DE.row (DE.var rfl) (DE.var rfl) hl) (by lia)) DEs.nil)
      · rw [h3, l1]
        simp only [rend]
        simp
    · have eo : only ((p, row) :: E) S = only E S := by simp [only, List.filter_cons, hp]
      rw [eo] at hf ⊢
      obtain ⟨mem', pv', h1, h2, h3⟩ := heap_loop (T := T) hk hs E mem (some (.int p)) (fun e he => hE e (.tail _ he)) hf
      refine ⟨mem', pv', FD.cons DA.name (DS.seq (DS.ite (c := false) (by have := DT.cmp (hk p) (DE.var (ds := [some (.tab T), some keepD, some (.int size), some (.ints mem), some (.int p)]) (i := 4) rfl) (DE.var (i := 1) rfl); rw [show decide (p ∈ S) = false by simpa using hp] at this; exact this) (fun h => nomatch h) (fun _ => DS.pass)) DS.pass) h1, h2, h3⟩

theorem nodup_look : ∀ {T : Tab}, (T.map (·.1)).Nodup → ∀ e ∈ T, T.lookup e.1 = some e.2
  | (p, row) :: T, hn, e, he => by
    simp only [List.map_cons, List.nodup_cons] at hn
    rw [List.lookup_cons]
    rcases List.mem_cons.mp he with rfl | he
    · simp
    · have hne : e.1 ≠ p := fun x => hn.1 (by rw [← x]; exact List.mem_map_of_mem he)
      rw [show (e.1 == p) = false by simpa using hne]
      exact nodup_look hn.2 e he
/-- keys in order -/
noncomputable def Up : Tab → Prop := fun T => inOrder (T.map (·.1)) = true
theorem k_heap {T : Tab} {keepD : D} {S : List Int} {size : Nat} (hk : ∀ p : Int, DC cIn (.int p) keepD (decide (p ∈ S))) (hs : size ≤ 1000) (hu : inOrder (T.map (·.1)) = true) (hn : (T.map (·.1)).Nodup) (hl : T.length ≤ 60) (hf : Fit 0 (only T S) size) :
    DF f_heap [.tab T, keepD, .int size] (.ints (rend 0 (only T S) size)) := by
  obtain ⟨mem', pv', h1, h2, h3⟩ := heap_loop (T := T) (keepD := keepD) (S := S) (size := size) hk hs T [] none (nodup_look hn) hf
  have hb : big = 100000 := rfl
  refine DFn (d' := _) rfl (DS.seq (DS.assign (DE.list DEs.nil)) (DS.seq (DS.for_ (DSr.list (l := (T.map (·.1)).map .int) ((DE.sorted (DE.var rfl) (by rw [tab_keys]; exact hu) (by simpa using hl)).as (by rw [tab_keys])) (by simp; lia)) h1) (DS.seqR (DS.ret ?_))))
  refine (DE.bin (DO.cati (b := gapI (size - mem'.length)) (by rw [gapI_len]; lia)) (DE.var rfl) (DE.call (l := [.int ((size - mem'.length : Nat) : Int)]) ((k_gap (by lia) (by lia)).as (by simp)) (DEs.cons ((DE.bin DO.sub (DE.var rfl) (DE.leni (DE.var rfl) (by lia))).as ?_) DEs.nil))).as ?_
  · congr 1; lia
  · rw [h3]; simp

/-! a write -/
theorem put_new {α : Type} {k : Int} {v : D} : ∀ {l : List (Int × D)}, k ∉ l.map (·.1) → putDD k v l = l ++ [(k, v)]
  | [], _ => rfl
  | (j, u) :: l, h => by
    simp only [List.map_cons, List.mem_cons, not_or] at h
    unfold putDD
    rw [if_neg (fun e => h.1 e.symm), put_new (α := α) h.2]; rfl
theorem puts_new : ∀ {l acc : List (Int × D)}, (acc.map (·.1) ++ l.map (·.1)).Nodup → l.foldl (fun d p => putDD p.1 p.2 d) acc = acc ++ l
  | [], acc, _ => by simp
  | (k, v) :: l, acc, h => by
    have hk : k ∉ acc.map (·.1) := fun hx => (List.nodup_append.mp h).2.2 k hx k (by simp) rfl
    rw [List.foldl_cons, put_new (α := Nat) hk, puts_new (by simpa using h)]
    simp
theorem put_old {k : Int} {v : D} : ∀ {l : List (Int × D)}, (l.map (·.1)).Nodup → k ∈ l.map (·.1) → putDD k v l = l.map fun e => if e.1 = k then (e.1, v) else e
  | [], _, h => nomatch h
  | (j, u) :: l, hn, h => by
    simp only [List.map_cons, List.nodup_cons, List.mem_cons] at hn h
    unfold putDD
    by_cases e : j = k
    · subst e
      rw [if_pos rfl, List.map_cons, if_pos rfl]
      congr 1
      have : ∀ e ∈ l, (if e.1 = j then (e.1, v) else e) = e := fun e he => if_neg fun x => hn.1 (by rw [← x]; exact List.mem_map_of_mem he)
      conv => lhs; rw [← List.map_id l]
      exact (List.map_congr_left fun e he => (this e he).symm)
    · rw [if_neg e, List.map_cons, if_neg e, put_old hn.2 (h.resolve_left fun x => e x.symm)]
theorem set_cut {α : Type} (l : List α) (i : Nat) (w : α) (h : i < l.length) : l.take i ++ [w] ++ l.drop (i + 1) = l.set i w := by
  rw [List.set_eq_take_append_cons_drop, if_pos h]; simp
theorem k_write {T : Tab} {p w : Int} {i : Nat} {row : List Int} (hn : (T.map (·.1)).Nodup) (hp : T.lookup p = some row) (hi : i < row.length) (hr : row.length ≤ 1000) (hl : T.length ≤ 60) :
    DF f_write [.tab T, .tup [.int p, .int i], .int w] (.tab (wr T p i w)) := by
  have hb : big = 100000 := rfl
  refine DFn (d' := _) rfl (DS.seq (DS.assign (d := .ints row) (DE.row (DE.var rfl) (DE.idxT (DE.var rfl) (DE.int 0) (by decide) rfl) hp)) (DS.seqR (DS.ret ?_)))
  refine (DE.dictOf (l := (T.map fun e => (e.1, D.ints e.2)) ++ [(p, .ints (row.set i w))]) ?_ (by simp; lia)).as ?_
  · rw [List.map_append]
    refine DE.bin (DO.cat (by simp; lia)) (DE.items (DE.var rfl) (by simp; lia)) (DE.list (DEs.cons (DE.tup (DEs.cons (DE.idxT (DE.var rfl) (DE.int 0) (by decide) rfl) (DEs.cons ?_ DEs.nil))) DEs.nil))
    refine (DE.bin (DO.cati (a := row.take i ++ [w]) (b := row.drop (i + 1)) (by simp; lia)) (DE.bin (DO.cati (a := row.take i) (b := [w]) (by simp; lia)) ?_ (DE.list (DEs.cons (DE.var rfl) DEs.nil))) ?_).as (by rw [set_cut _ _ _ hi])
    · exact (DE.slicei (DE.var rfl) DP.none (DP.some (DE.idxT (DE.var rfl) (DE.int 1) (by decide) rfl) (by lia)) (by lia)).as (by simp [cutI])
    · refine (DE.slicei (DE.var rfl) (DP.some (DE.bin DO.add (DE.idxT (DE.var rfl) (DE.int 1) (by decide) rfl) (DE.int 1)) (by lia)) DP.none (by lia)).as ?_
      simp only [cutI, Option.getD_some]
      rw [show ((i : Int) + 1).toNat = i + 1 by lia]
  · have hpn := puts_new (l := T.map fun e => (e.1, D.ints e.2)) (acc := []) (by rw [tab_keys]; simpa using hn)
    rw [List.foldl_append, hpn]
    simp only [List.nil_append, List.foldl_cons, List.foldl_nil]
    rw [put_old (by rw [tab_keys]; exact hn) (by rw [tab_keys]; have := look_key (T := T) (w := p); rw [hp] at this; simpa using this)]
    unfold D.tab wr
    rw [List.map_map, List.map_map]
    congr 1
    apply List.map_congr_left
    intro e he
    simp only [Function.comp]
    split
    · rename_i h
      have := nodup_look hn e he
      rw [h, hp] at this
      cases this; rfl
    · rfl
end Mine

/-! ## part B4 -/
set_option linter.unusedVariables false
namespace Mine
section
variable {nb i k : Nat} {vs vs1 vs2 : Vars} {Λ Λ1 Λ2 Λ0 : Led} {a b : Stm} {e ix : Ex} {t : Te} {v : V} {xs : List V}
theorem run_seq (h : a nb vs Λ = some (.next, vs1, Λ1)) : sSeq a b nb vs Λ = b nb vs1 Λ1 := by simp [sSeq, h]
theorem run_assign (h : e vs Λ = some (v, Λ1)) : sAssign i e nb vs Λ = some (.next, vs.set i (some v), Λ1) := by simp [sAssign, h]
theorem run_if {c : Bool} (h : t vs Λ = some (c, Λ1)) : sIf t a b nb vs Λ = if c then a nb vs Λ1 else b nb vs Λ1 := by simp [sIf, h]
theorem run_append (hv : getV vs i = some (.ref k)) (hk : Λ[k]? = some (.list xs)) (he : e vs Λ = some (v, Λ1)) (hp : Λ <+: Λ1) (hnb : nb ≤ k) (hl : xs.length < big) :
    sAppend i e nb vs Λ = some (.next, vs, Λ1.set k (.list (xs ++ [v]))) := by
  simp [sAppend, hv, asList, hk, he, pre_at hp hk, hnb, hl]
theorem run_set {n : Nat} (he : e vs Λ = some (v, Λ1)) (hv : getV vs i = some (.ref k)) (hix : ix vs Λ1 = some (.int n, Λ2)) (hk : Λ2[k]? = some (.list xs)) (hn : n < xs.length) (hn' : n < 100000) (hnb : nb ≤ k) :
    sSetIdx i ix e nb vs Λ = some (.next, vs, Λ2.set k (.list (xs.set n v))) := by
  simp [sSetIdx, hv, asList, hk, he, hix, natOf, hnb, hn, hn']
/-- all stands but k -/
noncomputable def Ext (k : Nat) (Λ Λ' : Led) : Prop := ∀ j o, j ≠ k → Λ[j]? = some o → Λ'[j]? = some o
theorem Ext.refl : Ext k Λ Λ := fun _ _ _ e => e
theorem Ext.trans (h : Ext k Λ Λ1) (h' : Ext k Λ1 Λ2) : Ext k Λ Λ2 := fun j o hj e => h' j o hj (h j o hj e)
theorem Ext.pre (h : Λ <+: Λ1) : Ext k Λ Λ1 := fun j o _ e => pre_at h e
theorem Ext.set {o : O} : Ext k Λ (Λ.set k o) := fun j o hj e => by rw [List.getElem?_set_ne (Ne.symm hj)]; exact e
theorem pre_of (h : ∀ (j : Nat) o, Λ0[j]? = some o → Λ[j]? = some o) : Λ0 <+: Λ := by
  rw [List.prefix_iff_eq_take]
  apply List.ext_getElem?
  intro j
  rcases Nat.lt_or_ge j Λ0.length with hj | hj
  · rw [List.getElem?_take_of_lt hj, List.getElem?_eq_getElem hj]
    exact (h j _ (List.getElem?_eq_getElem hj)).symm
  · rw [List.getElem?_eq_none hj, List.getElem?_eq_none (by simp; lia)]
theorem Ext.keep (h : Ext k Λ Λ1) (h0 : Λ0 <+: Λ) (hk : Λ0.length ≤ k) : Λ0 <+: Λ1 := pre_of fun j o e => h j o (by have := (List.getElem?_eq_some_iff.mp e).1; lia) (pre_at h0 e)
theorem set_self {o o' : O} (h : Λ[k]? = some o') : (Λ.set k o)[k]? = some o := by
  rw [List.getElem?_set_self (List.getElem?_eq_some_iff.mp h).1]
theorem lt_of_at {o : O} (h : Λ[k]? = some o) : k < Λ.length := (List.getElem?_eq_some_iff.mp h).1
theorem for_run {ok : Led → Bool} {asg : Asg} {items : List V} (P : List V → Vars → Led → Prop)
    (step : ∀ done v rest vs Λ, items = done ++ v :: rest → P done vs Λ → ok Λ = true ∧ ∃ vs1 vs2 Λ2, asg v vs Λ = some vs1 ∧ a nb vs1 Λ = some (.next, vs2, Λ2) ∧ P (done ++ [v]) vs2 Λ2)
    (fin : ∀ vs Λ, P items vs Λ → ok Λ = true) (h0 : P [] vs Λ) : ∃ vs' Λ', forGo ok asg a nb items vs Λ = some (.next, vs', Λ') ∧ P items vs' Λ' := by
  have gen : ∀ rest done vs Λ, items = done ++ rest → P done vs Λ → ∃ vs' Λ', forGo ok asg a nb rest vs Λ = some (.next, vs', Λ') ∧ P items vs' Λ' := by
    intro rest
    induction rest with
    | nil =>
      intro done vs Λ hi hP
      rw [List.append_nil] at hi; subst hi
      exact ⟨vs, Λ, by simp [forGo, fin vs Λ hP], hP⟩
    | cons v rest ih =>
      intro done vs Λ hi hP
      obtain ⟨ho, vs1, vs2, Λ2, e1, e2, hP2⟩ := step done v rest vs Λ hi hP
      obtain ⟨vs3, Λ3, e3, hP3⟩ := ih (done ++ [v]) vs2 Λ2 (by simp [hi]) hP2
      exact ⟨vs3, Λ3, by simp [forGo, ho, e1, e2, e3], hP3⟩
  exact gen items [] vs Λ rfl h0
theorem range_items {n j : Nat} {done rest : List V} {v : V} (h : ((List.range n).map fun (i : Nat) => V.int (i : Int)) = done ++ v :: rest) : v = .int done.length ∧ done.length < n := by
  have := congrArg (fun l => l[done.length]?) h
  simp only [List.getElem?_map, List.getElem?_append_right (Nat.le_refl _), Nat.sub_self, List.getElem?_cons_zero] at this
  cases q : (List.range n)[done.length]? with
  | none => rw [q] at this; cases this
  | some x =>
    rw [q] at this
    obtain ⟨hl, hx⟩ := List.getElem?_eq_some_iff.mp q
    simp at hl hx this
    rw [← this, ← hx]; exact ⟨rfl, hl⟩
end

/-! new lists of ints -/
set_option genSizeOf false in
set_option genInjectivity false in
inductive RanI (x : Option (V × Led)) (Λ : Led) (l : List Int) : Prop
  | mk (k : Nat) (Λ' : Led) (e : x = some (.ref k, Λ')) (h : Λ.length ≤ k) (p : Λ <+: Λ') (r : Λ'[k]? = some (.list (l.map .int)))
noncomputable def DEf (e : Ex) (ds : DV) (l : List Int) : Prop := ∀ vs Λ, EnvD vs Λ ds → RanI (e vs Λ) Λ l
noncomputable def DFf (f : Fn) (args : List D) (l : List Int) : Prop := ∀ vs Λ, Dens Λ vs args → RanI (f vs Λ) Λ l
theorem newList_f {l : List Int} {Λ : Led} (h : l.length ≤ big) : newList (l.map .int) Λ = some (.ref Λ.length, Λ ++ [.list (l.map .int)]) := by simp [newList, alloc, h]
theorem last_at {Λ : Led} {o : O} : (Λ ++ [o])[Λ.length]? = some o := by simp
section
variable {ds : DV}
theorem DEf.de {e : Ex} {l : List Int} (h : DEf e ds l) : DE e ds (.ints l) := fun vs Λ E => by
  obtain ⟨k, Λ', e1, _, p, r⟩ := h vs Λ E
  exact ⟨_, Λ', e1, p, .ofInts r⟩
theorem DFf.df {f : Fn} {args : List D} {l : List Int} (h : DFf f args l) : DF f args (.ints l) := fun vs Λ E => by
  obtain ⟨k, Λ', e1, _, p, r⟩ := h vs Λ E
  exact ⟨_, Λ', e1, p, .ofInts r⟩
theorem DEf.cat {a b : Ex} {x y : List Int} (ha : DE a ds (.ints x)) (hb : DE b ds (.ints y)) (hl : x.length + y.length ≤ big) : DEf (xBin oAdd a b) ds (x ++ y) := fun vs Λ E => by
  obtain ⟨v1, Λ1, e1, p1, r1⟩ := ha vs Λ E
  obtain ⟨v2, Λ2, e2, p2, r2⟩ := hb vs Λ1 (E.mono p1)
  obtain ⟨j, rfl, q1⟩ := (r1.mono p2).intsOf
  obtain ⟨k, rfl, q2⟩ := r2.intsOf
  have hn := newList_f (l := x ++ y) (Λ := Λ2) (by simpa using hl)
  rw [List.map_append] at hn
  refine ⟨Λ2.length, _, by simp only [xBin, e1, e2, oAdd, asList, q1, q2, Option.bind_eq_bind, Option.bind_some]; exact hn, (ptr p1 p2).length_le, ptr (ptr p1 p2) (List.prefix_append _ _), ?_⟩
  rw [last_at, List.map_append]
theorem DEf.nil : DEf (xList []) ds [] := fun vs Λ E => ⟨Λ.length, Λ ++ [.list []], by simp [xList, xs_, newList, alloc], Nat.le_refl _, List.prefix_append _ _, by rw [last_at]; rfl⟩
theorem DEf.listOf {a : Ex} {l : List Int} (h : DE a ds (.ints l)) (hl : l.length ≤ big) : DEf (xListOf a) ds l := fun vs Λ E => by
  obtain ⟨v1, Λ1, e1, p1, r1⟩ := h vs Λ E
  obtain ⟨j, rfl, q1⟩ := r1.intsOf
  exact ⟨Λ1.length, _, by simp only [xListOf, e1, asList, q1, Option.bind_eq_bind, Option.bind_some]; exact newList_f hl, p1.length_le, ptr p1 (List.prefix_append _ _), last_at⟩
theorem DEf.slice {a : Ex} {lo hi : Option Ex} {l : List Int} {m n : Option Nat} (h : DE a ds (.ints l)) (hl : DP lo ds m) (hh : DP hi ds n) (hb : l.length ≤ big) : DEf (xSlice a lo hi) ds (cutI m n l) := fun vs Λ E => by
  obtain ⟨v1, Λ1, e1, p1, r1⟩ := h vs Λ E
  obtain ⟨Λ2, e2, p2⟩ := hl vs Λ1 (E.mono p1)
  obtain ⟨Λ3, e3, p3⟩ := hh vs Λ2 (E.mono (ptr p1 p2))
  obtain ⟨k, rfl, q⟩ := (r1.mono (ptr p2 p3)).intsOf
  have hc : cut m n (l.map V.int) = (cutI m n l).map .int := by
    unfold cut cutI
    cases n with
    | none => simp [List.map_drop]
    | some n => simp [List.map_drop, List.map_take]
  have hlen : (cutI m n l).length ≤ big := by
    unfold cutI
    cases n with
    | none => simp; lia
    | some n => simp; lia
  refine ⟨Λ3.length, _, by simp only [xSlice, e1, e2, e3, asList, q, Option.bind_eq_bind, Option.bind_some, List.length_map, if_pos hb, hc]; exact newList_f hlen, (ptr p1 (ptr p2 p3)).length_le, ptr (ptr p1 (ptr p2 p3)) (List.prefix_append _ _), last_at⟩
theorem DEf.call {f : Fn} {es : List Ex} {l : List D} {r : List Int} (hf : DFf f l r) (h : DEs es ds l) : DEf (xCall f es) ds r := fun vs Λ E => by
  obtain ⟨v1, Λ1, e1, p1, r1⟩ := h vs Λ E
  obtain ⟨k, Λ', e3, hk, p, q⟩ := hf v1 Λ1 r1
  exact ⟨k, Λ', by simp [xCall, e1, e3], Nat.le_trans p1.length_le hk, ptr p1 p, q⟩
end

/-! the order of a table's objects -/
noncomputable abbrev t_order : Te := tAnd (tOf (xCmp cLt (xVar 4) (xLen (xVar 2)))) (tAnd (tOf (xCmp cIn (xIdx (xVar 2) (xVar 4)) (xVar 0))) (tAnd (tOf (xCmp cNotIn (xIdx (xVar 2) (xVar 4)) (xVar 3))) tTrue))
noncomputable def b_order_body : Stm := sSeq (sIf (tAnd (tOf (xCmp cLt (xVar 4) (xLen (xVar 2)))) (tAnd (tOf (xCmp cIn (xIdx (xVar 2) (xVar 4)) (xVar 0))) (tAnd (tOf (xCmp cNotIn (xIdx (xVar 2) (xVar 4)) (xVar 3))) tTrue)))
      (sSeq (sAppend 3 (xIdx (xVar 2) (xVar 4)))
      (sSeq (sAssign 2 (xBin oAdd (xVar 2) (xIdx (xVar 0) (xIdx (xVar 2) (xVar 4))))) sPass)) sPass) sPass
theorem row_bound {T : Tab} (hr : ∀ e ∈ T, e.2.length ≤ 100) {w : Int} {row : List Int} (h : T.lookup w = some row) : row.length ≤ 100 := hr _ (look_mem h)
theorem order_step {T : Tab} (hr : ∀ e ∈ T, e.2.length ≤ 100) {nb i kw km : Nat} {vt vr : V} {ws words met : List Int} {Λ Λ0 : Led} {N : Nat} (hT : Den Λ0 vt (.tab T)) (hR : Den Λ0 vr (.ints ws)) (h0 : Λ0 <+: Λ)
    (hw : Λ[kw]? = some (.list (words.map .int))) (hm : Λ[km]? = some (.list (met.map .int))) (hkm : Λ0.length ≤ km) (hnb : nb ≤ km) (hne : kw ≠ km) (hi : i < 12) (hwl : words.length ≤ 100 + 100 * i) (hml : met.length ≤ i) :
    ∃ (kw' : Nat) (words' met' : List Int) (Λ' : Led), b_order_body nb [some vt, some vr, some (.ref kw), some (.ref km), some (.int i)] Λ = some (.next, [some vt, some vr, some (.ref kw'), some (.ref km), some (.int i)], Λ') ∧ Λ0 <+: Λ' ∧
      Λ'[kw']? = some (.list (words'.map .int)) ∧ Λ'[km]? = some (.list (met'.map .int)) ∧ kw' ≠ km ∧ words'.length ≤ 100 + 100 * (i + 1) ∧ met'.length ≤ i + 1 ∧ ordN T (N + 1) (words.drop i) met = ordN T N (words'.drop (i + 1)) met' := by
  have hb : big = 100000 := rfl
  have E : EnvD [some vt, some vr, some (.ref kw), some (.ref km), some (.int i)] Λ [some (.tab T), some (.ints ws), some (.ints words), some (.ints met), some (.int i)] :=
    ((((EnvD.nil.cons (.int i)).cons (.ofInts hm)).cons (.ofInts hw)).cons (hR.mono h0)).cons (hT.mono h0)
  have hlen : DT (tOf (xCmp cLt (xVar 4) (xLen (xVar 2)))) [some (.tab T), some (.ints ws), some (.ints words), some (.ints met), some (.int i)] (decide ((i : Int) < words.length)) := DT.cmp DC.lt (DE.var rfl) (DE.leni (DE.var rfl) (by lia))
  by_cases hil : i < words.length
  · have hx : words[i]? = some words[i] := List.getElem?_eq_getElem hil
    generalize hw' : words[i] = w at hx
    have hdrop : words.drop i = w :: words.drop (i + 1) := by rw [List.drop_eq_getElem_cons hil, hw']
    have hidx : DE (xIdx (xVar 2) (xVar 4)) [some (.tab T), some (.ints ws), some (.ints words), some (.ints met), some (.int i)] (.int w) := DE.idxi (DE.var rfl) (DE.var rfl) hx (by lia)
    have ht : DT t_order [some (.tab T), some (.ints ws), some (.ints words), some (.ints met), some (.int i)] _ := DT.and hlen fun _ => DT.and (DT.cmp (DC.inTab (T := T) (w := w)) hidx (DE.var rfl)) fun _ => DT.and (DT.cmp (DC.notIn (DC.inL (i := w) (l := met))) hidx (DE.var rfl)) fun _ => DT.true
    rw [show decide ((i : Int) < words.length) = true by simpa using hil] at ht
    obtain ⟨Λ1, e1, p1⟩ := ht _ Λ E
    cases hl : T.lookup w with
    | none =>
      rw [hl] at e1
      simp only [Option.isSome_none, Bool.false_and, Bool.and_false] at e1
      refine ⟨kw, words, met, Λ1, ?_, ptr h0 p1, pre_at p1 hw, pre_at p1 hm, hne, by lia, by lia, ?_⟩
      · unfold b_order_body
        rw [run_seq (vs1 := [some vt, some vr, some (.ref kw), some (.ref km), some (.int i)]) (Λ1 := Λ1)]
        · rfl
        · rw [run_if e1]; rfl
      · rw [hdrop]; simp only [ordN, hl]
    | some row =>
      rw [hl] at e1
      by_cases hmem : w ∈ met
      · simp only [Option.isSome_some, Bool.true_and, Bool.and_true, hmem, decide_true, Bool.not_true] at e1
        refine ⟨kw, words, met, Λ1, ?_, ptr h0 p1, pre_at p1 hw, pre_at p1 hm, hne, by lia, by lia, ?_⟩
        · unfold b_order_body
          rw [run_seq (vs1 := [some vt, some vr, some (.ref kw), some (.ref km), some (.int i)]) (Λ1 := Λ1)]
          · rfl
          · rw [run_if e1]; rfl
        · rw [hdrop]; simp only [ordN, hl, if_pos hmem]
      · simp only [Option.isSome_some, Bool.true_and, Bool.and_true, hmem, decide_false, Bool.not_false] at e1
        obtain ⟨v2, Λ2, e2, p2, r2⟩ := hidx _ Λ1 (E.mono p1)
        obtain rfl := r2.intOf
        have hm2 : Λ2[km]? = some (.list (met.map .int)) := pre_at (ptr p1 p2) hm
        have x3 : Ext km Λ (Λ2.set km (.list (met.map V.int ++ [.int w]))) := (Ext.pre (ptr p1 p2)).trans Ext.set
        have h03 : Λ0 <+: Λ2.set km (.list (met.map V.int ++ [.int w])) := x3.keep h0 hkm
        have hm3 : (Λ2.set km (.list (met.map V.int ++ [.int w])))[km]? = some (.list ((met ++ [w]).map .int)) := by rw [set_self hm2]; simp
        have hw3 := x3 kw _ hne hw
        have E3 : EnvD [some vt, some vr, some (.ref kw), some (.ref km), some (.int i)] (Λ2.set km (.list (met.map V.int ++ [.int w]))) [some (.tab T), some (.ints ws), some (.ints words), some (.ints (met ++ [w])), some (.int i)] :=
          ((((EnvD.nil.cons (.int i)).cons (.ofInts hm3)).cons (.ofInts hw3)).cons (hR.mono h03)).cons (hT.mono h03)
        have hrb := row_bound hr hl
        have hadd : DEf (xBin oAdd (xVar 2) (xIdx (xVar 0) (xIdx (xVar 2) (xVar 4)))) [some (.tab T), some (.ints ws), some (.ints words), some (.ints (met ++ [w])), some (.int i)] (words ++ row) :=
          DEf.cat (DE.var rfl) (DE.row (DE.var rfl) (DE.idxi (DE.var rfl) (DE.var rfl) hx (by lia)) hl) (by lia)
        obtain ⟨kw', Λ4, e4, hk4, p4, hw4⟩ := hadd _ _ E3
        have hm4 := pre_at p4 hm3
        refine ⟨kw', words ++ row, met ++ [w], Λ4, ?_, ptr h03 p4, hw4, hm4, ?_, by simp; lia, by simp; lia, ?_⟩
        · unfold b_order_body
          rw [run_seq (vs1 := [some vt, some vr, some (.ref kw'), some (.ref km), some (.int i)]) (Λ1 := Λ4)]
          · rfl
          · rw [run_if e1]
            simp only [if_true]
            rw [run_seq (run_append (k := km) (xs := met.map .int) rfl (pre_at p1 hm) e2 p2 hnb (by simp; lia)), run_seq (run_assign e4)]
            rfl
        · have := lt_of_at hm3
          lia
        · rw [hdrop]; simp only [ordN, hl, if_neg hmem]
          rw [List.drop_append_of_le_length (by lia)]
  · obtain ⟨Λ1, e1, p1⟩ := (DT.andF (u := (tAnd (tOf (xCmp cIn (xIdx (xVar 2) (xVar 4)) (xVar 0))) (tAnd (tOf (xCmp cNotIn (xIdx (xVar 2) (xVar 4)) (xVar 3))) tTrue))) (by rw [show decide ((i : Int) < words.length) = false by simpa using hil] at hlen; exact hlen)) _ Λ E
    refine ⟨kw, words, met, Λ1, ?_, ptr h0 p1, pre_at p1 hw, pre_at p1 hm, hne, by lia, by lia, ?_⟩
    · unfold b_order_body
      rw [run_seq (vs1 := [some vt, some vr, some (.ref kw), some (.ref km), some (.int i)]) (Λ1 := Λ1)]
      · rfl
      · rw [run_if e1]; rfl
    · rw [List.drop_of_length_le (by lia), List.drop_of_length_le (by lia), ordN_nil, ordN_nil]
end Mine

/-! ## part B5 -/
set_option linter.unusedVariables false
namespace Mine

theorem def_run {np n : Nat} {body : Stm} {args : List V} {Λ Λ' : Led} {v : V} {vs' : Vars} (hl : args.length = np) (h : body Λ.length (args.map some ++ List.replicate (n - np) none) Λ = some (.ret v, vs', Λ')) : def_ np n body args Λ = some (v, Λ') := by
  simp [def_, hl, h]
theorem run_ret {nb : Nat} {vs : Vars} {Λ Λ1 : Led} {e : Ex} {v : V} {b : Stm} (h : e vs Λ = some (v, Λ1)) : sSeq (sRet e) b nb vs Λ = some (.ret v, vs, Λ1) := by simp [sSeq, sRet, h]
theorem run_for {nb : Nat} {vs vs' : Vars} {Λ Λ1 Λ' : Led} {src : Src} {asg : Asg} {body : Stm} {items : List V} {k? : Option Nat} (h : src vs Λ = some (items, k?, Λ1)) (hf : forGo (stands k? items) asg body nb items vs Λ1 = some (.next, vs', Λ')) :
    sFor src asg body nb vs Λ = some (.next, vs', Λ') := by simp [sFor, h, hf]

theorem k_order {T : Tab} {ws : List Int} (hr : ∀ e ∈ T, e.2.length ≤ 100) (hws : ws.length ≤ 100) : DFf f_order [.tab T, .ints ws] (ordN T 12 ws []) := by
  intro args Λ0 hd
  have hb : big = 100000 := rfl
  cases hd with
  | @cons vt _ _ _ hT hd => cases hd with
    | @cons vr _ _ _ hR hd =>
      cases hd
      have E0 : EnvD [some vt, some vr, none, none, none] Λ0 [some (.tab T), some (.ints ws), none, none, none] := (EnvD.nones 3 |>.cons hR).cons hT
      obtain ⟨kw, Λ1, e1, hk1, p1, q1⟩ := DEf.listOf (a := xVar 1) (l := ws) (DE.var rfl) (by lia) _ Λ0 E0
      have E1 : EnvD [some vt, some vr, some (.ref kw), none, none] Λ1 [some (.tab T), some (.ints ws), some (.ints ws), none, none] := ((((EnvD.nones 2).cons (.ofInts q1)).cons (hR.mono p1)).cons (hT.mono p1))
      obtain ⟨km, Λ2, e2, hk2, p2, q2⟩ := DEf.nil _ Λ1 E1
      have hkm : Λ0.length ≤ km := Nat.le_trans p1.length_le hk2
      have hlt := lt_of_at q1
      have loop := for_run (ok := stands none ((List.range 12).map fun (i : Nat) => V.int (i : Int))) (asg := aName 4) (nb := Λ0.length) (a := b_order_body) (items := (List.range 12).map fun (i : Nat) => V.int (i : Int)) (vs := [some vt, some vr, some (.ref kw), some (.ref km), none]) (Λ := Λ2)
        (fun done vs Λ => ∃ (kw : Nat) (words met : List Int) (iv : Option V), vs = [some vt, some vr, some (.ref kw), some (.ref km), iv] ∧ Λ0 <+: Λ ∧ Λ[kw]? = some (.list (words.map .int)) ∧ Λ[km]? = some (.list (met.map .int)) ∧ kw ≠ km ∧ words.length ≤ 100 + 100 * done.length ∧ met.length ≤ done.length ∧ ordN T (12 - done.length) (words.drop done.length) met = ordN T 12 ws [])
        (fun done v rest vs Λ hi hP => by
          obtain ⟨kw, words, met, iv, rfl, h0, h1, h2, h3, h4, h5, h6⟩ := hP
          obtain ⟨rfl, hlt⟩ := range_items (j := 0) hi
          refine ⟨rfl, [some vt, some vr, some (.ref kw), some (.ref km), some (.int done.length)], ?_⟩
          obtain ⟨kw', words', met', Λ', e, h0', h1', h2', h3', h4', h5', h6'⟩ := order_step (N := 12 - (done.length + 1)) hr hT hR h0 h1 h2 hkm hkm h3 hlt h4 h5
          rw [show 12 - (done.length + 1) + 1 = 12 - done.length by lia, h6] at h6'
          exact ⟨_, Λ', rfl, e, kw', words', met', _, rfl, h0', h1', h2', h3', by simpa using h4', by simpa using h5', by simpa using h6'.symm⟩)
        (fun vs Λ _ => rfl)
        ⟨kw, ws, [], none, rfl, ptr p1 p2, pre_at p2 q1, q2, by lia, by simpa using hws, by simp, by simp⟩
      obtain ⟨vs', Λ', ef, kw', words, met, iv, rfl, h0, h1, h2, h3, h4, h5, h6⟩ := loop
      simp only [List.length_map, List.length_range, Nat.sub_self, ordN] at h6
      subst h6
      refine ⟨km, Λ', def_run (vs' := [some vt, some vr, some (.ref kw'), some (.ref km), iv]) rfl ?_, hkm, h0, h2⟩
      show sSeq _ _ _ [some vt, some vr, none, none, none] Λ0 = _
      exact (run_seq (run_assign e1)).trans ((run_seq (run_assign e2)).trans ((run_seq (run_for (Λ1 := Λ2) (k? := none) (items := (List.range 12).map fun (i : Nat) => V.int (i : Int)) (by simp [sRange, xInt, asInt, big]) ef)).trans (run_ret rfl)))

/-! words -/
noncomputable def wordOf (heads : List Int) (c : Int) : Int := if c % 5 = 4 then 2 * (c.natAbs : Int) else 2 * (heads[(c % 5).toNat]?.getD 0) + 1
noncomputable def b_words_body : Stm := sSeq (sIf (tOf (xCmp cEq (xBin oMod (xVar 3) (xInt 5)) (xInt 4)))
      (sSeq (sAppend 2 (xBin oMul (xInt 2) (xAbs (xVar 3)))) sPass)
      (sSeq (sAppend 2 (xBin oAdd (xBin oMul (xInt 2) (xIdx (xVar 1) (xBin oMod (xVar 3) (xInt 5)))) (xInt 1))) sPass)) sPass
theorem k_words {cells heads : List Int} (hc : cells.length ≤ 100) (hh : heads.length = 5) : DFf f_words [.ints cells, .ints heads] (cells.map (wordOf heads)) := by
  intro args Λ0 hd
  have hb : big = 100000 := rfl
  cases hd with
  | @cons vc _ _ _ hC hd => cases hd with
    | @cons vh _ _ _ hH hd =>
      cases hd
      have E0 : EnvD [some vc, some vh, none, none] Λ0 [some (.ints cells), some (.ints heads), none, none] := (EnvD.nones 2 |>.cons hH).cons hC
      obtain ⟨km, Λ1, e1, hk1, p1, q1⟩ := DEf.nil _ Λ0 E0
      have E1 : EnvD [some vc, some vh, some (.ref km), none] Λ1 [some (.ints cells), some (.ints heads), some (.ints []), none] := (((EnvD.nones 1).cons (.ofInts q1)).cons (hH.mono p1)).cons (hC.mono p1)
      obtain ⟨kc, rfl, hkc⟩ := hC.intsOf
      have loop := for_run (ok := stands (some kc) (cells.map .int)) (asg := aName 3) (nb := Λ0.length) (a := b_words_body) (items := cells.map .int) (vs := [some (.ref kc), some vh, some (.ref km), none]) (Λ := Λ1)
        (fun done vs Λ => ∃ (iv : Option V) (dn : List Int), vs = [some (.ref kc), some vh, some (.ref km), iv] ∧ Λ0 <+: Λ ∧ done = dn.map .int ∧ Λ[km]? = some (.list ((dn.map (wordOf heads)).map .int)))
        (fun done v rest vs Λ hi hP => by
          obtain ⟨iv, dn, rfl, h0, rfl, h1⟩ := hP
          have hv : ∃ c, v = .int c := by
            have : v ∈ cells.map V.int := by rw [hi]; simp
            obtain ⟨c, _, e⟩ := List.mem_map.mp this
            exact ⟨c, e.symm⟩
          obtain ⟨c, rfl⟩ := hv
          have hdl : dn.length < cells.length := by have := congrArg List.length hi; simp at this; lia
          refine ⟨by simp [stands, pre_at h0 hkc], [some (.ref kc), some vh, some (.ref km), some (.int c)], [some (.ref kc), some vh, some (.ref km), some (.int c)], ?_⟩
          have E : EnvD [some (.ref kc), some vh, some (.ref km), some (.int c)] Λ [some (.ints cells), some (.ints heads), some (.ints (dn.map (wordOf heads))), some (.int c)] := (((EnvD.nil.cons (.int c)).cons (.ofInts h1)).cons (hH.mono h0)).cons ((Den.ofInts hkc).mono h0)
          have ht : DT (tOf (xCmp cEq (xBin oMod (xVar 3) (xInt 5)) (xInt 4))) [some (.ints cells), some (.ints heads), some (.ints (dn.map (wordOf heads))), some (.int c)] (decide (c % 5 = 4)) := DT.cmp DC.eqI (DE.bin (DO.mod (by decide)) (DE.var rfl) (DE.int 5)) (DE.int 4)
          obtain ⟨Λ2, e2, p2⟩ := ht _ Λ E
          have fin : ∀ e : Ex, DE e [some (.ints cells), some (.ints heads), some (.ints (dn.map (wordOf heads))), some (.int c)] (.int (wordOf heads c)) → ∃ Λ', sSeq (sAppend 2 e) sPass Λ0.length [some (.ref kc), some vh, some (.ref km), some (.int c)] Λ2 = some (.next, [some (.ref kc), some vh, some (.ref km), some (.int c)], Λ') ∧ Λ0 <+: Λ' ∧ Λ'[km]? = some (.list (((dn ++ [c]).map (wordOf heads)).map .int)) := by
            intro e he
            obtain ⟨v3, Λ3, e3, p3, r3⟩ := he _ Λ2 (E.mono p2)
            obtain rfl := r3.intOf
            refine ⟨_, by rw [run_seq (run_append (k := km) (xs := (dn.map (wordOf heads)).map .int) rfl (pre_at p2 h1) e3 p3 hk1 (by simp; lia))]; rfl, ((Ext.pre (ptr p2 p3)).trans Ext.set).keep h0 hk1, ?_⟩
            rw [set_self (pre_at (ptr p2 p3) h1)]; simp
          by_cases h4 : c % 5 = 4
          · have hw : wordOf heads c = 2 * (c.natAbs : Int) := by simp [wordOf, h4]
            obtain ⟨Λ', e, a, b⟩ := fin (xBin oMul (xInt 2) (xAbs (xVar 3))) (by rw [hw]; exact DE.bin DO.mul (DE.int 2) (DE.abs (DE.var rfl)))
            refine ⟨Λ', rfl, ?_, _, dn ++ [c], rfl, a, by simp, b⟩
            unfold b_words_body
            rw [run_seq (Λ1 := Λ') (vs1 := [some (.ref kc), some vh, some (.ref km), some (.int c)])]
            · rfl
            · rw [run_if e2, show decide (c % 5 = 4) = true by simpa using h4, if_pos rfl]; exact e
          · have hlt : (c % 5).toNat < heads.length := by lia
            have hw : wordOf heads c = 2 * heads[(c % 5).toNat] + 1 := by simp [wordOf, h4, List.getElem?_eq_getElem hlt]
            have hmod : (c % 5) = (((c % 5).toNat : Nat) : Int) := by lia
            obtain ⟨Λ', e, a, b⟩ := fin (xBin oAdd (xBin oMul (xInt 2) (xIdx (xVar 1) (xBin oMod (xVar 3) (xInt 5)))) (xInt 1)) (by
              rw [hw]
              exact DE.bin DO.add (DE.bin DO.mul (DE.int 2) (DE.idxi (n := (c % 5).toNat) (DE.var rfl) ((DE.bin (DO.mod (by decide)) (DE.var rfl) (DE.int 5)).as (by rw [← hmod])) (List.getElem?_eq_getElem hlt) (by lia))) (DE.int 1))
            refine ⟨Λ', rfl, ?_, _, dn ++ [c], rfl, a, by simp, b⟩
            unfold b_words_body
            rw [run_seq (Λ1 := Λ') (vs1 := [some (.ref kc), some vh, some (.ref km), some (.int c)])]
            · rfl
            · rw [run_if e2, show decide (c % 5 = 4) = false by simpa using h4, if_neg (by simp)]; exact e)
        (fun vs Λ hP => by obtain ⟨iv, dn, rfl, h0, _, h1⟩ := hP; simp [stands, pre_at h0 hkc])
        ⟨none, [], rfl, p1, rfl, q1⟩
      obtain ⟨vs', Λ', ef, iv, dn, rfl, h0, hdn, h1⟩ := loop
      have : dn = cells := ((List.map_inj_right (f := V.int) (fun a b h => by cases h; rfl)).mp hdn).symm
      subst this
      refine ⟨km, Λ', def_run (vs' := [some (.ref kc), some vh, some (.ref km), iv]) rfl ?_, hk1, h0, h1⟩
      show sSeq _ _ _ [some (.ref kc), some vh, none, none] Λ0 = _
      exact (run_seq (run_assign e1)).trans ((run_seq (run_for (items := dn.map .int) (k? := some kc) (Λ1 := Λ1) (by simp [sList, xVar, getV, asList, pre_at p1 hkc]; lia) ef)).trans (run_ret rfl))
end Mine

/-! ## part B6 -/
set_option linter.unusedVariables false
namespace Mine
section
theorem DFnf {np n : Nat} {e : Ex} {args : List D} {l : List Int} (hl : args.length = np) (h : DEf e (args.map some ++ List.replicate (n - np) none) l) : DFf (def_ np n (sSeq (sRet e) sPass)) args l := fun vs Λ r => by
  obtain ⟨k, Λ', e1, hk, p, q⟩ := h _ Λ (EnvD.args r (n - np))
  have : vs.length = np := by rw [r.length, hl]
  exact ⟨k, Λ', def_run this (run_ret e1), hk, p, q⟩

theorem k_fields {mem row : List Int} {a : Nat} (hb : mem.length ≤ 1000) (h1 : mem[a]? = some (row.length : Int)) (h2 : (mem.drop (a + 1)).take row.length = row) : DFf f_fields_of [.ints mem, .int a] row := by
  have hbig : big = 100000 := rfl
  have ha : a < mem.length := (List.getElem?_eq_some_iff.mp h1).1
  have := DEf.slice (a := xVar 0) (lo := some (xBin oAdd (xVar 1) (xInt 1))) (hi := some (xBin oAdd (xBin oAdd (xVar 1) (xInt 1)) (xIdx (xVar 0) (xVar 1)))) (ds := [some (.ints mem), some (.int a)]) (l := mem) (m := some ((a : Int) + 1).toNat) (n := some ((a : Int) + 1 + row.length).toNat) (DE.var rfl)
    (DP.some (DE.bin DO.add (DE.var rfl) (DE.int 1)) (by lia)) (DP.some (DE.bin DO.add (DE.bin DO.add (DE.var rfl) (DE.int 1)) (DE.idxi (DE.var rfl) (DE.var rfl) h1 (by lia))) (by lia)) (by lia)
  have e : cutI (some ((a : Int) + 1).toNat) (some ((a : Int) + 1 + row.length).toNat) mem = row := by
    simp only [cutI, Option.getD_some]
    rw [show ((a : Int) + 1).toNat = a + 1 by lia, show ((a : Int) + 1 + row.length).toNat = a + 1 + row.length by lia, List.drop_take, show a + 1 + row.length - (a + 1) = row.length by lia]
    exact h2
  rw [e] at this
  exact DFnf rfl this

theorem k_with {mem : List Int} {a i : Nat} {w : Int} (hb : mem.length ≤ 1000) (hi : a + 1 + i < mem.length) : DFf f_with_field [.ints mem, .int a, .int i, .int w] (mem.set (a + 1 + i) w) := by
  intro args Λ0 hd
  have hbig : big = 100000 := rfl
  have E := EnvD.args hd 1
  have hlen := hd.length
  obtain ⟨v1, v2, v3, v4, rfl⟩ := len4 hlen
  obtain ⟨k, Λ1, e1, hk, p1, q1⟩ := DEf.listOf (a := xVar 0) (l := mem) (DE.var rfl) (by lia) _ Λ0 E
  have E1 := (E.mono p1).set (i := 4) (Den.ofInts q1)
  obtain ⟨v5, Λ2, e2, p2, r2⟩ := (DE.var (i := 3) (d := .int w) rfl) _ Λ1 E1
  obtain rfl := r2.intOf
  obtain ⟨v6, Λ3, e3, p3, r3⟩ := (DE.bin DO.add (DE.bin DO.add (DE.var (i := 1) (d := .int a) rfl) (DE.int 1)) (DE.var (i := 2) (d := .int i) rfl)) _ Λ2 (E1.mono p2)
  obtain rfl := r3.intOf
  have q3 := pre_at (ptr p2 p3) q1
  have e3' : xBin oAdd (xBin oAdd (xVar 1) (xInt 1)) (xVar 2) (([v1, v2, v3, v4].map some ++ List.replicate 1 none).set 4 (some (.ref k))) Λ2 = some (.int ((a + 1 + i : Nat) : Int), Λ3) := by rw [e3]; congr 3
  refine ⟨k, Λ3.set k (.list ((mem.map .int).set (a + 1 + i) (.int w))), def_run (vs' := (([v1, v2, v3, v4].map some ++ List.replicate 1 none).set 4 (some (.ref k)))) rfl ?_, hk, ?_, ?_⟩
  · exact (run_seq (run_assign e1)).trans ((run_seq (run_set (n := a + 1 + i) (k := k) e2 rfl e3' q3 (by simpa using hi) (by lia) hk)).trans (run_ret rfl))
  · exact ((Ext.pre (ptr p2 p3)).trans Ext.set).keep p1 hk
  · rw [set_self q3]; simp

/-! what can be reached -/
noncomputable def addA (m : List Int) (w : Int) : List Int := if w % 2 = 1 ∧ w / 2 ∉ m then m ++ [w / 2] else m
theorem addA_len {m : List Int} {w : Int} : (addA m w).length ≤ m.length + 1 := by unfold addA; split <;> simp
theorem meet_step {nb km : Nat} {vm vr pv : Option V} {m : List Int} {w : Int} {Λ : Led} (hm : Λ[km]? = some (.list (m.map .int))) (hnb : nb ≤ km) (hl : m.length ≤ 1000) :
    ∃ Λ', b_meet nb [vm, vr, some (.ref km), some (.int w), pv] Λ = some (.next, [vm, vr, some (.ref km), some (.int w), pv], Λ') ∧ Ext km Λ Λ' ∧ Λ'[km]? = some (.list ((addA m w).map .int)) := by
  have hb : big = 100000 := rfl
  have E : EnvD [vm, vr, some (.ref km), some (.int w), pv] Λ [none, none, some (.ints m), some (.int w), none] := (((EnvD.nil.skip).cons (.int w)).cons (.ofInts hm)).skip.skip
  have ha : DE (xCall f_address_of [xVar 3]) [none, none, some (.ints m), some (.int w), none] (.int (w / 2)) := DE.call (k_address_of w) (DEs.cons (DE.var rfl) DEs.nil)
  have ht : DT (tAnd (tOf (xCall f_is_pointer [xVar 3])) (tAnd (tOf (xCmp cNotIn (xCall f_address_of [xVar 3]) (xVar 2))) tTrue)) [none, none, some (.ints m), some (.int w), none] _ := DT.and (DT.of (DE.call (k_is_pointer w) (DEs.cons (DE.var rfl) DEs.nil))) fun _ => DT.and (DT.cmp (DC.notIn (DC.inL (i := w / 2) (l := m))) ha (DE.var rfl)) fun _ => DT.true
  obtain ⟨Λ1, e1, p1⟩ := ht _ Λ E
  by_cases hc : w % 2 = 1 ∧ w / 2 ∉ m
  · rw [show (decide (w % 2 = 1) && (!decide (w / 2 ∈ m) && true)) = true by simp [hc.1, hc.2]] at e1
    obtain ⟨v2, Λ2, e2, p2, r2⟩ := ha _ Λ1 (E.mono p1)
    obtain rfl := r2.intOf
    refine ⟨_, (run_seq ((run_if e1).trans ((if_pos rfl).trans ((run_seq (run_append (k := km) (xs := m.map .int) rfl (pre_at p1 hm) e2 p2 hnb (by simp; lia))).trans rfl)))).trans rfl, (Ext.pre (ptr p1 p2)).trans Ext.set, ?_⟩
    rw [set_self (pre_at (ptr p1 p2) hm)]
    simp [addA, hc]
  · rw [show (decide (w % 2 = 1) && (!decide (w / 2 ∈ m) && true)) = false by
      by_cases h1 : w % 2 = 1
      · have : w / 2 ∈ m := by by_cases h2 : w / 2 ∈ m; exact h2; exact absurd ⟨h1, h2⟩ hc
        simp [this]
      · simp [h1]] at e1
    refine ⟨Λ1, (run_seq ((run_if e1).trans ((if_neg (by simp)).trans rfl))).trans rfl, Ext.pre p1, ?_⟩
    rw [show addA m w = m from if_neg hc]; exact pre_at p1 hm
theorem meet_loop {nb km : Nat} {vm vr pv : Option V} {ok : Led → Bool} (hnb : nb ≤ km) : ∀ {q m : List Int} {wv : Option V} {Λ : Led}, (∀ Λ', Ext km Λ Λ' → ok Λ' = true) → Λ[km]? = some (.list (m.map .int)) → m.length + q.length ≤ 1000 →
    ∃ wv' Λ', forGo ok (aName 3) b_meet nb (q.map .int) [vm, vr, some (.ref km), wv, pv] Λ = some (.next, [vm, vr, some (.ref km), wv', pv], Λ') ∧ Ext km Λ Λ' ∧ Λ'[km]? = some (.list ((q.foldl addA m).map .int))
  | [], m, wv, Λ, hok, hm, hl => ⟨wv, Λ, by simp [forGo, hok Λ .refl], .refl, hm⟩
  | w :: q, m, wv, Λ, hok, hm, hl => by
    simp only [List.length_cons] at hl
    obtain ⟨Λ1, e1, x1, h1⟩ := meet_step (vm := vm) (vr := vr) (pv := pv) (w := w) hm hnb (by lia)
    have := addA_len (m := m) (w := w)
    obtain ⟨wv', Λ2, e2, x2, h2⟩ := meet_loop (vm := vm) (vr := vr) (pv := pv) (q := q) (wv := some (.int w)) hnb (fun Λ' h => hok Λ' (x1.trans h)) h1 (by lia)
    refine ⟨wv', Λ2, ?_, x1.trans x2, h2⟩
    have ha : aName 3 (.int w) [vm, vr, some (.ref km), wv, pv] Λ = some [vm, vr, some (.ref km), some (.int w), pv] := rfl
    simp only [List.map_cons, forGo, hok Λ .refl, if_true, ha, e1, e2, Option.bind_eq_bind, Option.bind_some]

/-- a word that is a pointer just when it is a key -/
noncomputable def GoodW' (T : Tab) (w : Int) : Prop := w % 2 = 1 ↔ (T.lookup w).isSome = true
noncomputable def GoodT (T : Tab) : Prop := ∀ e ∈ T, ∀ u ∈ e.2, GoodW' T u
theorem addA_addK {T : Tab} {m : List Int} {w : Int} (hm : ∀ u ∈ m, u % 2 = 1) (hw : GoodW' T w) : addA (m.map (· / 2)) w = (addK T m w).map (· / 2) := by
  unfold addA addK
  have h2 : w % 2 = 1 → (w / 2 ∈ m.map (· / 2) ↔ w ∈ m) := fun h1 => by
    constructor
    · intro h
      obtain ⟨u, hu, e⟩ := List.mem_map.mp h
      have := hm u hu
      have : u = w := by lia
      rw [← this]; exact hu
    · intro h; exact List.mem_map_of_mem h
  by_cases h1 : w % 2 = 1
  · by_cases h3 : w ∈ m
    · rw [if_neg (fun x => x.2 ((h2 h1).mpr h3)), if_neg (fun x => x.2 h3)]
    · rw [if_pos ⟨h1, fun x => h3 ((h2 h1).mp x)⟩, if_pos ⟨hw.mp h1, h3⟩]; simp
  · rw [if_neg (fun x => h1 x.1), if_neg (fun x => h1 (hw.mpr x.1))]
theorem addK_odd {T : Tab} {m : List Int} {w : Int} (hm : ∀ u ∈ m, u % 2 = 1) (hw : GoodW' T w) : ∀ u ∈ addK T m w, u % 2 = 1 := by
  unfold addK; split
  · rename_i h; intro u hu
    rcases List.mem_append.mp hu with x | x
    · exact hm u x
    · simp at x; subst x; exact hw.mpr h.1
  · exact hm
theorem adds_odd {T : Tab} : ∀ {q m : List Int}, (∀ u ∈ m, u % 2 = 1) → (∀ w ∈ q, GoodW' T w) → q.foldl addA (m.map (· / 2)) = (q.foldl (addK T) m).map (· / 2) ∧ ∀ u ∈ q.foldl (addK T) m, u % 2 = 1
  | [], m, hm, _ => ⟨rfl, hm⟩
  | w :: q, m, hm, hq => by
    rw [List.foldl_cons, List.foldl_cons, addA_addK hm (hq w (.head _))]
    exact adds_odd (addK_odd hm (hq w (.head _))) (fun u hu => hq u (.tail _ hu))
theorem adds_len {T : Tab} : ∀ {q m : List Int}, (q.foldl (addK T) m).length ≤ m.length + q.length
  | [], m => by simp
  | w :: q, m => by
    have h1 := adds_len (T := T) (q := q) (m := addK T m w)
    have h2 : (addK T m w).length ≤ m.length + 1 := by unfold addK; split <;> simp
    simp only [List.foldl_cons, List.length_cons]; lia
theorem Rch.pre {T : Tab} {k : Nat} {m r : List Int} (h : Rch T k m r) : m <+: r := by
  induction h with
  | done _ => exact List.prefix_refl _
  | step _ _ _ ih => exact List.IsPrefix.trans adds_pre ih
theorem Rch.le {T : Tab} {k : Nat} {m r : List Int} (h : Rch T k m r) : k ≤ m.length := by
  cases h with
  | done e => lia
  | step e _ _ => have := (List.getElem?_eq_some_iff.mp e).1; lia

theorem reach_while {T : Tab} {size nb km : Nat} {vm vr : V} {ws : List Int} {Λ0 : Led} (hf : Fit 0 T size) (hs : size ≤ 1000) (hG : GoodT T) (hr : ∀ e ∈ T, e.2.length ≤ 100) (hM : Den Λ0 vm (.ints (rend 0 T size))) (hnb : nb ≤ km) (h0k : Λ0.length ≤ km) {k : Nat} {m r : List Int} (h : Rch T k m r) :
    ∀ {wv : Option V} {Λ : Led} {fuel : Nat}, r.length < fuel + k → r.length ≤ 900 → (∀ u ∈ m, u % 2 = 1) → Λ0 <+: Λ → Λ[km]? = some (.list ((m.map (· / 2)).map .int)) →
      ∃ wv' Λ' pv', whileGo (tOf (xCmp cLt (xVar 4) (xLen (xVar 2)))) b_reach_turn nb fuel [some vm, some vr, some (.ref km), wv, some (.int k)] Λ = some (.next, [some vm, some vr, some (.ref km), wv', pv'], Λ') ∧ Λ0 <+: Λ' ∧ Λ'[km]? = some (.list ((r.map (· / 2)).map .int)) := by
  have hb : big = 100000 := rfl
  induction h with
  | @done k m hk =>
    intro wv Λ fuel hfu hrl hm h0 h1
    have E : EnvD [some vm, some vr, some (.ref km), wv, some (.int k)] Λ [none, none, some (.ints (m.map (· / 2))), none, some (.int k)] := ((((EnvD.nil.cons (.int k)).skip).cons (.ofInts h1)).skip).skip
    have ht : DT (tOf (xCmp cLt (xVar 4) (xLen (xVar 2)))) [none, none, some (.ints (m.map (· / 2))), none, some (.int k)] _ := DT.cmp DC.lt (DE.var rfl) (DE.leni (DE.var rfl) (by simp; lia))
    obtain ⟨Λ1, e1, p1⟩ := ht _ Λ E
    rw [show decide ((k : Int) < (m.map (· / 2)).length) = false by simp; lia] at e1
    obtain ⟨f, rfl⟩ : ∃ f, fuel = f + 1 := ⟨fuel - 1, by lia⟩
    exact ⟨wv, Λ1, some (.int k), by simp [whileGo, e1], ptr h0 p1, pre_at p1 h1⟩
  | @step k m r row w e el hrest ih =>
    intro wv Λ fuel hfu hrl hm h0 h1
    have hpre := hrest.pre
    have hle := hrest.le
    have hkl : k < m.length := (List.getElem?_eq_some_iff.mp e).1
    have hml : m.length ≤ r.length := by have := (List.IsPrefix.trans (adds_pre (T := T) (q := row) (m := m)) hpre).length_le; exact this
    have hrow := row_bound hr el
    have hwm : w ∈ m := List.mem_of_getElem? e
    have hwT : (w, row) ∈ T := look_mem el
    obtain ⟨w1, w2, w3, w4⟩ := hf.key hwT
    have hget := rend_get hf hwT
    have E : EnvD [some vm, some vr, some (.ref km), wv, some (.int k)] Λ [some (.ints (rend 0 T size)), none, some (.ints (m.map (· / 2))), none, some (.int k)] := ((((EnvD.nil.cons (.int k)).skip).cons (.ofInts h1)).skip).cons (hM.mono h0)
    have ht : DT (tOf (xCmp cLt (xVar 4) (xLen (xVar 2)))) [some (.ints (rend 0 T size)), none, some (.ints (m.map (· / 2))), none, some (.int k)] _ := DT.cmp DC.lt (DE.var rfl) (DE.leni (DE.var rfl) (by simp; lia))
    obtain ⟨Λ1, e1, p1⟩ := ht _ Λ E
    rw [show decide ((k : Int) < (m.map (· / 2)).length) = true by simp; lia] at e1
    have hlen := rend_len hf
    have hfd : DEf (xCall f_fields_of [xVar 0, xIdx (xVar 2) (xVar 4)]) [some (.ints (rend 0 T size)), none, some (.ints (m.map (· / 2))), none, some (.int k)] row :=
      DEf.call (k_fields (a := adr w) (by lia) hget.1 hget.2.1) (DEs.cons (DE.var rfl) (DEs.cons (DE.idxi (DE.var rfl) (DE.var rfl) (by rw [List.getElem?_map, e, Option.map_some, adr_cast w2]) (by lia)) DEs.nil))
    obtain ⟨ks, Λ2, e2, hk2, p2, q2⟩ := hfd _ Λ1 (E.mono p1)
    have hkml : km < Λ1.length := lt_of_at (pre_at p1 h1)
    have hne : ks ≠ km := by lia
    have hodd := adds_odd (T := T) (q := row) hm (fun u hu => hG _ hwT u hu)
    obtain ⟨wv2, Λ3, e3, x3, h3⟩ := meet_loop (vm := some vm) (vr := some vr) (pv := some (.int k)) (wv := wv) (nb := nb) (km := km) (ok := stands (some ks) (row.map .int)) hnb (q := row) (m := m.map (· / 2)) (Λ := Λ2) (fun Λ' x => by simp [stands, x ks _ hne q2]) (pre_at (ptr p1 p2) h1) (by simp; lia)
    rw [hodd.1] at h3
    have h03 : Λ0 <+: Λ3 := ((Ext.pre (ptr p1 p2)).trans x3).keep h0 h0k
    have E3 : EnvD [some vm, some vr, some (.ref km), wv2, some (.int k)] Λ3 [none, none, none, none, some (.int k)] := ((((EnvD.nil.cons (.int k)).skip).skip).skip).skip
    obtain ⟨v4, Λ4, e4, p4, r4⟩ := (DE.bin DO.add (DE.var (ds := [none, none, none, none, some (.int k)]) (i := 4) (d := .int k) rfl) (DE.int 1)) _ Λ3 E3
    obtain rfl := r4.intOf
    obtain ⟨f, rfl⟩ : ∃ f, fuel = f + 1 := ⟨fuel - 1, by lia⟩
    obtain ⟨wv', Λ5, pv', e5, h05, h5⟩ := ih (wv := wv2) (Λ := Λ4) (fuel := f) (by lia) hrl hodd.2 (ptr h03 p4) (pre_at p4 h3)
    refine ⟨wv', Λ5, pv', ?_, h05, h5⟩
    have hturn : b_reach_turn nb [some vm, some vr, some (.ref km), wv, some (.int k)] Λ1 = some (.next, [some vm, some vr, some (.ref km), wv2, some (.int (k + 1 : Nat))], Λ4) := by
      refine (run_seq (run_for (items := row.map .int) (k? := some ks) (Λ1 := Λ2) ?_ e3)).trans ((run_seq (run_assign e4)).trans rfl)
      simp [sList, e2, asList, q2]; lia
    simp only [whileGo, e1, hturn, Option.bind_eq_bind, Option.bind_some, if_true]
    exact e5

theorem k_reachable {T : Tab} {size : Nat} {ws r : List Int} (hf : Fit 0 T size) (hs : size ≤ 1000) (hG : GoodT T) (hr : ∀ e ∈ T, e.2.length ≤ 100) (hws : ∀ w ∈ ws, GoodW' T w) (hwl : ws.length ≤ 100) (hord : Ord T ws [] r) (hrl : r.length ≤ 900) :
    DFf f_reachable [.ints (rend 0 T size), .ints ws] (r.map (· / 2)) := by
  intro args Λ0 hd
  have hb : big = 100000 := rfl
  cases hd with
  | @cons vm _ _ _ hM hd => cases hd with
    | @cons vr _ _ _ hR hd =>
      cases hd
      have E0 : EnvD [some vm, some vr, none, none, none] Λ0 [some (.ints (rend 0 T size)), some (.ints ws), none, none, none] := (EnvD.nones 3 |>.cons hR).cons hM
      obtain ⟨km, Λ1, e1, hk1, p1, q1⟩ := DEf.nil _ Λ0 E0
      obtain ⟨kr, rfl, hkr⟩ := hR.intsOf
      have hne : kr ≠ km := by have := lt_of_at hkr; lia
      have hodd := adds_odd (T := T) (q := ws) (m := []) (fun u hu => nomatch hu) hws
      obtain ⟨wv, Λ2, e2, x2, h2⟩ := meet_loop (vm := some vm) (vr := some (.ref kr)) (pv := none) (wv := none) (nb := Λ0.length) (km := km) (ok := stands (some kr) (ws.map .int)) hk1 (q := ws) (m := []) (Λ := Λ1) (fun Λ' x => by simp [stands, x kr _ hne (pre_at p1 hkr)]) q1 (by simp; lia)
      rw [show ([] : List Int) = ([] : List Int).map (· / 2) from rfl, hodd.1] at h2
      have h02 : Λ0 <+: Λ2 := x2.keep p1 hk1
      have hR' := hord.rch
      obtain ⟨wv', Λ3, pv', e3, h03, h3⟩ := reach_while (vr := .ref kr) (nb := Λ0.length) (ws := ws) hf hs hG hr hM hk1 hk1 hR' (wv := wv) (Λ := Λ2) (fuel := 1000) (by simp; lia) hrl hodd.2 h02 h2
      refine ⟨km, Λ3, def_run (vs' := [some vm, some (.ref kr), some (.ref km), wv', pv']) rfl ?_, hk1, h03, h3⟩
      exact (run_seq (run_assign e1)).trans ((run_seq (run_for (items := ws.map .int) (k? := some kr) (Λ1 := Λ1) (by simp [sList, xVar, getV, asList, pre_at p1 hkr]; lia) e2)).trans ((run_seq (run_assign (i := 4) (e := xInt 0) (v := .int 0) rfl)).trans ((run_seq (a := sWhile 1000 (tOf (xCmp cLt (xVar 4) (xLen (xVar 2)))) b_reach_turn) e3).trans (run_ret rfl))))
end
end Mine

/-! ## part B7 -/
set_option linter.unusedVariables false
namespace Mine

noncomputable def nOf (h : Int) : Int := if h ≥ 0 then h + 1 else -h
inductive PB (mem : List Int) : Nat → Option (List Blk) → Prop
  | done {at_ : Nat} : at_ = mem.length → PB mem at_ (some [])
  | bad {at_ : Nat} {h : Int} : mem[at_]? = some h → (at_ : Int) + nOf h > mem.length → PB mem at_ none
  | step {at_ n : Nat} {h : Int} {r : Option (List Blk)} : mem[at_]? = some h → nOf h = n → at_ + n ≤ mem.length → PB mem (at_ + n) r → PB mem at_ (r.map ((at_, n, decide (h < 0)) :: ·))
theorem prs_pb {mem : List Int} : ∀ {at_ : Nat} {bs : List Blk}, Prs mem at_ bs → PB mem at_ (some bs)
  | _, [], h => .done h
  | at_, (a, n, b) :: bs, h => by
    obtain ⟨rfl, h1, h2, ⟨x, h3, h4, rfl⟩, h5⟩ := h
    exact PB.step (r := some bs) h3 h4 h2 (prs_pb h5)
noncomputable abbrev blkD (b : Blk) : D := .tup [.int b.1, .int b.2.1, .bool b.2.2]
noncomputable def TB (Λ : Led) (kb : Nat) : List V → List Blk → Prop
  | [], [] => True
  | x :: xs, b :: bs => (∃ t, x = .ref t ∧ t ≠ kb ∧ Λ[t]? = some (.tup [.int b.1, .int b.2.1, .bool b.2.2])) ∧ TB Λ kb xs bs
  | _, _ => False
theorem TB.ext {Λ Λ' : Led} {kb : Nat} (h : Ext kb Λ Λ') : ∀ {xs : List V} {bs : List Blk}, TB Λ kb xs bs → TB Λ' kb xs bs
  | [], [], _ => trivial
  | x :: xs, b :: bs, ⟨⟨t, e, ne, q⟩, r⟩ => ⟨⟨t, e, ne, h t _ ne q⟩, TB.ext h r⟩
  | [], _ :: _, h => h.elim
  | _ :: _, [], h => h.elim
theorem TB.append {Λ : Led} {kb : Nat} : ∀ {xs ys : List V} {bs cs : List Blk}, TB Λ kb xs bs → TB Λ kb ys cs → TB Λ kb (xs ++ ys) (bs ++ cs)
  | [], _, [], _, _, h => h
  | x :: xs, _, b :: bs, _, ⟨a, r⟩, h => ⟨a, TB.append r h⟩
  | [], _, _ :: _, _, h, _ => h.elim
  | _ :: _, _, [], _, h, _ => h.elim
theorem TB.dens {Λ : Led} {kb : Nat} : ∀ {xs : List V} {bs : List Blk}, TB Λ kb xs bs → Dens Λ xs (bs.map blkD)
  | [], [], _ => .nil
  | x :: xs, b :: bs, ⟨⟨t, e, ne, q⟩, r⟩ => by subst e; exact .cons (.tup q (.cons (.int _) (.cons (.int _) (.cons (.bool _) .nil)))) (TB.dens r)
  | [], _ :: _, h => h.elim
  | _ :: _, [], h => h.elim
theorem TB.len {Λ : Led} {kb : Nat} {xs : List V} {bs : List Blk} (h : TB Λ kb xs bs) : xs.length = bs.length := by have := h.dens.length; simpa using this

theorem blocks_loop {mem : List Int} {nb kb : Nat} {vm : V} {Λ0 : Led} (hM : Den Λ0 vm (.ints mem)) (hl : mem.length ≤ 1000) (hnb : nb ≤ kb) (h0k : Λ0.length ≤ kb) : ∀ (c j at_ : Nat) (r : Option (List Blk)) (bs : List Blk) (xs : List V) (jv hv nv : Option V) (Λ : Led),
    j + c = mem.length → j ≤ at_ → at_ ≤ mem.length → bs.length ≤ j → PB mem at_ r → Λ0 <+: Λ → Λ[kb]? = some (.list xs) → TB Λ kb xs bs →
    ∃ fl vs' Λ', forGo (stands none []) (aName 3) b_blocks_body nb ((List.range' j c).map fun (i : Nat) => V.int (i : Int)) [some vm, some (.ref kb), some (.int at_), jv, hv, nv] Λ = some (fl, vs', Λ') ∧ Λ0 <+: Λ' ∧
      (match r with
        | none => fl = .ret .none
        | some rest => fl = .next ∧ ∃ a j h n xs', vs' = [some vm, some (.ref kb), a, j, h, n] ∧ Λ'[kb]? = some (.list xs') ∧ TB Λ' kb xs' (bs ++ rest))
  | 0, j, at_, r, bs, xs, jv, hv, nv, Λ, hc, hj, ha, hbl, hP, h0, hk, ht => by
    have : at_ = mem.length := by lia
    cases hP with
    | done e => exact ⟨.next, [some vm, some (.ref kb), some (.int at_), jv, hv, nv], Λ, by simp [forGo, stands], h0, rfl, some (.int at_), jv, hv, nv, xs, rfl, hk, by simpa using ht⟩
    | bad e _ => have := (List.getElem?_eq_some_iff.mp e).1; lia
    | step e _ _ _ => have := (List.getElem?_eq_some_iff.mp e).1; lia
  | c + 1, j, at_, r, bs, xs, jv, hv, nv, Λ, hc, hj, ha, hbl, hP, h0, hk, ht => by
    have hb : big = 100000 := rfl
    have hasg : aName 3 (.int j) [some vm, some (.ref kb), some (.int at_), jv, hv, nv] Λ = some [some vm, some (.ref kb), some (.int at_), some (.int j), hv, nv] := rfl
    have E : EnvD [some vm, some (.ref kb), some (.int at_), some (.int j), hv, nv] Λ [some (.ints mem), none, some (.int at_), some (.int j), none, none] := ((((EnvD.nil.skip.skip).cons (.int j)).cons (.int at_)).skip).cons (hM.mono h0)
    have htst : DT (tOf (xCmp cEq (xVar 3) (xVar 2))) [some (.ints mem), none, some (.int at_), some (.int j), none, none] (decide ((j : Int) = at_)) := DT.cmp DC.eqI (DE.var rfl) (DE.var rfl)
    obtain ⟨Λ1, e1, p1⟩ := htst _ Λ E
    rw [List.range'_succ, List.map_cons]
    simp only [forGo, stands, if_true, hasg, Option.bind_eq_bind, Option.bind_some]
    by_cases hja : j = at_
    · subst hja
      rw [show decide ((j : Int) = (j : Int)) = true by simp] at e1
      obtain ⟨h, hh⟩ : ∃ h, mem[j]? = some h := ⟨_, List.getElem?_eq_getElem (by lia)⟩
      -- h and n
      obtain ⟨v2, Λ2, e2, p2, r2⟩ := (DE.idxi (a := xVar 0) (i := xVar 3) (ds := [some (.ints mem), none, some (.int j), some (.int j), none, none]) (DE.var rfl) (DE.var rfl) hh (by lia)) _ Λ1 (E.mono p1)
      obtain rfl := r2.intOf
      have E2 : EnvD [some vm, some (.ref kb), some (.int j), some (.int j), some (.int h), nv] Λ2 [some (.ints mem), none, some (.int j), some (.int j), some (.int h), none] := (((((EnvD.nil.skip).cons (.int h)).cons (.int j)).cons (.int j)).skip).cons (hM.mono (ptr h0 (ptr p1 p2)))
      obtain ⟨v3, Λ3, e3, p3, r3⟩ := (DE.ifx (t := tOf (xCmp cGe (xVar 4) (xInt 0))) (a := xBin oAdd (xVar 4) (xInt 1)) (b := xNeg (xVar 4)) (ds := [some (.ints mem), none, some (.int j), some (.int j), some (.int h), none]) (d := .int (nOf h)) (DT.cmp DC.ge (DE.var rfl) (DE.int 0))
        (fun hc => (DE.bin DO.add (DE.var rfl) (DE.int 1)).as (by simp at hc; simp [nOf, hc])) (fun hc => (DE.neg (DE.var rfl)).as (by simp at hc; simp [nOf]; lia))) _ Λ2 E2
      obtain rfl := r3.intOf
      have E3 : EnvD [some vm, some (.ref kb), some (.int j), some (.int j), some (.int h), some (.int (nOf h))] Λ3 [some (.ints mem), none, some (.int j), some (.int j), some (.int h), some (.int (nOf h))] := (((((EnvD.nil.cons (.int (nOf h))).cons (.int h)).cons (.int j)).cons (.int j)).skip).cons (hM.mono (ptr h0 (ptr p1 (ptr p2 p3))))
      have ht2 : DT (tOf (xCmp cGt (xBin oAdd (xVar 3) (xVar 5)) (xLen (xVar 0)))) [some (.ints mem), none, some (.int j), some (.int j), some (.int h), some (.int (nOf h))] (decide ((j : Int) + nOf h > mem.length)) := DT.cmp DC.gt (DE.bin DO.add (DE.var rfl) (DE.var rfl)) (DE.leni (DE.var rfl) (by lia))
      obtain ⟨Λ4, e4, p4⟩ := ht2 _ Λ3 E3
      have p14 := ptr p1 (ptr p2 (ptr p3 p4))
      cases hP with
      | done e => lia
      | bad e hbad =>
        rw [hh] at e; cases e
        rw [show decide ((j : Int) + nOf h > mem.length) = true by simpa using hbad] at e4
        have hbody : b_blocks_body nb [some vm, some (.ref kb), some (.int j), some (.int j), hv, nv] Λ = some (.ret .none, [some vm, some (.ref kb), some (.int j), some (.int j), some (.int h), some (.int (nOf h))], Λ4) := by
          unfold b_blocks_body
          have : sIf (tOf (xCmp cEq (xVar 3) (xVar 2)))
              (sSeq (sAssign 4 (xIdx (xVar 0) (xVar 3))) (sSeq (sAssign 5 (xIf (tOf (xCmp cGe (xVar 4) (xInt 0))) (xBin oAdd (xVar 4) (xInt 1)) (xNeg (xVar 4)))) (sSeq (sIf (tOf (xCmp cGt (xBin oAdd (xVar 3) (xVar 5)) (xLen (xVar 0)))) (sSeq (sRet xNone) sPass) sPass)
                (sSeq (sAppend 1 (xTup [xVar 3, xVar 5, xCmp cLt (xVar 4) (xInt 0)])) (sSeq (sAssign 2 (xBin oAdd (xVar 3) (xVar 5))) sPass))))) sPass nb [some vm, some (.ref kb), some (.int j), some (.int j), hv, nv] Λ = some (.ret .none, [some vm, some (.ref kb), some (.int j), some (.int j), some (.int h), some (.int (nOf h))], Λ4) := by
            refine (run_if e1).trans ((if_pos rfl).trans ((run_seq (run_assign e2)).trans ((run_seq (run_assign e3)).trans ?_)))
            have : sIf (tOf (xCmp cGt (xBin oAdd (xVar 3) (xVar 5)) (xLen (xVar 0)))) (sSeq (sRet xNone) sPass) sPass nb [some vm, some (.ref kb), some (.int j), some (.int j), some (.int h), some (.int (nOf h))] Λ3 = some (.ret .none, [some vm, some (.ref kb), some (.int j), some (.int j), some (.int h), some (.int (nOf h))], Λ4) := (run_if e4).trans ((if_pos rfl).trans (run_ret rfl))
            simp [sSeq, this]
          simp [sSeq, this]
        rw [hbody]
        exact ⟨.ret .none, _, Λ4, rfl, ptr h0 p14, rfl⟩
      | @step _ n x r' e hn hle hrest =>
        rw [hh] at e; cases e
        rw [show decide ((j : Int) + nOf h > mem.length) = false by rw [hn]; simp; lia] at e4
        have hn0 : 0 < n := by unfold nOf at hn; split at hn <;> lia
        have E4 := E3.mono p4
        obtain ⟨v5, Λ5, e5, p5, r5⟩ := (DE.tup (es := [xVar 3, xVar 5, xCmp cLt (xVar 4) (xInt 0)]) (ds := [some (.ints mem), none, some (.int j), some (.int j), some (.int h), some (.int (nOf h))]) (DEs.cons (DE.var rfl) (DEs.cons (DE.var rfl) (DEs.cons (DE.cmp DC.lt (DE.var rfl) (DE.int 0)) DEs.nil)))) _ Λ4 E4
        obtain ⟨kt, ys, rfl, q5, r5⟩ := r5.tupOf
        have hys : ys = [.int j, .int (nOf h), .bool (decide (h < 0))] := by
          cases r5 with | cons a b => cases b with | cons b c => cases c with | cons c d => cases d; obtain rfl := a.intOf; obtain rfl := b.intOf; obtain rfl := c.boolOf; rfl
        subst hys
        have hk4 := pre_at p14 hk
        have hk5 := pre_at p5 hk4
        have hne : kt ≠ kb := by rintro rfl; rw [hk5] at q5; cases q5
        have x6 : Ext kb Λ (Λ5.set kb (.list (xs ++ [.ref kt]))) := (Ext.pre (ptr p14 p5)).trans Ext.set
        have h06 : Λ0 <+: Λ5.set kb (.list (xs ++ [.ref kt])) := x6.keep h0 h0k
        have ht6 : TB (Λ5.set kb (.list (xs ++ [.ref kt]))) kb (xs ++ [.ref kt]) (bs ++ [(j, n, decide (h < 0))]) := by
          refine TB.append (ht.ext x6) ⟨⟨kt, rfl, hne, ?_⟩, trivial⟩
          rw [List.getElem?_set_ne (Ne.symm hne), q5, hn]
        have E6 : EnvD [some vm, some (.ref kb), some (.int j), some (.int j), some (.int h), some (.int (nOf h))] (Λ5.set kb (.list (xs ++ [.ref kt]))) [none, none, none, some (.int j), none, some (.int (nOf h))] := ((((((EnvD.nil.cons (.int (nOf h))).skip).cons (.int j)).skip).skip).skip)
        obtain ⟨v7, Λ7, e7, p7, r7⟩ := (DE.bin DO.add (DE.var (ds := [none, none, none, some (.int j), none, some (.int (nOf h))]) (i := 3) (d := .int j) rfl) (DE.var (i := 5) (d := .int (nOf h)) rfl)) _ _ E6
        obtain rfl := r7.intOf
        have hbody : b_blocks_body nb [some vm, some (.ref kb), some (.int j), some (.int j), hv, nv] Λ = some (.next, [some vm, some (.ref kb), some (.int ((j + n : Nat) : Int)), some (.int j), some (.int h), some (.int (nOf h))], Λ7) := by
          have hnn : (j : Int) + nOf h = ((j + n : Nat) : Int) := by rw [hn]; lia
          rw [hnn] at e7
          refine (run_seq ((run_if e1).trans ((if_pos rfl).trans ((run_seq (run_assign e2)).trans ((run_seq (run_assign e3)).trans ((run_seq ((run_if e4).trans ((if_neg (by simp)).trans rfl))).trans
            ((run_seq (run_append (k := kb) (xs := xs) rfl hk4 e5 p5 hnb ?_)).trans ((run_seq (run_assign e7)).trans rfl)))))))).trans rfl
          have := ht.len; lia
        rw [hbody]
        obtain ⟨fl, vs', Λ', e8, h08, h8⟩ := blocks_loop hM hl hnb h0k c (j + 1) (j + n) r' (bs ++ [(j, n, decide (h < 0))]) (xs ++ [.ref kt]) (some (.int j)) (some (.int h)) (some (.int (nOf h))) Λ7 (by lia) (by lia) hle (by simp; lia) hrest (ptr h06 p7) (pre_at p7 (set_self hk5)) (ht6.ext (Ext.pre p7))
        refine ⟨fl, vs', Λ', e8, h08, ?_⟩
        cases r' with
        | none => exact h8
        | some rest => simpa using h8
    · rw [show decide ((j : Int) = (at_ : Int)) = false by simp; lia] at e1
      have hbody : b_blocks_body nb [some vm, some (.ref kb), some (.int at_), some (.int j), hv, nv] Λ = some (.next, [some vm, some (.ref kb), some (.int at_), some (.int j), hv, nv], Λ1) :=
        (run_seq ((run_if e1).trans ((if_neg (by simp)).trans rfl))).trans rfl
      rw [hbody]
      exact blocks_loop hM hl hnb h0k c (j + 1) at_ r bs xs (some (.int j)) hv nv Λ1 (by lia) (by lia) ha (by lia) hP (ptr h0 p1) (pre_at p1 hk) (ht.ext (Ext.pre p1))

theorem k_blocks {mem : List Int} {r : Option (List Blk)} (hl : mem.length ≤ 1000) (h : PB mem 0 r) : DF f_blocks_of [.ints mem] (match r with | none => .none | some bs => .list (bs.map blkD)) := by
  intro args Λ0 hd
  have hb : big = 100000 := rfl
  cases hd with
  | @cons vm _ _ _ hM hd =>
    cases hd
    have E0 : EnvD [some vm, none, none, none, none, none] Λ0 [some (.ints mem), none, none, none, none, none] := (EnvD.nones 5).cons hM
    obtain ⟨kb, Λ1, e1, hk1, p1, q1⟩ := DEf.nil _ Λ0 E0
    obtain ⟨v2, Λ2, e2, p2, r2⟩ := (DE.leni (a := xVar 0) (ds := [some (.ints mem), none, none, none, none, none]) (DE.var rfl) (by lia)) [some vm, some (.ref kb), some (.int 0), none, none, none] Λ1 (((EnvD.nones 3).skip.skip).cons (hM.mono p1))
    obtain rfl := r2.intOf
    obtain ⟨fl, vs', Λ', e3, h03, h3⟩ := blocks_loop (vm := vm) (nb := Λ0.length) hM hl hk1 hk1 mem.length 0 0 r [] [] none none none Λ2 (by lia) (Nat.le_refl _) (by lia) (by simp) h (ptr p1 p2) (pre_at p2 q1) trivial
    have hst : (stands none ((List.range mem.length).map fun (i : Nat) => V.int (i : Int))) = stands none [] := by funext Λ; rfl
    have hsrc : sRange (xLen (xVar 0)) [some vm, some (.ref kb), some (.int 0), none, none, none] Λ1 = some ((List.range mem.length).map fun (i : Nat) => V.int (i : Int), none, Λ2) := by
      simp [sRange, e2, asInt]; lia
    rw [← List.range_eq_range'] at e3
    cases r with
    | none =>
      simp only at h3
      subst h3
      refine ⟨.none, Λ', def_run (vs' := vs') rfl ?_, h03, .none⟩
      refine (run_seq (run_assign e1)).trans ((run_seq (run_assign (i := 2) (e := xInt 0) (v := .int 0) rfl)).trans ?_)
      have : sFor (sRange (xLen (xVar 0))) (aName 3) b_blocks_body Λ0.length [some vm, some (.ref kb), some (.int 0), none, none, none] Λ1 = some (.ret .none, vs', Λ') := by
        simp only [sFor, hsrc, Option.bind_eq_bind, Option.bind_some, hst]; exact e3
      show sSeq (sFor _ _ _) _ _ [some vm, some (.ref kb), some (.int 0), none, none, none] Λ1 = _
      simp [sSeq, this]
    | some bs =>
      obtain ⟨rfl, a, j, h, n, xs', rfl, q3, t3⟩ := h3
      refine ⟨.ref kb, Λ', def_run (vs' := [some vm, some (.ref kb), a, j, h, n]) rfl ?_, h03, .list q3 t3.dens⟩
      refine (run_seq (run_assign e1)).trans ((run_seq (run_assign (i := 2) (e := xInt 0) (v := .int 0) rfl)).trans ?_)
      exact (run_seq (run_for hsrc (by rw [hst]; exact e3))).trans (run_ret rfl)
end Mine

/-! ## part B8 -/
set_option linter.unusedVariables false
namespace Mine

theorem DE.zeros {ds : DV} {e z : Ex} {x : Int} {n : Nat} {m : Int} (hz : DE z ds (.int x)) (h : DE e ds (.int m)) (hm : m.toNat = n) (hb : -1000 ≤ m ∧ m ≤ 1000) : DE (xBin oMul (xList [z]) e) ds (.ints (List.replicate n x)) := by
  refine (DE.bin (DO.rep hb) (DE.list (DEs.cons hz DEs.nil)) h).as ?_
  rw [hm]; simp [D.ints]
theorem swept_step {mem marked new : List Int} {run : Int} {blk : Blk} {vm vk vb : V} {av nv : Option V} {Λs Λ : Led} {nb kn : Nat} (hM : Den Λs vm (.ints mem)) (hK : Den Λs vk (.ints marked)) (hB : Den Λs vb (blkD blk)) (h0 : Λs <+: Λ)
    (hn : Λ[kn]? = some (.list (new.map .int))) (hnb : nb ≤ kn) (hnb' : nb ≤ Λs.length) (hrun : run = -1 ∨ (∃ r : Nat, run = r ∧ r < new.length ∧ Λs.length ≤ kn)) (hl : mem.length ≤ 1000) (hblk : 0 < blk.2.1 ∧ blk.1 + blk.2.1 ≤ mem.length) (hnl : new.length ≤ 1000) :
    ∃ (kn' : Nat) (Λ' : Led), b_swept_body nb [some vm, some vk, some (.ref kn), some (.int run), some vb, av, nv] Λ = some (.next, [some vm, some vk, some (.ref kn'), some (.int (swp mem marked (new, run) blk).2), some vb, some (.int blk.1), some (.int blk.2.1)], Λ') ∧ Λs <+: Λ' ∧
      Λ'[kn']? = some (.list ((swp mem marked (new, run) blk).1.map .int)) ∧ nb ≤ kn' ∧ ((swp mem marked (new, run) blk).2 = -1 ∨ (∃ r : Nat, (swp mem marked (new, run) blk).2 = r ∧ r < (swp mem marked (new, run) blk).1.length ∧ Λs.length ≤ kn')) ∧ (swp mem marked (new, run) blk).1.length ≤ new.length + blk.2.1 := by
  have hb : big = 100000 := rfl
  obtain ⟨a, n, fr⟩ := blk
  simp only at hblk ⊢
  have E : EnvD [some vm, some vk, some (.ref kn), some (.int run), some vb, av, nv] Λ [some (.ints mem), some (.ints marked), some (.ints new), some (.int run), some (blkD (a, n, fr)), none, none] :=
    ((((((EnvD.nones 0).skip.skip).cons (hB.mono h0)).cons (.int run)).cons (.ofInts hn)).cons (hK.mono h0)).cons (hM.mono h0)
  obtain ⟨v1, Λ1, e1, p1, r1⟩ := (DE.idxT (a := xVar 4) (i := xInt 0) (ds := [some (.ints mem), some (.ints marked), some (.ints new), some (.int run), some (blkD (a, n, fr)), none, none]) (d := .int a) (DE.var rfl) (DE.int 0) (by decide) rfl) _ Λ E
  obtain rfl := r1.intOf
  have E1 := (E.mono p1).set (i := 5) (Den.int (Λ := Λ1) (a : Int))
  obtain ⟨v2, Λ2, e2, p2, r2⟩ := (DE.idxT (a := xVar 4) (i := xInt 1) (d := .int n) (DE.var rfl) (DE.int 1) (by decide) rfl) _ Λ1 E1
  obtain rfl := r2.intOf
  have E2 := (E1.mono p2).set (i := 6) (Den.int (Λ := Λ2) (n : Int))
  have p12 := ptr p1 p2
  have ht : DT (tAnd (tNot (tOf (xIdx (xVar 4) (xInt 2)))) (tAnd (tOf (xCmp cIn (xVar 5) (xVar 1))) tTrue)) [some (.ints mem), some (.ints marked), some (.ints new), some (.int run), some (blkD (a, n, fr)), some (.int a), some (.int n)] _ :=
    DT.and (DT.not (DT.of (DE.idxT (d := .bool fr) (DE.var rfl) (DE.int 2) (by decide) rfl))) fun _ => DT.and (DT.cmp (DC.inL (i := (a : Int)) (l := marked)) (DE.var rfl) (DE.var rfl)) fun _ => DT.true
  obtain ⟨Λ3, e3, p3⟩ := ht _ Λ2 E2
  have E3 := E2.mono p3
  have hn3 := pre_at (ptr p12 p3) hn
  have h03 := ptr h0 (ptr p12 p3)
  rw [Bool.and_true] at e3
  by_cases hc : (!fr && decide ((a : Int) ∈ marked)) = true
  · rw [hc] at e3
    have hs : swp mem marked (new, run) (a, n, fr) = (new ++ (mem.take (a + n)).drop a, -1) := by unfold swp; rw [if_pos hc]
    rw [hs]
    have hd : DEf (xBin oAdd (xVar 2) (xSlice (xVar 0) (some (xVar 5)) (some (xBin oAdd (xVar 5) (xVar 6))))) [some (.ints mem), some (.ints marked), some (.ints new), some (.int run), some (blkD (a, n, fr)), some (.int a), some (.int n)] (new ++ (mem.take (a + n)).drop a) := by
      refine DEf.cat (DE.var rfl) ((DE.slicei (DE.var rfl) (DP.some (DE.var rfl) (by lia)) (DP.some (DE.bin DO.add (DE.var rfl) (DE.var rfl)) (by lia)) (by lia)).as ?_) (by simp; lia)
      simp only [cutI, Option.getD_some, Int.toNat_natCast]
      rw [show ((a : Int) + n).toNat = a + n by lia]
    obtain ⟨kn', Λ4, e4, hk4, p4, q4⟩ := hd _ Λ3 E3
    refine ⟨kn', Λ4, ?_, ptr h03 p4, q4, by have := lt_of_at hn3; lia, .inl rfl, by simp; lia⟩
    exact (run_seq (run_assign e1)).trans ((run_seq (run_assign e2)).trans ((run_seq ((run_if e3).trans ((if_pos rfl).trans ((run_seq (run_assign e4)).trans ((run_seq (run_assign (i := 3) (e := xNeg (xInt 1)) (v := .int (-1)) rfl)).trans rfl))))).trans rfl))
  · rw [Bool.not_eq_true] at hc
    rw [hc] at e3
    have ht2 : DT (tOf (xCmp cGe (xVar 3) (xInt 0))) [some (.ints mem), some (.ints marked), some (.ints new), some (.int run), some (blkD (a, n, fr)), some (.int a), some (.int n)] (decide (run ≥ 0)) := DT.cmp DC.ge (DE.var rfl) (DE.int 0)
    obtain ⟨Λ4, e4, p4⟩ := ht2 _ Λ3 E3
    have hn4 := pre_at p4 hn3
    have h04 := ptr h03 p4
    rcases hrun with rfl | ⟨r, rfl, hr, hkr⟩
    · have hs : swp mem marked (new, -1) (a, n, fr) = (new ++ [-(n : Int)] ++ List.replicate (n - 1) 0, (new.length : Int)) := by
        unfold swp; rw [if_neg (by rw [hc]; simp), if_neg (by simp)]
      rw [hs]
      rw [show decide ((-1 : Int) ≥ 0) = false by simp] at e4
      obtain ⟨v5, Λ5, e5, p5, r5⟩ := (DE.leni (a := xVar 2) (l := new) (DE.var rfl) (by lia)) _ Λ4 (E3.mono p4)
      obtain rfl := r5.intOf
      have E5 := ((E3.mono p4).mono p5).set (i := 3) (Den.int (Λ := Λ5) (new.length : Int))
      have hd : DEf (xBin oAdd (xBin oAdd (xVar 2) (xList [xNeg (xVar 6)])) (xBin oMul (xList [xInt 0]) (xBin oSub (xVar 6) (xInt 1)))) [some (.ints mem), some (.ints marked), some (.ints new), some (.int new.length), some (blkD (a, n, fr)), some (.int a), some (.int n)] (new ++ [-(n : Int)] ++ List.replicate (n - 1) 0) :=
        DEf.cat (DE.bin (DO.cati (by simp; lia)) (DE.var rfl) (DE.list (DEs.cons (DE.neg (DE.var rfl)) DEs.nil))) (DE.zeros (DE.int 0) (DE.bin DO.sub (DE.var rfl) (DE.int 1)) (by lia) (by lia)) (by simp; lia)
      obtain ⟨kn', Λ6, e6, hk6, p6, q6⟩ := hd _ Λ5 E5
      refine ⟨kn', Λ6, ?_, ptr h04 (ptr p5 p6), q6, by have := lt_of_at (pre_at p5 hn4); lia, .inr ⟨new.length, rfl, by simp <;> lia, Nat.le_trans (ptr h04 p5).length_le hk6⟩, by simp; lia⟩
      exact (run_seq (run_assign e1)).trans ((run_seq (run_assign e2)).trans ((run_seq ((run_if e3).trans ((if_neg (by simp)).trans ((run_seq ((run_if e4).trans ((if_neg (by simp)).trans ((run_seq (run_assign e5)).trans ((run_seq (run_assign e6)).trans rfl))))).trans rfl)))).trans rfl))
    · have hx : new[r]? = some new[r] := List.getElem?_eq_getElem hr
      generalize hx' : new[r] = x at hx
      have hs : swp mem marked (new, (r : Int)) (a, n, fr) = (new.set r (x - n) ++ List.replicate n 0, (r : Int)) := by
        unfold swp; rw [if_neg (by rw [hc]; simp), if_pos (by simp)]
        simp only [Int.toNat_natCast, hx, Option.getD_some]
      rw [hs]
      rw [show decide ((r : Int) ≥ 0) = true by simp] at e4
      obtain ⟨v5, Λ5, e5, p5, r5⟩ := (DE.bin DO.sub (DE.idxi (a := xVar 2) (i := xVar 3) (l := new) (n := r) (DE.var rfl) (DE.var rfl) hx (by lia)) (DE.var (i := 6) (d := .int n) rfl)) _ Λ4 (E3.mono p4)
      obtain rfl := r5.intOf
      have hn5 := pre_at p5 hn4
      have hset := run_set (nb := nb) (i := 2) (k := kn) (n := r) (ix := xVar 3) (xs := new.map .int) e5 rfl (Λ2 := Λ5) rfl hn5 (by simpa using hr) (by lia) hnb
      have h06 : Λs <+: Λ5.set kn (.list ((new.map V.int).set r (.int (x - n)))) := ((Ext.pre p5).trans Ext.set).keep h04 hkr
      have hn6 : (Λ5.set kn (.list ((new.map V.int).set r (.int (x - n)))))[kn]? = some (.list ((new.set r (x - n)).map .int)) := by rw [set_self hn5]; simp
      have E6 : EnvD [some vm, some vk, some (.ref kn), some (.int r), some vb, some (.int a), some (.int n)] (Λ5.set kn (.list ((new.map V.int).set r (.int (x - n))))) [some (.ints mem), some (.ints marked), some (.ints (new.set r (x - n))), some (.int r), some (blkD (a, n, fr)), some (.int a), some (.int n)] :=
        ((((((EnvD.nil.cons (.int n)).cons (.int a)).cons (hB.mono h06)).cons (.int r)).cons (.ofInts hn6)).cons (hK.mono h06)).cons (hM.mono h06)
      have hd : DEf (xBin oAdd (xVar 2) (xBin oMul (xList [xInt 0]) (xVar 6))) [some (.ints mem), some (.ints marked), some (.ints (new.set r (x - n))), some (.int r), some (blkD (a, n, fr)), some (.int a), some (.int n)] (new.set r (x - n) ++ List.replicate n 0) :=
        DEf.cat (DE.var rfl) (DE.zeros (DE.int 0) (DE.var rfl) (by lia) (by lia)) (by simp; lia)
      obtain ⟨kn', Λ7, e7, hk7, p7, q7⟩ := hd _ _ E6
      refine ⟨kn', Λ7, ?_, ptr h06 p7, q7, by have := lt_of_at hn6; lia, .inr ⟨r, rfl, by simp; lia, by have := lt_of_at hn6; lia⟩, by simp⟩
      exact (run_seq (run_assign e1)).trans ((run_seq (run_assign e2)).trans ((run_seq ((run_if e3).trans ((if_neg (by simp)).trans ((run_seq ((run_if e4).trans ((if_pos rfl).trans ((run_seq hset).trans ((run_seq (run_assign e7)).trans rfl))))).trans rfl)))).trans rfl))

noncomputable def sumN : List Blk → Nat
  | [] => 0
  | b :: bs => b.2.1 + sumN bs
theorem swept_loop {mem marked : List Int} {vm vk : V} {Λs : Led} {nb : Nat} {ok : Led → Bool} (hok : ∀ Λ, Λs <+: Λ → ok Λ = true) (hM : Den Λs vm (.ints mem)) (hK : Den Λs vk (.ints marked)) (hnb' : nb ≤ Λs.length) (hl : mem.length ≤ 1000) :
    ∀ (bs : List Blk) (xs : List V) (new : List Int) (run : Int) (bv av nv : Option V) (kn : Nat) (Λ : Led), Dens Λs xs (bs.map blkD) → Λs <+: Λ → Λ[kn]? = some (.list (new.map .int)) → nb ≤ kn → (run = -1 ∨ (∃ r : Nat, run = r ∧ r < new.length ∧ Λs.length ≤ kn)) →
      (∀ b ∈ bs, 0 < b.2.1 ∧ b.1 + b.2.1 ≤ mem.length) → new.length + sumN bs ≤ 1000 →
      ∃ (kn' : Nat) (rv bv' av' nv' : Option V) (Λ' : Led), forGo ok (aName 4) b_swept_body nb xs [some vm, some vk, some (.ref kn), some (.int run), bv, av, nv] Λ = some (.next, [some vm, some vk, some (.ref kn'), rv, bv', av', nv'], Λ') ∧ Λs <+: Λ' ∧ Λ'[kn']? = some (.list ((bs.foldl (swp mem marked) (new, run)).1.map .int)) ∧ nb ≤ kn'
  | [], xs, new, run, bv, av, nv, kn, Λ, hx, h0, hn, hnb, hr, hb, hs => by
    cases hx
    exact ⟨kn, some (.int run), bv, av, nv, Λ, by simp [forGo, hok Λ h0], h0, hn, hnb⟩
  | b :: bs, xs, new, run, bv, av, nv, kn, Λ, hx, h0, hn, hnb, hr, hb, hs => by
    cases hx with
    | @cons vb _ xs' _ hB hx =>
      simp only [sumN] at hs
      obtain ⟨kn1, Λ1, e1, h01, hn1, hnb1, hr1, hl1⟩ := swept_step (av := av) (nv := nv) hM hK hB h0 hn hnb hnb' hr hl (hb b (.head _)) (by lia)
      obtain ⟨kn', rv, bv', av', nv', Λ', e2, h02, hn2, hnb2⟩ := swept_loop hok hM hK hnb' hl bs xs' _ _ (some vb) (some (.int b.1)) (some (.int b.2.1)) kn1 Λ1 hx h01 hn1 hnb1 hr1 (fun c hc => hb c (.tail _ hc)) (by lia)
      refine ⟨kn', rv, bv', av', nv', Λ', ?_, h02, hn2, hnb2⟩
      have ha : aName 4 vb [some vm, some vk, some (.ref kn), some (.int run), bv, av, nv] Λ = some [some vm, some vk, some (.ref kn), some (.int run), some vb, av, nv] := rfl
      simp only [forGo, hok Λ h0, if_true, ha, e1, e2, Option.bind_eq_bind, Option.bind_some]
theorem prs_sum {mem : List Int} : ∀ {at_ : Nat} {bs : List Blk}, Prs mem at_ bs → at_ + sumN bs = mem.length ∧ ∀ b ∈ bs, 0 < b.2.1 ∧ b.1 + b.2.1 ≤ mem.length
  | _, [], h => ⟨h, fun _ hb => nomatch hb⟩
  | at_, (a, n, b) :: bs, h => by
    obtain ⟨rfl, h1, h2, _, h5⟩ := h
    obtain ⟨h6, h7⟩ := prs_sum h5
    refine ⟨by simp only [sumN]; lia, fun c hc => ?_⟩
    rcases List.mem_cons.mp hc with rfl | hc
    · exact ⟨h1, h2⟩
    · exact h7 c hc
theorem k_swept {T : Tab} {size : Nat} {marked : List Int} (hf : Fit 0 T size) (hs : size ≤ 1000) : DFf f_swept [.ints (rend 0 T size), .ints marked] (rend 0 (T.filter fun e => decide ((adr e.1 : Int) ∈ marked)) size) := by
  intro args Λ0 hd
  have hb : big = 100000 := rfl
  have hlen := rend_len hf
  cases hd with
  | @cons vm _ _ _ hM hd => cases hd with
    | @cons vk _ _ _ hK hd =>
      cases hd
      have E0 : EnvD [some vm, some vk, none, none, none, none, none] Λ0 [some (.ints (rend 0 T size)), some (.ints marked), none, none, none, none, none] := ((EnvD.nones 5).cons hK).cons hM
      obtain ⟨kn, Λ1, e1, hk1, p1, q1⟩ := DEf.nil _ Λ0 E0
      have hprs : Prs (rend 0 T size) 0 (blks 0 T size) := by
        have := prs_rend (size := size) (tail := []) (mem := rend 0 T size) (at_ := 0) (T := T) (pre := []) (bs := []) hf rfl (by simp) (show _ = _ by lia)
        simpa using this
      obtain ⟨hsum, hbl⟩ := prs_sum hprs
      have hcall : DE (xCall f_blocks_of [xVar 0]) [some (.ints (rend 0 T size)), some (.ints marked), none, none, none, none, none] (.list ((blks 0 T size).map blkD)) := DE.call (k_blocks (r := some (blks 0 T size)) (by lia) (prs_pb hprs)) (DEs.cons (DE.var rfl) DEs.nil)
      have E1 : EnvD [some vm, some vk, some (.ref kn), some (.int (-1)), none, none, none] Λ1 [some (.ints (rend 0 T size)), some (.ints marked), none, none, none, none, none] := ((((EnvD.nones 3).skip).skip).cons (hK.mono p1)).cons (hM.mono p1)
      obtain ⟨v2, Λ2, e2, p2, r2⟩ := hcall _ Λ1 E1
      obtain ⟨ks, xs, rfl, q2, r2⟩ := r2.listOf
      have hcnt : (blks 0 T size).length ≤ sumN (blks 0 T size) := by
        have : ∀ l : List Blk, (∀ b ∈ l, 0 < b.2.1) → l.length ≤ sumN l := by
          intro l; induction l with
          | nil => intro _; simp [sumN]
          | cons b l ih => intro h; have := ih (fun c hc => h c (.tail _ hc)); have := h b (.head _); simp only [List.length_cons, sumN]; lia
        exact this _ (fun b hb => (hbl b hb).1)
      obtain ⟨kn', rv, bv', av', nv', Λ', e3, h03, hn3, hnb3⟩ := swept_loop (marked := marked) (nb := Λ0.length) (ok := stands (some ks) xs) (Λs := Λ2) (fun Λ h => by simp [stands, pre_at h q2]) (hM.mono (ptr p1 p2)) (hK.mono (ptr p1 p2)) (ptr p1 p2).length_le (by lia) (blks 0 T size) xs [] (-1) none none none kn Λ2 r2 (List.prefix_refl _) (pre_at p2 q1) hk1 (.inl rfl) hbl (by simp; lia)
      have hsw := sweep_rend (marked := marked) (mem := rend 0 T size) (at_ := 0) (T := T) (pre0 := []) (pre := []) (r := 0) hf rfl (by simp) rfl
      simp only [gapI, List.append_nil, runOf, if_true, List.length_nil, List.nil_append] at hsw
      rw [hsw] at hn3
      refine ⟨kn', Λ', def_run (vs' := [some vm, some vk, some (.ref kn'), rv, bv', av', nv']) rfl ?_, hnb3, ptr (ptr p1 p2) h03, hn3⟩
      refine (run_seq (run_assign e1)).trans ((run_seq (run_assign (i := 3) (e := xNeg (xInt 1)) (v := .int (-1)) rfl)).trans ((run_seq (run_for (items := xs) (k? := some ks) (Λ1 := Λ2) ?_ e3)).trans (run_ret rfl)))
      have hxl := r2.length
      have e2' : xCall f_blocks_of [xVar 0] (([some vm, some vk, some (.ref kn), none, none, none, none] : Vars).set 3 (some (.int (-1)))) Λ1 = some (.ref ks, Λ2) := e2
      show sList _ ([some vm, some vk, some (.ref kn), some (.int (-1)), none, none, none]) Λ1 = _
      simp only [sList, e2, Option.bind_eq_bind, Option.bind_some, asList, q2]
      rw [if_pos (by simp at hxl; lia)]
theorem k_sweeping {T : Tab} {size : Nat} {ws r : List Int} (hf : Fit 0 T size) (hs : size ≤ 1000) (hG : GoodT T) (hr : ∀ e ∈ T, e.2.length ≤ 100) (hws : ∀ w ∈ ws, GoodW' T w) (hwl : ws.length ≤ 100) (hord : Ord T ws [] r) (hrl : r.length ≤ 900) :
    DF f_sweeping [.ints (rend 0 T size), .ints ws] (.ints (rend 0 (T.filter fun e => decide ((adr e.1 : Int) ∈ r.map (· / 2))) size)) :=
  DFn rfl (DS.seqR (DS.ret (DE.call (k_swept hf hs).df (DEs.cons (DE.var rfl) (DEs.cons (DE.call (k_reachable hf hs hG hr hws hwl hord hrl).df (DEs.cons (DE.var rfl) (DEs.cons (DE.var rfl) DEs.nil))) DEs.nil)))))
end Mine

/-! ## part B9 -/
set_option linter.unusedVariables false
namespace Mine

/-- what forwarding hands back: two new lists, a place, a word -/
noncomputable def FwR (Λ : Led) (args : List V) (new fwd : List Int) (top w : Int) : Prop := ∃ (kt k1 k2 : Nat) (Λ' : Led), f_forwarded args Λ = some (.ref kt, Λ') ∧ Λ <+: Λ' ∧ Λ'[kt]? = some (.tup [.ref k1, .ref k2, .int top, .int w]) ∧
  Λ'[k1]? = some (.list (new.map .int)) ∧ Λ'[k2]? = some (.list (fwd.map .int)) ∧ Λ.length ≤ k1 ∧ Λ.length ≤ k2 ∧ k1 ≠ k2

theorem tup_run {vs : Vars} {Λ : Led} {es : List Ex} {xs : List V} (h : xs_ es vs Λ = some (xs, Λ)) (hl : xs.length ≤ big) : xTup es vs Λ = some (.ref Λ.length, Λ ++ [.tup xs]) := by simp [xTup, h, hl, alloc]

theorem copy_step {nb k1 j top a : Nat} {vm v2 vw : V} {mem X seg : List Int} {z : Nat} {jv : Option V} {Λb Λ : Led} (hM : Den Λb vm (.ints mem)) (h0 : Λb <+: Λ) (hseg : seg = (mem.drop a).take seg.length) (hX : X.length = top) (hz : seg.length ≤ z) (hj : j < seg.length) (hml : mem.length ≤ 1000) (htz : top + z ≤ 1000)
    (h1 : Λ[k1]? = some (.list ((X ++ seg.take j ++ List.replicate (z - j) 0).map .int))) (hnb : nb ≤ k1) (hb1 : Λb.length ≤ k1) :
    ∃ Λ', b_fwd_copy nb [some vm, some (.ref k1), some v2, some (.int top), some vw, some (.int a), some (.int j)] Λ = some (.next, [some vm, some (.ref k1), some v2, some (.int top), some vw, some (.int a), some (.int j)], Λ') ∧ Λb <+: Λ' ∧ Ext k1 Λ Λ' ∧ Λ'[k1]? = some (.list ((X ++ seg.take (j + 1) ++ List.replicate (z - (j + 1)) 0).map .int)) := by
  have hb : big = 100000 := rfl
  have hx : mem[a + j]? = some seg[j] := by
    have e1 : seg[j]? = some seg[j] := List.getElem?_eq_getElem hj
    rw [← e1]
    conv => rhs; rw [hseg]
    rw [List.getElem?_take_of_lt hj, List.getElem?_drop]
  generalize hsj : seg[j] = x at hx
  have E : EnvD [some vm, some (.ref k1), some v2, some (.int top), some vw, some (.int a), some (.int j)] Λ [some (.ints mem), none, none, some (.int top), none, some (.int a), some (.int j)] := ((((((EnvD.nil.cons (.int j)).cons (.int a)).skip).cons (.int top)).skip).skip).cons (hM.mono h0)
  have haj : a + j < mem.length := (List.getElem?_eq_some_iff.mp hx).1
  obtain ⟨v3, Λ3, e3, p3, r3⟩ := (DE.idxi (a := xVar 0) (i := xBin oAdd (xVar 5) (xVar 6)) (ds := [some (.ints mem), none, none, some (.int top), none, some (.int a), some (.int j)]) (n := a + j) (DE.var rfl) ((DE.bin DO.add (DE.var rfl) (DE.var rfl)).as (by congr 1)) hx (by lia)) _ Λ E
  obtain rfl := r3.intOf
  obtain ⟨v4, Λ4, e4, p4, r4⟩ := ((DE.bin DO.add (DE.var (ds := [some (.ints mem), none, none, some (.int top), none, some (.int a), some (.int j)]) (i := 3) (d := .int top) rfl) (DE.var (i := 6) (d := .int j) rfl)).as (d' := .int ((top + j : Nat) : Int)) (by congr 1)) _ Λ3 (E.mono p3)
  obtain rfl := r4.intOf
  have h14 := pre_at (ptr p3 p4) h1
  have hlen : (X ++ seg.take j ++ List.replicate (z - j) 0).length = top + z := by simp; lia
  refine ⟨_, (run_seq (run_set (k := k1) (n := top + j) e3 rfl e4 h14 (by rw [List.length_map, hlen]; lia) (by lia) hnb)).trans rfl, ((Ext.pre (ptr p3 p4)).trans Ext.set).keep h0 hb1, (Ext.pre (ptr p3 p4)).trans Ext.set, ?_⟩
  rw [set_self h14, ← List.map_set]
  congr 3
  rw [List.append_assoc, List.set_append_right _ _ (by lia), List.set_append_right _ _ (by simp; lia)]
  have e5 : (List.take j seg).length = j := by simp; lia
  have e6 : top + j - X.length - (List.take j seg).length = 0 := by rw [e5]; lia
  rw [e6]
  have e7 : List.replicate (z - j) (0 : Int) = 0 :: List.replicate (z - (j + 1)) 0 := by rw [show z - j = (z - (j + 1)) + 1 by lia]; rfl
  rw [e7, List.set_cons_zero]
  have e8 : seg.take (j + 1) = seg.take j ++ [x] := by rw [List.take_succ, List.getElem?_eq_getElem hj, hsj]; rfl
  rw [e8]; simp

/-- the frame of forwarded -/
noncomputable abbrev fV (vm : V) (k1 k2 : Nat) (t w : Int) (av jv : Option V) : Vars := [some vm, some (.ref k1), some (.ref k2), some (.int t), some (.int w), av, jv]
noncomputable def b_fwd_ret : Stm := sSeq (sRet (xTup [xVar 1, xVar 2, xVar 3, xCall f_pointer_to [xIdx (xVar 2) (xVar 5)]])) sPass
noncomputable def b_fwd_new : Stm := sSeq (sFor (sRange (xBin oAdd (xIdx (xVar 0) (xVar 5)) (xInt 1))) (aName 6) b_fwd_copy)
    (sSeq (sSetIdx 2 (xVar 5) (xVar 3))
    (sSeq (sAssign 3 (xBin oAdd (xBin oAdd (xVar 3) (xIdx (xVar 0) (xVar 5))) (xInt 1))) sPass))
set_option genSizeOf false in
set_option genInjectivity false in
inductive FwE (Λ : Led) (x : Option (Fl × Vars × Led)) (k1 k2 : Nat) (nw fw : List Int) (t y : Int) : Prop
  | mk (kt : Nat) (vs' : Vars) (Λ' : Led) (e : x = some (.ret (.ref kt), vs', Λ')) (p : Λ <+: Λ') (q : Λ'[kt]? = some (.tup [.ref k1, .ref k2, .int t, .int y])) (q1 : Λ'[k1]? = some (.list (nw.map .int))) (q2 : Λ'[k2]? = some (.list (fw.map .int)))
theorem fwd_fin {Λ Λ4 Λ5 : Led} {vm : V} {k1 k2 : Nat} {nw fw : List Int} {t w x : Int} {jv : Option V} (h4 : Λ <+: Λ4) (a1 : Λ4[k1]? = some (.list (nw.map .int))) (a2 : Λ4[k2]? = some (.list (fw.map .int))) (hx : xCall f_pointer_to [xIdx (xVar 2) (xVar 5)] (fV vm k1 k2 t w (some (.int (w / 2))) jv) Λ4 = some (.int x, Λ5)) (hp : Λ4 <+: Λ5) :
    FwE Λ (b_fwd_ret Λ.length (fV vm k1 k2 t w (some (.int (w / 2))) jv) Λ4) k1 k2 nw fw t x := by
  have ht : xs_ [xVar 1, xVar 2, xVar 3, xCall f_pointer_to [xIdx (xVar 2) (xVar 5)]] (fV vm k1 k2 t w (some (.int (w / 2))) jv) Λ4 = some ([.ref k1, .ref k2, .int t, .int x], Λ5) :=
    bI (a := (.ref k1, Λ4)) rfl (bI (bI (a := (.ref k2, Λ4)) rfl (bI (bI (a := (.int t, Λ4)) rfl (bI (bI hx rfl) rfl)) rfl)) rfl)
  exact ⟨Λ5.length, _, _, run_ret (bI ht (if_pos (Nat.le_of_ble_eq_true rfl))), ptr h4 (ptr hp (pap _ _)), last_at, pre_at (ptr hp (pap _ _)) a1, pre_at (ptr hp (pap _ _)) a2⟩
theorem src_run {e : Ex} {vs : Vars} {Λ Λ' : Led} {n : Nat} (h : e vs Λ = some (.int ((n : Int) + 1), Λ')) (hn : n ≤ 1000) : sRange e vs Λ = some ((List.range (n + 1)).map fun (i : Nat) => V.int (i : Int), none, Λ') := by
  have h1 : -1000 ≤ (n : Int) + 1 ∧ (n : Int) + 1 ≤ (big : Nat) := by unfold big; lia
  refine bI h (bI (a := (n : Int) + 1) rfl ((if_pos h1).trans ?_))
  rw [show ((n : Int) + 1).toNat = n + 1 by lia]
theorem fwd_new {mem fwd : List Int} {top : Nat} {w : Int} {vm : V} {k1 k2 : Nat} {Λ Λ5 : Led} (hM : Den Λ vm (.ints mem)) (hml : mem.length ≤ 1000) (hnl : top ≤ 1000) (hfl : fwd.length ≤ 1000) (hwc : ((adr w : Nat) : Int) = w / 2)
    (hk1 : Λ.length ≤ k1) (hk2' : Λ.length ≤ k2) (hne : k1 ≠ k2) (p05 : Λ <+: Λ5) (hal : adr w < fwd.length) {X seg : List Int} {n z : Nat} (hmn : mem[adr w]? = some (n : Int)) (hsl : seg.length = n + 1) (hseg : seg = (mem.drop (adr w)).take (n + 1)) (hX : X.length = top) (hz : n + 1 ≤ z) (hz2 : top + z ≤ 1000)
    (q15 : Λ5[k1]? = some (.list ((X ++ List.replicate z 0).map .int))) (q25 : Λ5[k2]? = some (.list (fwd.map .int))) :
    ∃ jv Λ9, b_fwd_new Λ.length (fV vm k1 k2 top w (some (.int (w / 2))) none) Λ5 = some (.next, fV vm k1 k2 ((top + n + 1 : Nat) : Int) w (some (.int (w / 2))) jv, Λ9) ∧
      FwE Λ (b_fwd_ret Λ.length (fV vm k1 k2 ((top + n + 1 : Nat) : Int) w (some (.int (w / 2))) jv) Λ9) k1 k2 (X ++ seg ++ List.replicate (z - (n + 1)) 0) (fwd.set (adr w) top) ((top + n + 1 : Nat) : Int) (2 * (top : Int) + 1) := by
  have hb : big = 100000 := rfl
  have hml' : adr w < mem.length := (List.getElem?_eq_some_iff.mp hmn).1
  have ham : adr w < 100000 := by clear hseg; lia
  have eV : ∀ {Λ' : Led} {jv : Option V}, Λ <+: Λ' → EnvD (fV vm k1 k2 top w (some (.int (w / 2))) jv) Λ' [some (.ints mem), none, none, some (.int top), none, some (.int (w / 2)), none] := fun h => ((((((EnvD.nones 0).skip).cons (.int (w / 2))).skip).cons (.int top)).skip.skip).cons (hM.mono h)
  have hmx : DE (xIdx (xVar 0) (xVar 5)) [some (.ints mem), none, none, some (.int top), none, some (.int (w / 2)), none] (.int n) := DE.idxi (a := xVar 0) (i := xVar 5) (l := mem) (n := adr w) (DE.var rfl) ((DE.var (d := .int (w / 2)) rfl).as (by rw [hwc])) hmn ham
  obtain ⟨v6, Λ6, e6, p6, r6⟩ := (DE.bin DO.add hmx (DE.int 1)) _ Λ5 (eV p05)
  obtain rfl := r6.intOf
  have hsrc : sRange (xBin oAdd (xIdx (xVar 0) (xVar 5)) (xInt 1)) (fV vm k1 k2 top w (some (.int (w / 2))) none) Λ5 = some ((List.range (n + 1)).map fun (i : Nat) => V.int (i : Int), none, Λ6) :=
    src_run e6 (by clear hseg; lia)
  have hsegl : seg = (mem.drop (adr w)).take seg.length := by rw [hsl]; exact hseg
  have loop := for_run (ok := stands none ((List.range (n + 1)).map fun (i : Nat) => V.int (i : Int))) (asg := aName 6) (nb := Λ.length) (a := b_fwd_copy) (items := (List.range (n + 1)).map fun (i : Nat) => V.int (i : Int)) (vs := fV vm k1 k2 top w (some (.int (w / 2))) none) (Λ := Λ6)
    (fun done vs Λ' => ∃ jv, vs = fV vm k1 k2 top w (some (.int (w / 2))) jv ∧ Λ <+: Λ' ∧ Ext k1 Λ6 Λ' ∧ Λ'[k1]? = some (.list ((X ++ seg.take done.length ++ List.replicate (z - done.length) 0).map .int)))
    (fun done v rest vs Λ' hi hP => by
      obtain ⟨jv, rfl, a1, a2, a3⟩ := hP
      obtain ⟨rfl, hlt⟩ := range_items (j := 0) hi
      obtain ⟨Λ'', b1, b2, b3, b4⟩ := copy_step (nb := Λ.length) (j := done.length) (a := adr w) (v2 := .ref k2) (vw := .int w) (jv := jv) hM a1 hsegl hX (by clear hseg hsegl; lia) (by clear hseg hsegl; lia) hml (by clear hseg hsegl; lia) a3 hk1 hk1
      rw [hwc] at b1
      exact ⟨rfl, fV vm k1 k2 top w (some (.int (w / 2))) (some (.int done.length)), _, Λ'', rfl, b1, some (.int done.length), rfl, b2, a2.trans b3, by simpa using b4⟩)
    (fun vs Λ _ => rfl)
    ⟨none, rfl, ptr p05 p6, .refl, by rw [pre_at p6 q15]; simp⟩
  obtain ⟨vs7, Λ7, e7, jv, rfl, h07, x7, q17⟩ := loop
  rw [List.length_map, List.length_range, List.take_of_length_le (Nat.le_of_eq hsl)] at q17
  have q27 := x7 k2 _ (Ne.symm hne) (pre_at p6 q25)
  have hset := run_set (nb := Λ.length) (i := 2) (k := k2) (n := adr w) (e := xVar 3) (ix := xVar 5) (v := .int top) (vs := fV vm k1 k2 top w (some (.int (w / 2))) jv) (Λ := Λ7) (Λ1 := Λ7) (Λ2 := Λ7) (xs := fwd.map .int) rfl rfl (by rw [hwc]; rfl) q27 (by rw [List.length_map]; exact hal) ham hk2'
  have h08 : Λ <+: Λ7.set k2 (.list ((fwd.map V.int).set (adr w) (.int top))) := (Ext.set (k := k2)).keep h07 hk2'
  have q28 : (Λ7.set k2 (.list ((fwd.map V.int).set (adr w) (.int top))))[k2]? = some (.list ((fwd.set (adr w) (top : Int)).map .int)) := by rw [set_self q27]; simp
  have q18 := (Ext.set (k := k2) (Λ := Λ7) (o := .list ((fwd.map V.int).set (adr w) (.int top)))) k1 _ hne q17
  obtain ⟨v9, Λ9, e9, p9, r9⟩ := ((DE.bin DO.add (DE.bin DO.add (DE.var (i := 3) (d := .int top) rfl) hmx) (DE.int 1)).as (d' := .int ((top + n + 1 : Nat) : Int)) rfl) _ _ (eV (jv := jv) h08)
  obtain rfl := r9.intOf
  have q29 := pre_at p9 q28
  have E9 : EnvD (fV vm k1 k2 ((top + n + 1 : Nat) : Int) w (some (.int (w / 2))) jv) Λ9 [none, none, some (.ints (fwd.set (adr w) (top : Int))), none, none, some (.int (w / 2)), none] := (((((EnvD.nones 0).skip).cons (.int (w / 2))).skip.skip).cons (.ofInts q29)).skip.skip
  obtain ⟨v10, Λ10, e10, p10, r10⟩ := (DE.call (k_pointer_to (top : Int)) (DEs.cons (DE.idxi (a := xVar 2) (i := xVar 5) (ds := [none, none, some (.ints (fwd.set (adr w) (top : Int))), none, none, some (.int (w / 2)), none]) (l := fwd.set (adr w) (top : Int)) (n := adr w) (DE.var rfl) ((DE.var (d := .int (w / 2)) rfl).as (by rw [hwc])) (List.getElem?_set_self hal) ham) DEs.nil)) _ Λ9 E9
  obtain rfl := r10.intOf
  exact ⟨jv, Λ9, (run_seq (run_for hsrc e7)).trans ((run_seq hset).trans ((run_seq (run_assign e9)).trans rfl)), fwd_fin (ptr h08 p9) (pre_at p9 q18) q29 e10 p10⟩
set_option genSizeOf false in
set_option genInjectivity false in
inductive FwP (Λ : Led) (vm vn vf : V) (mem new fwd : List Int) (top w : Int) : Prop
  | mk (k1 k2 : Nat) (Λ1 Λ2 Λ3 : Led) (e1 : xListOf (xVar 1) [some vm, some vn, some vf, some (.int top), some (.int w), none, none] Λ = some (.ref k1, Λ1)) (e2 : xListOf (xVar 2) [some vm, some (.ref k1), some vf, some (.int top), some (.int w), none, none] Λ1 = some (.ref k2, Λ2))
    (e3 : tNot (tOf (xCall f_is_pointer [xVar 4])) (fV vm k1 k2 top w none none) Λ2 = some (!decide (w % 2 = 1), Λ3)) (p : Λ <+: Λ3) (q1 : Λ3[k1]? = some (.list (new.map .int))) (q2 : Λ3[k2]? = some (.list (fwd.map .int))) (hk1 : Λ.length ≤ k1) (hk2 : Λ.length ≤ k2) (hne : k1 ≠ k2)
    (E : EnvD (fV vm k1 k2 top w none none) Λ3 [some (.ints mem), some (.ints new), some (.ints fwd), some (.int top), some (.int w), none, none])
theorem fwd_pre {mem new fwd : List Int} {top : Nat} {w : Int} {vm vn vf : V} {Λ : Led} (hM : Den Λ vm (.ints mem)) (hN : Den Λ vn (.ints new)) (hF : Den Λ vf (.ints fwd)) (hnl : new.length ≤ 1000) (hfl : fwd.length ≤ 1000) : FwP Λ vm vn vf mem new fwd top w := by
  have hb : big = 100000 := rfl
  have E0 : EnvD [some vm, some vn, some vf, some (.int top), some (.int w), none, none] Λ [some (.ints mem), some (.ints new), some (.ints fwd), some (.int top), some (.int w), none, none] := (((((EnvD.nones 2).cons (.int w)).cons (.int top)).cons hF).cons hN).cons hM
  obtain ⟨k1, Λ1, e1, hk1, p1, q1⟩ := DEf.listOf (a := xVar 1) (l := new) (DE.var rfl) (by lia) _ Λ E0
  have E1 := (E0.mono p1).set (i := 1) (Den.ofInts q1)
  obtain ⟨k2, Λ2, e2, hk2, p2, q2⟩ := DEf.listOf (a := xVar 2) (l := fwd) (DE.var rfl) (by lia) _ Λ1 E1
  have E2 := (E1.mono p2).set (i := 2) (Den.ofInts q2)
  have hne : k1 ≠ k2 := Nat.ne_of_lt (Nat.lt_of_lt_of_le (lt_of_at q1) hk2)
  obtain ⟨Λ3, e3, p3⟩ := (DT.not (DT.of (DE.call (k_is_pointer w) (DEs.cons (DE.var (i := 4) (d := .int w) rfl) DEs.nil)))) _ Λ2 E2
  exact ⟨k1, k2, Λ1, Λ2, Λ3, e1, e2, e3, ptr p1 (ptr p2 p3), pre_at p3 (pre_at p2 q1), pre_at p3 q2, hk1, Nat.le_trans p1.length_le hk2, hne, E2.mono p3⟩
theorem FwE.fwr {Λ : Led} {vm vn vf : V} {top w : Int} {k1 k2 : Nat} {nw fw : List Int} {t y : Int} {Λ1 Λ2 : Led} {x : Option (Fl × Vars × Led)} (e1 : xListOf (xVar 1) [some vm, some vn, some vf, some (.int top), some (.int w), none, none] Λ = some (.ref k1, Λ1)) (e2 : xListOf (xVar 2) [some vm, some (.ref k1), some vf, some (.int top), some (.int w), none, none] Λ1 = some (.ref k2, Λ2))
    (hk1 : Λ.length ≤ k1) (hk2 : Λ.length ≤ k2) (hne : k1 ≠ k2) (h : FwE Λ x k1 k2 nw fw t y)
    (hr : sSeq (sIf (tNot (tOf (xCall f_is_pointer [xVar 4]))) (sSeq (sRet (xTup [xVar 1, xVar 2, xVar 3, xVar 4])) sPass) sPass)
      (sSeq (sAssign 5 (xCall f_address_of [xVar 4])) (sSeq (sIf (tOf (xCmp cLt (xIdx (xVar 2) (xVar 5)) (xInt 0))) b_fwd_new sPass) b_fwd_ret)) Λ.length (fV vm k1 k2 top w none none) Λ2 = x) : FwR Λ [vm, vn, vf, .int top, .int w] nw fw t y := by
  obtain ⟨kt, vs', Λ', e, p, q, q1, q2⟩ := h
  exact ⟨kt, k1, k2, Λ', def_run (vs' := vs') rfl ((run_seq (run_assign e1)).trans ((run_seq (run_assign e2)).trans (hr.trans e))), p, q, q1, q2, hk1, hk2, hne⟩
theorem seq_ret {a b : Stm} {nb : Nat} {vs vs' : Vars} {Λ Λ' : Led} {v : V} (h : a nb vs Λ = some (.ret v, vs', Λ')) : sSeq a b nb vs Λ = some (.ret v, vs', Λ') := bI h rfl
theorem k_forwarded {mem new fwd : List Int} {top : Nat} {w : Int} {vm vn vf : V} {Λ : Led} (hM : Den Λ vm (.ints mem)) (hN : Den Λ vn (.ints new)) (hF : Den Λ vf (.ints fwd)) (hml : mem.length ≤ 1000) (hnl : new.length ≤ 1000) (hfl : fwd.length ≤ 1000) (hw0 : 0 ≤ w) :
    (w % 2 ≠ 1 → FwR Λ [vm, vn, vf, .int top, .int w] new fwd top w) ∧
    (w % 2 = 1 → ∀ o : Int, fwd[adr w]? = some o → 0 ≤ o → FwR Λ [vm, vn, vf, .int top, .int w] new fwd top (2 * o + 1)) ∧
    (w % 2 = 1 → ∀ o : Int, fwd[adr w]? = some o → o < 0 → ∀ (X seg : List Int) (n z : Nat), mem[adr w]? = some (n : Int) → seg.length = n + 1 → seg = (mem.drop (adr w)).take (n + 1) → new = X ++ List.replicate z 0 → X.length = top → n + 1 ≤ z →
      FwR Λ [vm, vn, vf, .int top, .int w] (X ++ seg ++ List.replicate (z - (n + 1)) 0) (fwd.set (adr w) top) ((top + n + 1 : Nat) : Int) (2 * (top : Int) + 1)) := by
  obtain ⟨k1, k2, Λ1, Λ2, Λ3, e1, e2, e3, p03, q13, q23, hk1, hk2', hne, E3⟩ := fwd_pre (top := top) (w := w) hM hN hF hnl hfl
  have hal : ∀ {o : Int}, fwd[adr w]? = some o → adr w < 100000 := fun ho => Nat.lt_of_lt_of_le (List.getElem?_eq_some_iff.mp ho).1 (Nat.le_trans hfl (by decide))
  have hwc := adr_cast hw0
  have cmn : w % 2 = 1 → ∀ o : Int, fwd[adr w]? = some o → ∃ Λ4 Λ5, xCall f_address_of [xVar 4] (fV vm k1 k2 top w none none) Λ3 = some (.int (w / 2), Λ4) ∧ tOf (xCmp cLt (xIdx (xVar 2) (xVar 5)) (xInt 0)) (fV vm k1 k2 top w (some (.int (w / 2))) none) Λ4 = some (decide (o < 0), Λ5) ∧ Λ3 <+: Λ5 ∧
      EnvD (fV vm k1 k2 top w (some (.int (w / 2))) none) Λ5 [some (.ints mem), some (.ints new), some (.ints fwd), some (.int top), some (.int w), some (.int (w / 2)), none] := fun hw o ho => by
    obtain ⟨v4, Λ4, e4, p4, r4⟩ := (DE.call (k_address_of w) (DEs.cons (DE.var (i := 4) (d := .int w) rfl) DEs.nil)) _ Λ3 E3
    obtain rfl := r4.intOf
    have E4 := (E3.mono p4).set (i := 5) (Den.int (Λ := Λ4) (w / 2))
    obtain ⟨Λ5, e5, p5⟩ := (DT.cmp DC.lt (DE.idxi (a := xVar 2) (i := xVar 5) (l := fwd) (n := adr w) (DE.var rfl) ((DE.var (d := .int (w / 2)) rfl).as (by rw [hwc])) ho (hal ho)) (DE.int 0)) _ Λ4 E4
    exact ⟨Λ4, Λ5, e4, e5, ptr p4 p5, E4.mono p5⟩
  refine ⟨fun hw => ?_, fun hw o ho h0 => ?_, fun hw o ho h0 X seg n z hmn hsl hseg hnew hX hz => ?_⟩
  · rw [decide_eq_false hw] at e3
    refine FwE.fwr e1 e2 hk1 hk2' hne ⟨Λ3.length, fV vm k1 k2 top w none none, Λ3 ++ [.tup [.ref k1, .ref k2, .int top, .int w]], rfl, ptr p03 (pap _ _), last_at, pre_at (pap _ _) q13, pre_at (pap _ _) q23⟩ ?_
    exact seq_ret ((run_if e3).trans (run_ret (tup_run rfl (Nat.le_of_ble_eq_true rfl))))
  · obtain ⟨Λ4, Λ5, e4, e5, p35, E5⟩ := cmn hw o ho
    rw [decide_eq_true hw] at e3
    rw [decide_eq_false (Int.not_lt.mpr h0)] at e5
    obtain ⟨v6, Λ6, e6, p6, r6⟩ := (DE.call (k_pointer_to o) (DEs.cons (DE.idxi (a := xVar 2) (i := xVar 5) (l := fwd) (n := adr w) (DE.var rfl) ((DE.var (d := .int (w / 2)) rfl).as (by rw [hwc])) ho (hal ho)) DEs.nil)) _ Λ5 E5
    obtain rfl := r6.intOf
    exact FwE.fwr e1 e2 hk1 hk2' hne (fwd_fin (ptr p03 p35) (pre_at p35 q13) (pre_at p35 q23) e6 p6) ((run_seq ((run_if e3).trans rfl)).trans ((run_seq (run_assign e4)).trans (run_seq ((run_if e5).trans rfl))))
  · obtain ⟨Λ4, Λ5, e4, e5, p35, E5⟩ := cmn hw o ho
    rw [decide_eq_true hw] at e3
    rw [decide_eq_true h0] at e5
    have hnewl : top + z ≤ 1000 := by rw [hnew, List.length_append, List.length_replicate, hX] at hnl; exact hnl
    obtain ⟨jv, Λ9, h9, hf⟩ := fwd_new hM hml (Nat.le_trans (Nat.le_add_right _ _) hnewl) hfl hwc hk1 hk2' hne (ptr p03 p35) (List.getElem?_eq_some_iff.mp ho).1 hmn hsl hseg hX hz hnewl (hnew ▸ pre_at p35 q13) (pre_at p35 q23)
    exact FwE.fwr e1 e2 hk1 hk2' hne hf ((run_seq ((run_if e3).trans rfl)).trans ((run_seq (run_assign e4)).trans (run_seq ((run_if e5).trans h9))))
end Mine

/-! ## part B10 -/
set_option maxRecDepth 20000
set_option linter.unusedVariables false
namespace Mine

noncomputable def raw (T : Tab) (m : List Int) : List Int := m.flatMap fun p => ((rowOf T p).length : Int) :: rowOf T p
noncomputable def fwdL (T : Tab) (size : Nat) (m : List Int) : List Int := (List.range size).map fun (a : Nat) => ((plc T 0 m).lookup (2 * (a : Int) + 1)).elim (-1) (· / 2)
theorem fwdL_len {T : Tab} {size : Nat} {m : List Int} : (fwdL T size m).length = size := by simp [fwdL]
theorem fwdL_nil {T : Tab} {size : Nat} : fwdL T size [] = List.replicate size (-1) := by
  simp only [fwdL, plc, List.lookup_nil, Option.elim_none]
  exact List.map_const' ..|>.trans (by simp)
theorem fwdL_at {T : Tab} {size : Nat} {m : List Int} {w : Int} (h1 : w % 2 = 1) (h0 : 0 ≤ w) (ha : adr w < size) : (fwdL T size m)[adr w]? = some (((plc T 0 m).lookup w).elim (-1) (· / 2)) := by
  simp only [fwdL, List.getElem?_map, List.getElem?_range ha, Option.map_some]
  rw [← adr_eq h1 h0]
theorem fwdL_set {T : Tab} {size : Nat} {m : List Int} {w : Int} (h1 : w % 2 = 1) (h0 : 0 ≤ w) (hm : w ∉ m) : (fwdL T size m).set (adr w) (topA T 0 m : Int) = fwdL T size (m ++ [w]) := by
  apply List.ext_getElem?
  intro b
  rw [List.getElem?_set]
  have hw := adr_eq h1 h0
  by_cases hb : b < size
  · have e2 : (fwdL T size (m ++ [w]))[b]? = some (((plc T 0 (m ++ [w])).lookup (2 * (b : Int) + 1)).elim (-1) (· / 2)) := by simp [fwdL, hb]
    have e3 : (fwdL T size m)[b]? = some (((plc T 0 m).lookup (2 * (b : Int) + 1)).elim (-1) (· / 2)) := by simp [fwdL, hb]
    rw [e2, e3, plc_append, List.lookup_append]
    by_cases hab : adr w = b
    · rw [if_pos hab, fwdL_len, if_pos (by lia)]
      rw [show 2 * (b : Int) + 1 = w by lia, look_none (by rw [plc_keys]; exact hm)]
      simp [plc, List.lookup_cons]
      lia
    · rw [if_neg hab]
      have : ((2 * (b : Int) + 1) == w) = false := by simp; lia
      simp [plc, List.lookup_cons, this]
  · rw [List.getElem?_eq_none (by rw [fwdL_len]; lia), List.getElem?_eq_none (by rw [fwdL_len]; lia), fwdL_len]
    split
    · rw [if_neg (by lia)]
    · rfl
theorem raw_append {T : Tab} {a b : List Int} : raw T (a ++ b) = raw T a ++ raw T b := by simp [raw]
theorem raw_len {T : Tab} : ∀ {at_ : Nat} {m : List Int}, at_ + (raw T m).length = topA T at_ m
  | _, [] => rfl
  | at_, p :: m => by
    have := raw_len (T := T) (at_ := at_ + (rowOf T p).length + 1) (m := m)
    simp only [raw, List.flatMap_cons, List.length_append, List.length_cons, topA] at this ⊢
    lia
theorem pk_len {T : Tab} {g : Int → Int} : ∀ {at_ : Nat} {m : List Int}, at_ + (pk T g m).length = topA T at_ m
  | _, [] => rfl
  | at_, p :: m => by
    have := pk_len (T := T) (g := g) (at_ := at_ + (rowOf T p).length + 1) (m := m)
    simp only [pk, List.flatMap_cons, List.length_append, List.length_cons, List.length_map, topA] at this ⊢
    lia
/-- a met list -/
structure Met (T : Tab) (m : List Int) : Prop where
  nodup : m.Nodup
  keys : ∀ w ∈ m, (T.lookup w).isSome = true
theorem Met.add {T : Tab} {m : List Int} (h : Met T m) (w : Int) : Met T (addK T m w) := by
  unfold addK; split
  · rename_i hc
    refine ⟨List.nodup_append.mpr ⟨h.nodup, by simp, fun a ha b hb => ?_⟩, fun u hu => ?_⟩
    · simp at hb; subst hb; rintro rfl; exact hc.2 ha
    · rcases List.mem_append.mp hu with x | x
      · exact h.keys u x
      · simp at x; subst x; exact hc.1
  · exact h
theorem Met.adds {T : Tab} : ∀ {q m : List Int}, Met T m → Met T (q.foldl (addK T) m)
  | [], _, h => h
  | w :: q, _, h => Met.adds (q := q) (h.add w)
theorem Met.nil {T : Tab} : Met T [] := ⟨List.nodup_nil, fun _ h => nomatch h⟩

/-- what a word adds to the raw words -/
noncomputable def xAdd (T : Tab) (m : List Int) (X : List Int) (w : Int) : List Int := if (T.lookup w).isSome = true ∧ w ∉ m then X ++ (((rowOf T w).length : Int) :: rowOf T w) else X
theorem fw_step {T : Tab} {size : Nat} {m X : List Int} {w : Int} {vm vn vf : V} {Λ : Led} (hf : Fit 0 T size) (hs : size ≤ 1000) (hM : Den Λ vm (.ints (rend 0 T size))) (hm : Met T m) (hX : X.length = topA T 0 m) (hg : GoodW' T w) (hw0 : 0 ≤ w)
    (hN : Den Λ vn (.ints (X ++ List.replicate (size - topA T 0 m) 0))) (hF : Den Λ vf (.ints (fwdL T size m))) :
    FwR Λ [vm, vn, vf, .int (topA T 0 m : Nat), .int w] (xAdd T m X w ++ List.replicate (size - topA T 0 (addK T m w)) 0) (fwdL T size (addK T m w)) (topA T 0 (addK T m w) : Nat) (plW T (addK T m w) w) ∧ (xAdd T m X w).length = topA T 0 (addK T m w) := by
  have hlen := rend_len hf
  have htop := top_size hf hm.nodup hm.keys
  obtain ⟨f1, f2, f3⟩ := k_forwarded (top := topA T 0 m) (w := w) hM hN hF (by lia) (by simp; lia) (by rw [fwdL_len]; lia) hw0
  by_cases hodd : w % 2 = 1
  · have hk := hg.mp hodd
    obtain ⟨row, hrow⟩ := Option.isSome_iff_exists.mp hk
    have hmem := look_mem hrow
    obtain ⟨_, _, _, hfit⟩ := hf.key hmem
    have hrw : rowOf T w = row := by simp [rowOf, hrow]
    by_cases hin : w ∈ m
    · have ea : addK T m w = m := if_neg fun x => x.2 hin
      have ex : xAdd T m X w = X := if_neg fun x => x.2 hin
      rw [ea, ex]
      obtain ⟨o, ho, _, _⟩ := plc_val (plW_some (T := T) hin)
      have := f2 hodd (plW T m w / 2) (by rw [fwdL_at hodd hw0 (by lia), plW_some hin]; rfl) (by lia)
      rw [show 2 * (plW T m w / 2) + 1 = plW T m w by lia] at this
      exact ⟨this, hX⟩
    · have ea : addK T m w = m ++ [w] := if_pos ⟨hk, hin⟩
      have ex : xAdd T m X w = X ++ ((row.length : Int) :: row) := by unfold xAdd; rw [if_pos ⟨hk, hin⟩, hrw]
      have hmet := hm.add w
      have htop2 := top_size hf hmet.nodup hmet.keys
      rw [ea] at htop2
      have et : topA T 0 (m ++ [w]) = topA T 0 m + row.length + 1 := by rw [topA_append]; simp [topA, hrw]
      obtain ⟨rest, hdr⟩ := rend_drop hf hmem
      simp only [Nat.sub_zero] at hdr
      have := f3 hodd (-1) (by rw [fwdL_at hodd hw0 (by lia), look_none (by rw [plc_keys]; exact hin)]; rfl) (by lia) X ((row.length : Int) :: row) row.length (size - topA T 0 m) (rend_get hf hmem).1 (by simp)
        (by rw [hdr]; simp) rfl hX (by lia)
      rw [fwdL_set hodd hw0 hin] at this
      rw [ea, ex, et, plW_new hin]
      refine ⟨?_, by simp [hX]; lia⟩
      rw [show size - (topA T 0 m + row.length + 1) = size - topA T 0 m - (row.length + 1) by lia]
      exact this
  · have hk : ¬ (T.lookup w).isSome = true := fun x => hodd (hg.mpr x)
    have ea : addK T m w = m := if_neg fun x => hk x.1
    have ex : xAdd T m X w = X := if_neg fun x => hk x.1
    rw [ea, ex, plW_out fun x => hk (hm.keys w x)]
    exact ⟨f1 hodd, hX⟩

/-- the lists of a copying -/
structure CS (T : Tab) (size : Nat) (Λ0 Λ : Led) (kn kf km : Nat) (m X mv : List Int) : Prop where
  pre : Λ0 <+: Λ
  new : Λ[kn]? = some (.list ((X ++ List.replicate (size - topA T 0 m) 0).map .int))
  fwd : Λ[kf]? = some (.list ((fwdL T size m).map .int))
  mov : Λ[km]? = some (.list (mv.map .int))
  len : X.length = topA T 0 m
  met : Met T m
  bn : Λ0.length ≤ kn
  bm : Λ0.length ≤ km
  nm : kn ≠ km
  fm : kf ≠ km
  nf : kn ≠ kf
theorem CS.grow {T : Tab} {size : Nat} {Λ0 Λ Λ' : Led} {kn kf km : Nat} {m X mv : List Int} (h : CS T size Λ0 Λ kn kf km m X mv) (p : Λ <+: Λ') : CS T size Λ0 Λ' kn kf km m X mv :=
  ⟨ptr h.pre p, pre_at p h.new, pre_at p h.fwd, pre_at p h.mov, h.len, h.met, h.bn, h.bm, h.nm, h.fm, h.nf⟩

/-- step = forwarded(...), then its four parts -/
theorem take_step {T : Tab} {size : Nat} {Λ0 Λ Λw : Led} {kn kf km : Nat} {m X mv : List Int} {w : Int} {vm vr : V} {xw : Ex} {wv sv scv iv : Option V} (hf : Fit 0 T size) (hs : size ≤ 1000) (hM : Den Λ0 vm (.ints (rend 0 T size))) (h : CS T size Λ0 Λ kn kf km m X mv) (hg : GoodW' T w) (hw0 : 0 ≤ w)
    (hw : xw [some vm, some vr, some (.int size), some (.ref kn), some (.ref kf), some (.int (topA T 0 m : Nat)), some (.ref km), wv, sv, scv, iv] Λ = some (.int w, Λw)) (hpw : Λ <+: Λw) {rest : Stm} {nb : Nat} :
    ∃ (kn' kf' kt : Nat) (Λ' : Led), CS T size Λ0 Λ' kn' kf' km (addK T m w) (xAdd T m X w) mv ∧ Λ'[kt]? = some (.tup [.ref kn', .ref kf', .int (topA T 0 (addK T m w) : Nat), .int (plW T (addK T m w) w)]) ∧
      sSeq (sAssign 8 (xCall f_forwarded [xVar 0, xVar 3, xVar 4, xVar 5, xw])) (sSeq (sAssign 3 (xIdx (xVar 8) (xInt 0))) (sSeq (sAssign 4 (xIdx (xVar 8) (xInt 1))) (sSeq (sAssign 5 (xIdx (xVar 8) (xInt 2))) rest))) nb [some vm, some vr, some (.int size), some (.ref kn), some (.ref kf), some (.int (topA T 0 m : Nat)), some (.ref km), wv, sv, scv, iv] Λ =
      rest nb [some vm, some vr, some (.int size), some (.ref kn'), some (.ref kf'), some (.int (topA T 0 (addK T m w) : Nat)), some (.ref km), wv, some (.ref kt), scv, iv] Λ' := by
  have hc := h.grow hpw
  obtain ⟨⟨kt, k1, k2, Λ', e, p, q, q1, q2, b1, b2, ne⟩, hl⟩ := fw_step (w := w) hf hs (hM.mono hc.pre) h.met h.len hg hw0 (.ofInts hc.new) (.ofInts hc.fwd)
  have hkm : km < Λw.length := lt_of_at hc.mov
  refine ⟨k1, k2, kt, Λ', ⟨ptr hc.pre p, q1, q2, pre_at p hc.mov, hl, h.met.add w, Nat.le_trans hc.pre.length_le b1, h.bm, by lia, by lia, ne⟩, q, ?_⟩
  have ec : xCall f_forwarded [xVar 0, xVar 3, xVar 4, xVar 5, xw] [some vm, some vr, some (.int size), some (.ref kn), some (.ref kf), some (.int (topA T 0 m : Nat)), some (.ref km), wv, sv, scv, iv] Λ = some (.ref kt, Λ') := by
    simp only [xCall, xs_, xVar, getV, hw, Option.bind_eq_bind, Option.bind_some, List.getElem?_cons_zero, List.getElem?_cons_succ, Option.join_some, Option.map_some]
    exact e
  refine (run_seq (run_assign ec)).trans ?_
  refine (run_seq (run_assign (v := .ref k1) (Λ1 := Λ') ?_)).trans ((run_seq (run_assign (v := .ref k2) (Λ1 := Λ') ?_)).trans ((run_seq (run_assign (v := .int (topA T 0 (addK T m w) : Nat)) (Λ1 := Λ') ?_)).trans rfl))
  all_goals simp [xIdx, xVar, xInt, getV, idxV, q]
end Mine

/-! ## part B11 -/
set_option maxRecDepth 20000
set_option linter.unusedVariables false
namespace Mine

theorem raw_add {T : Tab} {m : List Int} {w : Int} : xAdd T m (raw T m) w = raw T (addK T m w) := by
  unfold xAdd addK
  split
  · rw [raw_append]; simp [raw]
  · rfl
/-- a word that is met, or is no key -/
noncomputable def Seen (T : Tab) (m : List Int) (u : Int) : Prop := u ∈ m ∨ ¬ (T.lookup u).isSome = true
theorem Seen.pl {T : Tab} {m : List Int} {u w : Int} (h : Seen T m u) (hm : Met T (addK T m w)) : plW T (addK T m w) u = plW T m u := by
  refine plW_pre addK_pre ?_
  rcases h with h | h
  · exact .inl h
  · exact .inr fun x => h (hm.keys u x)
theorem Seen.add {T : Tab} {m : List Int} {u w : Int} (h : Seen T m u) : Seen T (addK T m w) u := h.imp (fun x => addK_pre.subset x) id
theorem Seen.self {T : Tab} {m : List Int} {w : Int} : Seen T (addK T m w) w := by
  by_cases h : (T.lookup w).isSome = true
  · refine .inl ?_
    unfold addK
    by_cases hm : w ∈ m
    · rw [if_neg fun x => x.2 hm]; exact hm
    · rw [if_pos ⟨h, hm⟩]; simp
  · exact .inr h
noncomputable abbrev cvs (vm vr : V) (size : Nat) (kn kf : Nat) (top : Nat) (km : Nat) (wv sv scv iv : Option V) : Vars := [some vm, some vr, some (.int size), some (.ref kn), some (.ref kf), some (.int (top : Nat)), some (.ref km), wv, sv, scv, iv]

theorem root_loop {T : Tab} {size : Nat} {Λ0 : Led} {vm vr : V} {km nb : Nat} {ok : Led → Bool} (hok : ∀ Λ, Λ0 <+: Λ → ok Λ = true) (hf : Fit 0 T size) (hs : size ≤ 1000) (hM : Den Λ0 vm (.ints (rend 0 T size))) (hnb : nb ≤ Λ0.length) :
    ∀ (q dn m : List Int) (kn kf : Nat) (wv sv : Option V) (Λ : Led), CS T size Λ0 Λ kn kf km m (raw T m) (dn.map (plW T m)) → (∀ w ∈ q, GoodW' T w ∧ 0 ≤ w) → (∀ w ∈ dn, Seen T m w) → dn.length + q.length ≤ 1000 →
      ∃ (kn' kf' : Nat) (wv' sv' : Option V) (Λ' : Led), forGo ok (aName 7) b_copy_root nb (q.map .int) (cvs vm vr size kn kf (topA T 0 m) km wv sv none none) Λ = some (.next, cvs vm vr size kn' kf' (topA T 0 (q.foldl (addK T) m)) km wv' sv' none none, Λ') ∧
        CS T size Λ0 Λ' kn' kf' km (q.foldl (addK T) m) (raw T (q.foldl (addK T) m)) ((dn ++ q).map (plW T (q.foldl (addK T) m)))
  | [], dn, m, kn, kf, wv, sv, Λ, h, hq, hd, hl => ⟨kn, kf, wv, sv, Λ, by simp [forGo, hok Λ h.pre], by simpa using h⟩
  | w :: q, dn, m, kn, kf, wv, sv, Λ, h, hq, hd, hl => by
    have hb : big = 100000 := rfl
    simp only [List.length_cons] at hl
    obtain ⟨hg, hw0⟩ := hq w (.head _)
    obtain ⟨kn1, kf1, kt, Λ1, c1, q1, e1⟩ := take_step (vr := vr) (xw := xVar 7) (wv := some (.int w)) (sv := sv) (scv := none) (iv := none) (nb := nb) (rest := sSeq (sAppend 6 (xIdx (xVar 8) (xInt 3))) sPass) hf hs hM h hg hw0 (Λw := Λ) rfl (List.prefix_refl _)
    have hmet := c1.met
    have emv : dn.map (plW T m) = dn.map (plW T (addK T m w)) := List.map_congr_left fun u hu => ((hd u hu).pl hmet).symm
    have ei : xIdx (xVar 8) (xInt 3) (cvs vm vr size kn1 kf1 (topA T 0 (addK T m w)) km (some (.int w)) (some (.ref kt)) none none) Λ1 = some (.int (plW T (addK T m w) w), Λ1) := by simp [xIdx, xVar, xInt, getV, idxV, q1]
    have hap := run_append (nb := nb) (i := 6) (k := km) (vs := cvs vm vr size kn1 kf1 (topA T 0 (addK T m w)) km (some (.int w)) (some (.ref kt)) none none) rfl c1.mov ei (List.prefix_refl _) (Nat.le_trans hnb c1.bm) (by simp; lia)
    have hx : Ext km Λ1 (Λ1.set km (.list ((dn.map (plW T m)).map V.int ++ [.int (plW T (addK T m w) w)]))) := Ext.set
    have c2 : CS T size Λ0 (Λ1.set km (.list ((dn.map (plW T m)).map V.int ++ [.int (plW T (addK T m w) w)]))) kn1 kf1 km (addK T m w) (raw T (addK T m w)) ((dn ++ [w]).map (plW T (addK T m w))) := by
      refine ⟨hx.keep c1.pre c1.bm, ?_, hx _ _ c1.fm c1.fwd, ?_, ?_, c1.met, c1.bn, c1.bm, c1.nm, c1.fm, c1.nf⟩
      · have := hx _ _ c1.nm c1.new
        rw [raw_add] at this; exact this
      · rw [set_self c1.mov, emv]; simp
      · have := c1.len; rw [raw_add] at this; exact this
    obtain ⟨kn', kf', wv', sv', Λ', e2, c3⟩ := root_loop (vr := vr) hok hf hs hM hnb q (dn ++ [w]) (addK T m w) kn1 kf1 (some (.int w)) (some (.ref kt)) _ c2 (fun u hu => hq u (.tail _ hu)) (fun u hu => by
      rcases List.mem_append.mp hu with x | x
      · exact (hd u x).add
      · simp at x; subst x; exact Seen.self) (by simp; lia)
    refine ⟨kn', kf', wv', sv', Λ', ?_, by simpa using c3⟩
    have ha : aName 7 (.int w) (cvs vm vr size kn kf (topA T 0 m) km wv sv none none) Λ = some (cvs vm vr size kn kf (topA T 0 m) km (some (.int w)) sv none none) := rfl
    have hbody : b_copy_root nb (cvs vm vr size kn kf (topA T 0 m) km (some (.int w)) sv none none) Λ = some (.next, cvs vm vr size kn1 kf1 (topA T 0 (addK T m w)) km (some (.int w)) (some (.ref kt)) none none, Λ1.set km (.list ((dn.map (plW T m)).map V.int ++ [.int (plW T (addK T m w) w)]))) :=
      e1.trans ((run_seq hap).trans rfl)
    simp only [List.map_cons, forGo, hok Λ h.pre, if_true, ha, hbody, e2, Option.bind_eq_bind, Option.bind_some, List.foldl_cons]

/-! scanning -/
/-- the words while an object is scanned -/
noncomputable def shp (T : Tab) (dn : List Int) (p : Int) (j : Nat) (m : List Int) : List Int :=
  pk T (plW T m) dn ++ ((((rowOf T p).length : Int) :: ((rowOf T p).take j).map (plW T m)) ++ ((rowOf T p).drop j ++ raw T (m.drop (dn.length + 1))))
theorem pk_congr {T : Tab} {g g' : Int → Int} {dn : List Int} (h : ∀ q ∈ dn, ∀ u ∈ rowOf T q, g u = g' u) : pk T g dn = pk T g' dn := by
  unfold pk
  induction dn with
  | nil => rfl
  | cons q dn ih =>
    rw [List.flatMap_cons, List.flatMap_cons, ih fun p hp => h p (.tail _ hp)]
    congr 2
    exact List.map_congr_left (h q (.head _))
theorem shp_step {T : Tab} {dn m : List Int} {p u : Int} {j : Nat} (hp : dn ++ [p] <+: m) (hj : (rowOf T p)[j]? = some u) (hdn : ∀ q ∈ dn, ∀ u ∈ rowOf T q, Seen T m u) (htk : ∀ u ∈ (rowOf T p).take j, Seen T m u) (hm : Met T (addK T m u)) :
    (shp T dn p j m)[topA T 0 dn + 1 + j]? = some u ∧ (xAdd T m (shp T dn p j m) u).set (topA T 0 dn + 1 + j) (plW T (addK T m u) u) = shp T dn p (j + 1) (addK T m u) := by
  have hpl := pk_len (T := T) (g := plW T m) (at_ := 0) (m := dn)
  have hpl' := pk_len (T := T) (g := plW T (addK T m u)) (at_ := 0) (m := dn)
  have hjl : j < (rowOf T p).length := (List.getElem?_eq_some_iff.mp hj).1
  have hdr : (rowOf T p).drop j = u :: (rowOf T p).drop (j + 1) := by
    rw [List.drop_eq_getElem_cons hjl]
    rw [List.getElem?_eq_getElem hjl] at hj
    rw [Option.some.inj hj]
  constructor
  · unfold shp
    rw [List.getElem?_append_right (by lia), List.getElem?_append_right (by simp; lia), hdr]
    rw [show topA T 0 dn + 1 + j - (pk T (plW T m) dn).length - (((rowOf T p).length : Int) :: ((rowOf T p).take j).map (plW T m)).length = 0 by simp; lia]
    rfl
  · have e1 : xAdd T m (shp T dn p j m) u = pk T (plW T (addK T m u)) dn ++ ((((rowOf T p).length : Int) :: ((rowOf T p).take j).map (plW T (addK T m u))) ++ (u :: (rowOf T p).drop (j + 1) ++ raw T ((addK T m u).drop (dn.length + 1)))) := by
      have ea : pk T (plW T m) dn = pk T (plW T (addK T m u)) dn := pk_congr fun q hq x hx => ((hdn q hq x hx).pl hm).symm
      have eb : ((rowOf T p).take j).map (plW T m) = ((rowOf T p).take j).map (plW T (addK T m u)) := List.map_congr_left fun x hx => ((htk x hx).pl hm).symm
      have hlen : dn.length + 1 ≤ m.length := by have := hp.length_le; simpa using this
      unfold xAdd shp
      rw [ea, eb, hdr]
      unfold addK
      split
      · rename_i hc
        have : (addK T m u) = m ++ [u] := if_pos hc
        rw [List.drop_append_of_le_length hlen, raw_append]
        simp [raw]
      · rfl
    rw [e1]
    unfold shp
    rw [List.set_append_right _ _ (by lia), List.set_append_right _ _ (by simp; lia)]
    rw [show topA T 0 dn + 1 + j - (pk T (plW T (addK T m u)) dn).length - (((rowOf T p).length : Int) :: ((rowOf T p).take j).map (plW T (addK T m u))).length = 0 by simp; lia]
    have et : (rowOf T p).take (j + 1) = (rowOf T p).take j ++ [u] := by rw [List.take_succ, hj]; rfl
    rw [et, List.map_append]
    simp only [List.cons_append, List.set_cons_zero, List.map_cons, List.map_nil, List.append_assoc, List.nil_append]
theorem shp_len {T : Tab} {dn m : List Int} {p : Int} {j : Nat} (hp : dn ++ [p] <+: m) : (shp T dn p j m).length = topA T 0 m := by
  obtain ⟨t, rfl⟩ := hp
  have h1 := pk_len (T := T) (g := plW T (dn ++ [p] ++ t)) (at_ := 0) (m := dn)
  have h2 := raw_len (T := T) (at_ := topA T 0 (dn ++ [p])) (m := t)
  rw [topA_append, ← h2, topA_append]
  have : (dn ++ [p] ++ t).drop (dn.length + 1) = t := by rw [List.drop_left' (by simp)]
  unfold shp
  rw [this]
  simp only [List.length_append, List.length_cons, List.length_map, List.length_take, List.length_drop, topA]
  lia

theorem scanI {kn kf top km size scan j : Nat} {vm vr : V} {wv sv : Option V} {Λ : Led} : xScanI (cvs vm vr size kn kf top km wv sv (some (.int scan)) (some (.int j))) Λ = some (.int ((scan + 1 + j : Nat) : Int), Λ) := by
  simp [xScanI, xBin, xVar, xInt, getV, oAdd]
theorem field_loop {T : Tab} {size : Nat} {Λ0 : Led} {vm vr : V} {km nb : Nat} {mv : List Int} (hf : Fit 0 T size) (hs : size ≤ 1000) (hM : Den Λ0 vm (.ints (rend 0 T size))) (hnb : nb ≤ Λ0.length) {dn : List Int} {p : Int} (hgood : ∀ u ∈ rowOf T p, GoodW' T u ∧ 0 ≤ u) :
    ∀ (c j : Nat) (m : List Int) (kn kf : Nat) (wv sv iv : Option V) (Λ : Led), j + c = (rowOf T p).length → dn ++ [p] <+: m → (∀ q ∈ dn, ∀ u ∈ rowOf T q, Seen T m u) → (∀ u ∈ (rowOf T p).take j, Seen T m u) → CS T size Λ0 Λ kn kf km m (shp T dn p j m) mv →
      ∃ (kn' kf' : Nat) (wv' sv' iv' : Option V) (Λ' : Led), forGo (stands none []) (aName 10) b_copy_field nb ((List.range' j c).map fun (i : Nat) => V.int (i : Int)) (cvs vm vr size kn kf (topA T 0 m) km wv sv (some (.int (topA T 0 dn : Nat))) iv) Λ =
          some (.next, cvs vm vr size kn' kf' (topA T 0 (((rowOf T p).drop j).foldl (addK T) m)) km wv' sv' (some (.int (topA T 0 dn : Nat))) iv', Λ') ∧
        CS T size Λ0 Λ' kn' kf' km (((rowOf T p).drop j).foldl (addK T) m) (shp T dn p (rowOf T p).length (((rowOf T p).drop j).foldl (addK T) m)) mv ∧ (∀ q ∈ dn ++ [p], ∀ u ∈ rowOf T q, Seen T (((rowOf T p).drop j).foldl (addK T) m) u)
  | 0, j, m, kn, kf, wv, sv, iv, Λ, hc, hp, hdn, htk, h => by
    have e : (rowOf T p).drop j = [] := List.drop_of_length_le (by lia)
    have ej : j = (rowOf T p).length := by lia
    subst ej
    rw [e]
    refine ⟨kn, kf, wv, sv, iv, Λ, by simp [forGo, stands], h, fun q hq u hu => ?_⟩
    rcases List.mem_append.mp hq with x | x
    · exact hdn q x u hu
    · simp at x; subst x; exact htk u (by rw [List.take_length]; exact hu)
  | c + 1, j, m, kn, kf, wv, sv, iv, Λ, hc, hp, hdn, htk, h => by
    have hb : big = 100000 := rfl
    have hjl : j < (rowOf T p).length := by lia
    obtain ⟨u, hu⟩ : ∃ u, (rowOf T p)[j]? = some u := ⟨_, List.getElem?_eq_getElem hjl⟩
    have hum : u ∈ rowOf T p := List.mem_of_getElem? hu
    have hdr : (rowOf T p).drop j = u :: (rowOf T p).drop (j + 1) := by
      rw [List.drop_eq_getElem_cons hjl]
      rw [List.getElem?_eq_getElem hjl] at hu
      rw [Option.some.inj hu]
    obtain ⟨hg, hu0⟩ := hgood u hum
    have hst := shp_step hp hu hdn htk (h.met.add u)
    have htop := top_size hf h.met.nodup h.met.keys
    have hsl := shp_len (T := T) (j := j) hp
    have hlt : topA T 0 dn + 1 + j < (shp T dn p j m).length := (List.getElem?_eq_some_iff.mp hst.1).1
    have hxw : xIdx (xVar 3) xScanI (cvs vm vr size kn kf (topA T 0 m) km wv sv (some (.int (topA T 0 dn : Nat))) (some (.int j))) Λ = some (.int u, Λ) := by
      have g1 : xVar 3 (cvs vm vr size kn kf (topA T 0 m) km wv sv (some (.int (topA T 0 dn : Nat))) (some (.int j))) Λ = some (.ref kn, Λ) := rfl
      simp only [xIdx, g1, scanI, Option.bind_eq_bind, Option.bind_some, idxV, h.new]
      rw [if_pos (by lia)]
      simp only [Int.toNat_natCast, List.getElem?_map, List.getElem?_append_left hlt, hst.1, Option.map_some, Option.bind_some]
    obtain ⟨kn1, kf1, kt, Λ1, c1, q1, e1⟩ := take_step (vr := vr) (xw := xIdx (xVar 3) xScanI) (wv := wv) (sv := sv) (scv := some (.int (topA T 0 dn : Nat))) (iv := some (.int j)) (nb := nb) (rest := sSeq (sSetIdx 3 xScanI (xIdx (xVar 8) (xInt 3))) sPass) hf hs hM h hg hu0 hxw (List.prefix_refl _)
    have ei : xIdx (xVar 8) (xInt 3) (cvs vm vr size kn1 kf1 (topA T 0 (addK T m u)) km wv (some (.ref kt)) (some (.int (topA T 0 dn : Nat))) (some (.int j))) Λ1 = some (.int (plW T (addK T m u) u), Λ1) := by simp [xIdx, xVar, xInt, getV, idxV, q1]
    have hl1 : topA T 0 dn + 1 + j < (xAdd T m (shp T dn p j m) u).length := by
      have : (shp T dn p j m).length ≤ (xAdd T m (shp T dn p j m) u).length := by unfold xAdd; split <;> simp
      lia
    have hset := run_set (nb := nb) (i := 3) (k := kn1) (n := topA T 0 dn + 1 + j) (vs := cvs vm vr size kn1 kf1 (topA T 0 (addK T m u)) km wv (some (.ref kt)) (some (.int (topA T 0 dn : Nat))) (some (.int j))) ei rfl scanI c1.new (by simp; lia) (by lia) (Nat.le_trans hnb c1.bn)
    generalize hS : Λ1.set kn1 (.list (((xAdd T m (shp T dn p j m) u ++ List.replicate (size - topA T 0 (addK T m u)) 0).map V.int).set (topA T 0 dn + 1 + j) (.int (plW T (addK T m u) u)))) = Λ2 at hset
    have hx : Ext kn1 Λ1 Λ2 := by rw [← hS]; exact Ext.set
    have c2 : CS T size Λ0 Λ2 kn1 kf1 km (addK T m u) (shp T dn p (j + 1) (addK T m u)) mv := by
      refine ⟨hx.keep c1.pre c1.bn, ?_, hx _ _ (Ne.symm c1.nf) c1.fwd, hx _ _ (Ne.symm c1.nm) c1.mov, ?_, c1.met, c1.bn, c1.bm, c1.nm, c1.fm, c1.nf⟩
      · rw [← hS, set_self c1.new, ← List.map_set, List.set_append_left _ _ hl1, hst.2]
      · exact shp_len (List.IsPrefix.trans hp addK_pre)
    obtain ⟨kn', kf', wv', sv', iv', Λ', e2, c3, hc3⟩ := field_loop (vr := vr) (nb := nb) hf hs hM hnb hgood c (j + 1) (addK T m u) kn1 kf1 wv (some (.ref kt)) (some (.int j)) Λ2 (by lia) (List.IsPrefix.trans hp addK_pre) (fun q hq x hx => (hdn q hq x hx).add) (fun x hx => by
      rw [List.take_succ, hu] at hx
      rcases List.mem_append.mp hx with y | y
      · exact (htk x y).add
      · simp at y; subst y; exact Seen.self) c2
    refine ⟨kn', kf', wv', sv', iv', Λ', ?_, by rw [hdr]; exact c3, by rw [hdr]; exact hc3⟩
    have ha : aName 10 (.int j) (cvs vm vr size kn kf (topA T 0 m) km wv sv (some (.int (topA T 0 dn : Nat))) iv) Λ = some (cvs vm vr size kn kf (topA T 0 m) km wv sv (some (.int (topA T 0 dn : Nat))) (some (.int j))) := rfl
    have hbody : b_copy_field nb (cvs vm vr size kn kf (topA T 0 m) km wv sv (some (.int (topA T 0 dn : Nat))) (some (.int j))) Λ = some (.next, cvs vm vr size kn1 kf1 (topA T 0 (addK T m u)) km wv (some (.ref kt)) (some (.int (topA T 0 dn : Nat))) (some (.int j)), Λ2) :=
      e1.trans ((run_seq hset).trans rfl)
    rw [List.range'_succ, List.map_cons, hdr]
    simp only [forGo, stands, if_true, ha, hbody, e2, Option.bind_eq_bind, Option.bind_some, List.foldl_cons]
end Mine

/-! ## part B12 -/
set_option maxRecDepth 20000
set_option linter.unusedVariables false
namespace Mine

theorem DEf.rep {ds : DV} {a b : Ex} {x : Int} {n : Nat} (ha : DE a ds (.ints [x])) (hb : DE b ds (.int n)) (hn : n ≤ 1000) : DEf (xBin oMul a b) ds (List.replicate n x) := fun vs Λ E => by
  obtain ⟨v1, Λ1, e1, p1, r1⟩ := ha vs Λ E
  obtain ⟨v2, Λ2, e2, p2, r2⟩ := hb vs Λ1 (E.mono p1)
  obtain rfl := r2.intOf
  obtain ⟨j, rfl, q1⟩ := (r1.mono p2).intsOf
  have hf : (List.replicate n ([x].map V.int)).flatten = (List.replicate n x).map .int := by simp
  refine ⟨Λ2.length, _, by simp only [xBin, e1, e2, oMul, asList, q1, Option.bind_eq_bind, Option.bind_some, Int.toNat_natCast]; rw [if_pos ⟨rfl, by lia, by lia⟩, hf]; exact newList_f (by simp [big]; lia), (ptr p1 p2).length_le, ptr (ptr p1 p2) (List.prefix_append _ _), last_at⟩

theorem topA_lt {T : Tab} {m : List Int} {k : Nat} (h : k < m.length) : topA T 0 (m.take k) < topA T 0 m := by
  have e : m = m.take k ++ m.drop k := (List.take_append_drop k m).symm
  have e2 : m.drop k = m[k] :: m.drop (k + 1) := List.drop_eq_getElem_cons h
  have := topA_le (T := T) (at_ := topA T 0 (m.take k) + (rowOf T m[k]).length + 1) (r := m.drop (k + 1))
  conv => rhs; rw [e, topA_append, e2]
  simp only [topA]; lia
theorem scan_while {T : Tab} {size : Nat} {Λ0 : Led} {vm vr : V} {km nb : Nat} {mv : List Int} (hf : Fit 0 T size) (hs : size ≤ 1000) (hM : Den Λ0 vm (.ints (rend 0 T size))) (hnb : nb ≤ Λ0.length) (hgood : ∀ e ∈ T, ∀ u ∈ e.2, GoodW' T u ∧ 0 ≤ u) {k : Nat} {m r : List Int} (hR : Rch T k m r) :
    ∀ {kn kf : Nat} {wv sv iv : Option V} {Λ : Led} {fuel : Nat}, r.length < fuel + k → (∀ q ∈ m.take k, ∀ u ∈ rowOf T q, Seen T m u) → CS T size Λ0 Λ kn kf km m (pk T (plW T m) (m.take k) ++ raw T (m.drop k)) mv →
      ∃ (kn' kf' : Nat) (wv' sv' scv' iv' : Option V) (Λ' : Led), whileGo (tOf (xCmp cLt (xVar 9) (xVar 5))) b_copy_scan nb fuel (cvs vm vr size kn kf (topA T 0 m) km wv sv (some (.int (topA T 0 (m.take k) : Nat))) iv) Λ = some (.next, cvs vm vr size kn' kf' (topA T 0 r) km wv' sv' scv' iv', Λ') ∧
        CS T size Λ0 Λ' kn' kf' km r (pk T (plW T r) r) mv := by
  have hb : big = 100000 := rfl
  induction hR with
  | @done k m hk =>
    intro kn kf wv sv iv Λ fuel hfu hsn h
    subst hk
    rw [List.take_length, List.drop_length] at h
    rw [List.take_length]
    have E : EnvD (cvs vm vr size kn kf (topA T 0 m) km wv sv (some (.int (topA T 0 m : Nat))) iv) Λ [none, none, none, none, none, some (.int (topA T 0 m : Nat)), none, none, none, some (.int (topA T 0 m : Nat)), none] := ((((((((((EnvD.nil.skip).cons (.int _)).skip).skip).skip).cons (.int _)).skip).skip).skip).skip).skip
    have ht : DT (tOf (xCmp cLt (xVar 9) (xVar 5))) [none, none, none, none, none, some (.int (topA T 0 m : Nat)), none, none, none, some (.int (topA T 0 m : Nat)), none] _ := DT.cmp DC.lt (DE.var rfl) (DE.var rfl)
    obtain ⟨Λ1, e1, p1⟩ := ht _ Λ E
    rw [show decide ((topA T 0 m : Int) < (topA T 0 m : Int)) = false by simp] at e1
    obtain ⟨f, rfl⟩ : ∃ f, fuel = f + 1 := ⟨fuel - 1, by lia⟩
    refine ⟨kn, kf, wv, sv, some (.int (topA T 0 m : Nat)), iv, Λ1, by simp [whileGo, e1], ?_⟩
    have := h.grow p1
    simpa [raw] using this
  | @step k m r row w e el hrest ih =>
    intro kn kf wv sv iv Λ fuel hfu hsn h
    have hkl : k < m.length := (List.getElem?_eq_some_iff.mp e).1
    have hmk : m[k] = w := by rw [List.getElem?_eq_getElem hkl] at e; exact Option.some.inj e
    have hrow : rowOf T w = row := by simp [rowOf, el]
    have hdrop : m.drop k = w :: m.drop (k + 1) := by rw [List.drop_eq_getElem_cons hkl, hmk]
    have hpm : m.take k ++ [w] <+: m := by
      refine ⟨m.drop (k + 1), ?_⟩
      rw [List.append_assoc, List.singleton_append, ← hdrop, List.take_append_drop]
    have hdl : (m.take k).length = k := by simp; lia
    have hX : pk T (plW T m) (m.take k) ++ raw T (m.drop k) = shp T (m.take k) w 0 m := by
      unfold shp
      rw [hdl, hdrop]
      simp [raw]
    rw [hX] at h
    have E : EnvD (cvs vm vr size kn kf (topA T 0 m) km wv sv (some (.int (topA T 0 (m.take k) : Nat))) iv) Λ [none, none, none, none, none, some (.int (topA T 0 m : Nat)), none, none, none, some (.int (topA T 0 (m.take k) : Nat)), none] := ((((((((((EnvD.nil.skip).cons (.int _)).skip).skip).skip).cons (.int _)).skip).skip).skip).skip).skip
    have ht : DT (tOf (xCmp cLt (xVar 9) (xVar 5))) [none, none, none, none, none, some (.int (topA T 0 m : Nat)), none, none, none, some (.int (topA T 0 (m.take k) : Nat)), none] _ := DT.cmp DC.lt (DE.var rfl) (DE.var rfl)
    obtain ⟨Λ1, e1, p1⟩ := ht _ Λ E
    have hlt := topA_lt (T := T) hkl
    rw [show decide ((topA T 0 (m.take k) : Int) < (topA T 0 m : Int)) = true by simp; lia] at e1
    have c1 := h.grow p1
    have htop := top_size hf h.met.nodup h.met.keys
    have hpk := pk_len (T := T) (g := plW T m) (at_ := 0) (m := m.take k)
    -- the head of the object
    have hhead : ∀ (j : Nat) (m' : List Int) (z : Nat), (shp T (m.take k) w j m' ++ List.replicate z 0)[topA T 0 (m.take k)]? = some (row.length : Int) := by
      intro j m' z
      have hpk' := pk_len (T := T) (g := plW T m') (at_ := 0) (m := m.take k)
      unfold shp
      rw [List.append_assoc, List.getElem?_append_right (by lia), show topA T 0 (m.take k) - (pk T (plW T m') (m.take k)).length = 0 by lia, hrow]
      rfl
    have hidx : xIdx (xVar 3) (xVar 9) (cvs vm vr size kn kf (topA T 0 m) km wv sv (some (.int (topA T 0 (m.take k) : Nat))) iv) Λ1 = some (.int (row.length : Int), Λ1) := by
      have g1 : xVar 3 (cvs vm vr size kn kf (topA T 0 m) km wv sv (some (.int (topA T 0 (m.take k) : Nat))) iv) Λ1 = some (.ref kn, Λ1) := rfl
      have g2 : xVar 9 (cvs vm vr size kn kf (topA T 0 m) km wv sv (some (.int (topA T 0 (m.take k) : Nat))) iv) Λ1 = some (.int (topA T 0 (m.take k) : Nat), Λ1) := rfl
      simp only [xIdx, g1, g2, Option.bind_eq_bind, Option.bind_some, idxV, c1.new]
      rw [if_pos (by lia)]
      simp only [Int.toNat_natCast, List.getElem?_map, hhead, Option.map_some, Option.bind_some]
    have hrl : row.length ≤ 1000 := by have := (hf.key (look_mem el)).2.2.2; lia
    have hsrc : sRange (xIdx (xVar 3) (xVar 9)) (cvs vm vr size kn kf (topA T 0 m) km wv sv (some (.int (topA T 0 (m.take k) : Nat))) iv) Λ1 = some ((List.range row.length).map fun (i : Nat) => V.int (i : Int), none, Λ1) := by
      simp only [sRange, hidx, Option.bind_eq_bind, Option.bind_some, asInt]
      rw [if_pos (by lia), Int.toNat_natCast]
    obtain ⟨kn2, kf2, wv2, sv2, iv2, Λ2, e2, c2, hs2⟩ := field_loop (vr := vr) (nb := nb) hf hs hM hnb (dn := m.take k) (p := w) (fun u hu => hgood _ (look_mem el) u (by rw [hrow] at hu; exact hu)) row.length 0 m kn kf wv sv iv Λ1 (by rw [hrow]; lia) hpm hsn (fun u hu => by simp at hu) c1
    rw [hrow, List.drop_zero] at e2 c2 hs2
    have hst : (stands none ((List.range row.length).map fun (i : Nat) => V.int (i : Int))) = stands none [] := by funext Λ; rfl
    rw [← List.range_eq_range', ← hst] at e2
    generalize hm' : row.foldl (addK T) m = m' at e2 c2 hs2 ih hrest
    have hpre : m <+: m' := by rw [← hm']; exact adds_pre
    have htk : m'.take (k + 1) = m.take k ++ [w] := by
      obtain ⟨t, rfl⟩ := hpre
      rw [List.take_append_of_le_length (by lia), List.take_succ, e]; rfl
    have hidx2 : xIdx (xVar 3) (xVar 9) (cvs vm vr size kn2 kf2 (topA T 0 m') km wv2 sv2 (some (.int (topA T 0 (m.take k) : Nat))) iv2) Λ2 = some (.int (row.length : Int), Λ2) := by
      have g1 : xVar 3 (cvs vm vr size kn2 kf2 (topA T 0 m') km wv2 sv2 (some (.int (topA T 0 (m.take k) : Nat))) iv2) Λ2 = some (.ref kn2, Λ2) := rfl
      have g2 : xVar 9 (cvs vm vr size kn2 kf2 (topA T 0 m') km wv2 sv2 (some (.int (topA T 0 (m.take k) : Nat))) iv2) Λ2 = some (.int (topA T 0 (m.take k) : Nat), Λ2) := rfl
      simp only [xIdx, g1, g2, Option.bind_eq_bind, Option.bind_some, idxV, c2.new]
      rw [if_pos (by lia)]
      simp only [Int.toNat_natCast, List.getElem?_map, hhead, Option.map_some, Option.bind_some]
    have htop' : topA T 0 (m'.take (k + 1)) = topA T 0 (m.take k) + row.length + 1 := by rw [htk, topA_append]; simp [topA, hrow]
    have hsum : xBin oAdd (xBin oAdd (xVar 9) (xIdx (xVar 3) (xVar 9))) (xInt 1) (cvs vm vr size kn2 kf2 (topA T 0 m') km wv2 sv2 (some (.int (topA T 0 (m.take k) : Nat))) iv2) Λ2 = some (.int (topA T 0 (m'.take (k + 1)) : Nat), Λ2) := by
      have g2 : xVar 9 (cvs vm vr size kn2 kf2 (topA T 0 m') km wv2 sv2 (some (.int (topA T 0 (m.take k) : Nat))) iv2) Λ2 = some (.int (topA T 0 (m.take k) : Nat), Λ2) := rfl
      simp only [xBin, g2, hidx2, xInt, oAdd, Option.bind_eq_bind, Option.bind_some, htop']
      rfl
    have hX' : shp T (m.take k) w row.length m' = pk T (plW T m') (m'.take (k + 1)) ++ raw T (m'.drop (k + 1)) := by
      unfold shp
      rw [hdl, htk, hrow, List.take_length, List.drop_length, List.nil_append]
      simp [pk, hrow]
    rw [hX'] at c2
    rw [← htk] at hs2
    obtain ⟨f, rfl⟩ : ∃ f, fuel = f + 1 := ⟨fuel - 1, by have := hrest.le; have := hrest.pre.length_le; lia⟩
    obtain ⟨kn', kf', wv', sv', scv', iv', Λ', e3, c3⟩ := ih (kn := kn2) (kf := kf2) (wv := wv2) (sv := sv2) (iv := iv2) (Λ := Λ2) (fuel := f) (by lia) hs2 c2
    refine ⟨kn', kf', wv', sv', scv', iv', Λ', ?_, c3⟩
    have hturn : b_copy_scan nb (cvs vm vr size kn kf (topA T 0 m) km wv sv (some (.int (topA T 0 (m.take k) : Nat))) iv) Λ1 = some (.next, cvs vm vr size kn2 kf2 (topA T 0 m') km wv2 sv2 (some (.int (topA T 0 (m'.take (k + 1)) : Nat))) iv2, Λ2) :=
      (run_seq (run_for hsrc e2)).trans ((run_seq (run_assign hsum)).trans rfl)
    simp only [whileGo, e1, hturn, Option.bind_eq_bind, Option.bind_some, if_true]
    exact e3

/-- what packing gives -/
noncomputable abbrev packD (T : Tab) (r ws : List Int) (size : Nat) : D := .tup [.ints (pk T (plW T r) r ++ gapI (size - topA T 0 r)), .ints (ws.map (plW T r))]
theorem k_copying {T : Tab} {size : Nat} {ws r : List Int} (hf : Fit 0 T size) (hs : size ≤ 1000) (hgood : ∀ e ∈ T, ∀ u ∈ e.2, GoodW' T u ∧ 0 ≤ u) (hws : ∀ w ∈ ws, GoodW' T w ∧ 0 ≤ w) (hwl : ws.length ≤ 100) (hord : Ord T ws [] r) (hrl : r.length ≤ 900) :
    DF f_copying [.ints (rend 0 T size), .ints ws] (packD T r ws size) := by
  intro args Λ0 hd
  have hb : big = 100000 := rfl
  have hlen := rend_len hf
  cases hd with
  | @cons vm _ _ _ hM hd => cases hd with
    | @cons vr _ _ _ hR hd =>
      cases hd
      have E0 : EnvD [some vm, some vr, none, none, none, none, none, none, none, none, none] Λ0 [some (.ints (rend 0 T size)), some (.ints ws), none, none, none, none, none, none, none, none, none] := ((EnvD.nones 9).cons hR).cons hM
      obtain ⟨v1, Λ1, e1, p1, r1⟩ := (DE.leni (a := xVar 0) (l := rend 0 T size) (DE.var rfl) (by lia)) _ Λ0 E0
      obtain rfl := r1.intOf
      rw [show (rend 0 T size).length = size by lia] at e1
      have E1 := (E0.mono p1).set (i := 2) (Den.int (Λ := Λ1) (size : Int))
      obtain ⟨kn, Λ2, e2, hk2, p2, q2⟩ := (DEf.rep (a := xList [xInt 0]) (b := xVar 2) (x := 0) (n := size) (DE.list (DEs.cons (DE.int 0) DEs.nil)) (DE.var rfl) (by lia)) _ Λ1 E1
      have E2 := (E1.mono p2).set (i := 3) (Den.ofInts q2)
      obtain ⟨kf, Λ3, e3, hk3, p3, q3⟩ := (DEf.rep (a := xList [xNeg (xInt 1)]) (b := xVar 2) (x := -1) (n := size) (DE.list (DEs.cons (DE.neg (DE.int 1)) DEs.nil)) (DE.var rfl) (by lia)) _ Λ2 E2
      have E3 := ((E2.mono p3).set (i := 4) (Den.ofInts q3)).set (i := 5) (Den.int (Λ := Λ3) 0)
      obtain ⟨km, Λ4, e4, hk4, p4, q4⟩ := DEf.nil _ Λ3 E3
      have l2 := lt_of_at q2
      have l3 := lt_of_at q3
      have hkn := p1.length_le
      have c0 : CS T size Λ0 Λ4 kn kf km [] (raw T []) ([].map (plW T [])) := by
        refine ⟨ptr p1 (ptr p2 (ptr p3 p4)), ?_, ?_, q4, rfl, Met.nil, by lia, by have := (ptr p1 (ptr p2 p3)).length_le; lia, by have := p3.length_le; lia, by lia, by lia⟩
        · have := pre_at (ptr p3 p4) q2
          simpa [raw, topA] using this
        · rw [fwdL_nil]; exact pre_at p4 q3
      obtain ⟨kr, rfl, hkr⟩ := hR.intsOf
      obtain ⟨kn5, kf5, wv5, sv5, Λ5, e5, c5⟩ := root_loop (vr := .ref kr) (nb := Λ0.length) (ok := stands (some kr) (ws.map .int)) (fun Λ h => by simp [stands, pre_at h hkr]) hf hs hM (Nat.le_refl _) ws [] [] kn kf none none Λ4 c0 hws (fun w h => nomatch h) (by simp; lia)
      have hR' := hord.rch
      simp only [List.length_nil, List.nil_append] at hR' c5
      generalize hm5 : ws.foldl (addK T) [] = m5 at e5 c5 hR'
      obtain ⟨kn6, kf6, wv6, sv6, scv6, iv6, Λ6, e6, c6⟩ := scan_while (vr := .ref kr) (nb := Λ0.length) hf hs hM (Nat.le_refl _) hgood hR' (kn := kn5) (kf := kf5) (wv := wv5) (sv := sv5) (iv := none) (Λ := Λ5) (fuel := 1000) (by lia) (fun q hq => by simp at hq) (by simpa [pk] using c5)
      have hmvs : ws.map (plW T m5) = ws.map (plW T r) := List.map_congr_left fun w hw => by
        refine (plW_pre hR'.pre ?_).symm
        by_cases hk : (T.lookup w).isSome = true
        · left
          have : Seen T m5 w := by
            rw [← hm5]
            have gen : ∀ (q m : List Int), w ∈ q → Seen T (q.foldl (addK T) m) w := by
              intro q
              induction q with
              | nil => intro m h; cases h
              | cons x q ih =>
                intro m h
                rw [List.foldl_cons]
                by_cases hx : w ∈ q
                · exact ih _ hx
                · rcases List.mem_cons.mp h with rfl | h
                  · exact (Seen.self (T := T) (m := m) (w := w)).imp (fun y => adds_pre.subset y) id
                  · exact absurd h hx
            exact gen ws [] hw
          exact this.resolve_right fun h => h hk
        · right; intro x; exact hk (hord.keys (fun _ h => nomatch h) w x)
      rw [hmvs] at c6
      have hXl : (pk T (plW T r) r).length = topA T 0 r := by have := pk_len (T := T) (g := plW T r) (at_ := 0) (m := r); lia
      have htop := top_size hf c6.met.nodup c6.met.keys
      -- the gap at the end
      have E6 : EnvD (cvs vm (.ref kr) size kn6 kf6 (topA T 0 r) km wv6 sv6 scv6 iv6) Λ6 [none, none, some (.int size), none, none, some (.int (topA T 0 r : Nat)), none, none, none, none, none] := (((((((((((EnvD.nones 0).skip).skip).skip).skip).skip).cons (.int _)).skip).skip).cons (.int _)).skip).skip
      have ht : DT (tOf (xCmp cLt (xVar 5) (xVar 2))) [none, none, some (.int size), none, none, some (.int (topA T 0 r : Nat)), none, none, none, none, none] _ := DT.cmp DC.lt (DE.var rfl) (DE.var rfl)
      obtain ⟨Λ7, e7, p7⟩ := ht _ Λ6 E6
      have c7 := c6.grow p7
      have hend : ∃ Λ8, sIf (tOf (xCmp cLt (xVar 5) (xVar 2))) (sSeq (sSetIdx 3 (xVar 5) (xBin oSub (xVar 5) (xVar 2))) sPass) sPass Λ0.length (cvs vm (.ref kr) size kn6 kf6 (topA T 0 r) km wv6 sv6 scv6 iv6) Λ6 = some (.next, cvs vm (.ref kr) size kn6 kf6 (topA T 0 r) km wv6 sv6 scv6 iv6, Λ8) ∧ Λ0 <+: Λ8 ∧
          Λ8[kn6]? = some (.list ((pk T (plW T r) r ++ gapI (size - topA T 0 r)).map .int)) ∧ Λ8[km]? = some (.list ((ws.map (plW T r)).map .int)) := by
        by_cases hlt : topA T 0 r < size
        · rw [show decide ((topA T 0 r : Int) < (size : Int)) = true by simp; lia] at e7
          have hsub : xBin oSub (xVar 5) (xVar 2) (cvs vm (.ref kr) size kn6 kf6 (topA T 0 r) km wv6 sv6 scv6 iv6) Λ7 = some (.int ((topA T 0 r : Int) - size), Λ7) := rfl
          have hset := run_set (nb := Λ0.length) (i := 3) (k := kn6) (n := topA T 0 r) (ix := xVar 5) (vs := cvs vm (.ref kr) size kn6 kf6 (topA T 0 r) km wv6 sv6 scv6 iv6) (Λ2 := Λ7) hsub rfl rfl c7.new (by simp; lia) (by lia) c7.bn
          refine ⟨_, (run_if e7).trans ((if_pos rfl).trans ((run_seq hset).trans rfl)), (Ext.set (k := kn6)).keep c7.pre c7.bn, ?_, Ext.set _ _ (Ne.symm c7.nm) c7.mov⟩
          rw [set_self c7.new, ← List.map_set, List.set_append_right _ _ (by lia), hXl, Nat.sub_self]
          congr 4
          obtain ⟨d, hd⟩ : ∃ d, size - topA T 0 r = d + 1 := ⟨size - topA T 0 r - 1, by lia⟩
          rw [hd]
          simp only [gapI, List.replicate_succ, List.set_cons_zero]
          congr 1; lia
        · rw [show decide ((topA T 0 r : Int) < (size : Int)) = false by simp; lia] at e7
          refine ⟨Λ7, (run_if e7).trans ((if_neg (by simp)).trans rfl), c7.pre, ?_, c7.mov⟩
          have := c7.new
          rw [show size - topA T 0 r = 0 by lia] at this ⊢
          exact this
      obtain ⟨Λ8, e8, h08, q8, m8⟩ := hend
      refine ⟨.ref Λ8.length, Λ8 ++ [.tup [.ref kn6, .ref km]], def_run (vs' := cvs vm (.ref kr) size kn6 kf6 (topA T 0 r) km wv6 sv6 scv6 iv6) rfl ?_, ptr h08 (List.prefix_append _ _), .tup last_at (.cons (.ofInts (pre_at (List.prefix_append _ _) q8)) (.cons (.ofInts (pre_at (List.prefix_append _ _) m8)) .nil))⟩
      have hsrc : sList (xVar 1) (cvs vm (.ref kr) size kn kf 0 km none none none none) Λ4 = some (ws.map .int, some kr, Λ4) := by
        have g1 : xVar 1 (cvs vm (.ref kr) size kn kf 0 km none none none none) Λ4 = some (.ref kr, Λ4) := rfl
        simp only [sList, g1, Option.bind_eq_bind, Option.bind_some, asList, pre_at c0.pre hkr]
        rw [if_pos (by simp; lia)]
      exact (run_seq (run_assign e1)).trans ((run_seq (run_assign e2)).trans ((run_seq (run_assign e3)).trans ((run_seq (run_assign (i := 5) (e := xInt 0) (v := .int 0) rfl)).trans ((run_seq (run_assign e4)).trans ((run_seq (run_for hsrc e5)).trans ((run_seq (run_assign (i := 9) (e := xInt 0) (v := .int 0) rfl)).trans
        ((run_seq (a := sWhile 1000 (tOf (xCmp cLt (xVar 9) (xVar 5))) b_copy_scan) e6).trans ((run_seq e8).trans (run_ret (tup_run (xs := [.ref kn6, .ref km]) rfl (by simp [big])))))))))))
end Mine

/-! ## part B13 -/
set_option maxRecDepth 20000
set_option linter.unusedVariables false
namespace Mine

/-! packing, the plain way -/
noncomputable def TP (Λ : Led) (kb : Nat) : List V → List (Int × Int) → Prop
  | [], [] => True
  | x :: xs, b :: bs => (∃ t, x = .ref t ∧ t ≠ kb ∧ Λ[t]? = some (.tup [.int b.1, .int b.2])) ∧ TP Λ kb xs bs
  | _, _ => False
theorem TP.ext {Λ Λ' : Led} {kb : Nat} (h : Ext kb Λ Λ') : ∀ {xs : List V} {bs : List (Int × Int)}, TP Λ kb xs bs → TP Λ' kb xs bs
  | [], [], _ => trivial
  | x :: xs, b :: bs, ⟨⟨t, e, ne, q⟩, r⟩ => ⟨⟨t, e, ne, h t _ ne q⟩, TP.ext h r⟩
  | [], _ :: _, h => h.elim
  | _ :: _, [], h => h.elim
theorem TP.append {Λ : Led} {kb : Nat} : ∀ {xs ys : List V} {bs cs : List (Int × Int)}, TP Λ kb xs bs → TP Λ kb ys cs → TP Λ kb (xs ++ ys) (bs ++ cs)
  | [], _, [], _, _, h => h
  | x :: xs, _, b :: bs, _, ⟨a, r⟩, h => ⟨a, TP.append r h⟩
  | [], _, _ :: _, _, h, _ => h.elim
  | _ :: _, _, [], _, h, _ => h.elim
theorem TP.dens {Λ : Led} {kb : Nat} : ∀ {xs : List V} {bs : List (Int × Int)}, TP Λ kb xs bs → Dens Λ xs ((bs.map fun e => (e.1, D.int e.2)).map D.pair)
  | [], [], _ => .nil
  | x :: xs, b :: bs, ⟨⟨t, e, ne, q⟩, r⟩ => by subst e; exact .cons (.tup q (.cons (.int _) (.cons (.int _) .nil))) (TP.dens r)
  | [], _ :: _, h => h.elim
  | _ :: _, [], h => h.elim
theorem TP.len {Λ : Led} {kb : Nat} {xs : List V} {bs : List (Int × Int)} (h : TP Λ kb xs bs) : xs.length = bs.length := by have := h.dens.length; simpa using this

noncomputable def b_pairs_body : Stm := sSeq (sAppend 4 (xTup [xVar 6, xBin oAdd (xBin oMul (xInt 2) (xVar 5)) (xInt 1)]))
    (sSeq (sAssign 5 (xBin oAdd (xBin oAdd (xVar 5) (xLen (xIdx (xVar 0) (xVar 6)))) (xInt 1))) sPass)
theorem pairs_loop {T : Tab} {size nb kp ko : Nat} {vt vr : V} {Λb : Led} {ok : Led → Bool} (hok : ∀ Λ, Λb <+: Λ → ok Λ = true) (hT : Den Λb vt (.tab T)) (hr : ∀ e ∈ T, e.2.length ≤ 100) (hnb : nb ≤ kp) (hbk : Λb.length ≤ kp) :
    ∀ (q dn : List Int) (xs : List V) (pv : Option V) (Λ : Led), (∀ p ∈ q, (T.lookup p).isSome = true) → dn.length + q.length ≤ 1000 → Λb <+: Λ → Λ[kp]? = some (.list xs) → TP Λ kp xs (plc T 0 dn) →
      ∃ (xs' : List V) (pv' : Option V) (Λ' : Led), forGo ok (aName 6) b_pairs_body nb (q.map .int) [some vt, some vr, some (.int size), some (.ref ko), some (.ref kp), some (.int (topA T 0 dn : Nat)), pv, none, none] Λ = some (.next, [some vt, some vr, some (.int size), some (.ref ko), some (.ref kp), some (.int (topA T 0 (dn ++ q) : Nat)), pv', none, none], Λ') ∧ Λb <+: Λ' ∧
        Λ'[kp]? = some (.list xs') ∧ TP Λ' kp xs' (plc T 0 (dn ++ q))
  | [], dn, xs, pv, Λ, hk, hl, h0, hx, ht => ⟨xs, pv, Λ, by simp [forGo, hok Λ h0], h0, hx, by simpa using ht⟩
  | p :: q, dn, xs, pv, Λ, hk, hl, h0, hx, ht => by
    have hb : big = 100000 := rfl
    simp only [List.length_cons] at hl
    obtain ⟨row, hrow⟩ := Option.isSome_iff_exists.mp (hk p (.head _))
    have hrw : rowOf T p = row := by simp [rowOf, hrow]
    have hrb := row_bound hr hrow
    have E : EnvD [some vt, some vr, some (.int size), some (.ref ko), some (.ref kp), some (.int (topA T 0 dn : Nat)), some (.int p), none, none] Λ [some (.tab T), none, none, none, none, some (.int (topA T 0 dn : Nat)), some (.int p), none, none] := (((((((EnvD.nones 2).cons (.int p)).cons (.int _)).skip).skip).skip).skip).cons (hT.mono h0)
    obtain ⟨v1, Λ1, e1, p1, r1⟩ := (DE.tup (es := [xVar 6, xBin oAdd (xBin oMul (xInt 2) (xVar 5)) (xInt 1)]) (ds := [some (.tab T), none, none, none, none, some (.int (topA T 0 dn : Nat)), some (.int p), none, none]) (DEs.cons (DE.var rfl) (DEs.cons (DE.bin DO.add (DE.bin DO.mul (DE.int 2) (DE.var rfl)) (DE.int 1)) DEs.nil))) _ Λ E
    obtain ⟨kt, ys, rfl, q1, r1⟩ := r1.tupOf
    have hys : ys = [.int p, .int (2 * (topA T 0 dn : Int) + 1)] := by
      cases r1 with | cons a b => cases b with | cons b c => cases c; obtain rfl := a.intOf; obtain rfl := b.intOf; rfl
    subst hys
    have hx1 := pre_at p1 hx
    have hne : kt ≠ kp := by rintro rfl; rw [hx1] at q1; cases q1
    have hap := run_append (nb := nb) (i := 4) (k := kp) (vs := [some vt, some vr, some (.int size), some (.ref ko), some (.ref kp), some (.int (topA T 0 dn : Nat)), some (.int p), none, none]) rfl hx e1 p1 hnb (by have := ht.len; rw [plc_len] at this; lia)
    have x2 : Ext kp Λ (Λ1.set kp (.list (xs ++ [.ref kt]))) := (Ext.pre p1).trans Ext.set
    have h02 := x2.keep h0 hbk
    have ht2 : TP (Λ1.set kp (.list (xs ++ [.ref kt]))) kp (xs ++ [.ref kt]) (plc T 0 (dn ++ [p])) := by
      rw [plc_append]
      refine TP.append (ht.ext x2) ⟨⟨kt, rfl, hne, ?_⟩, trivial⟩
      rw [List.getElem?_set_ne (Ne.symm hne), q1]
    have E2 : EnvD [some vt, some vr, some (.int size), some (.ref ko), some (.ref kp), some (.int (topA T 0 dn : Nat)), some (.int p), none, none] (Λ1.set kp (.list (xs ++ [.ref kt]))) [some (.tab T), none, none, none, none, some (.int (topA T 0 dn : Nat)), some (.int p), none, none] := (((((((EnvD.nones 2).cons (.int p)).cons (.int _)).skip).skip).skip).skip).cons (hT.mono h02)
    have etop : topA T 0 (dn ++ [p]) = topA T 0 dn + row.length + 1 := by rw [topA_append]; simp [topA, hrw]
    obtain ⟨v3, Λ3, e3, p3, r3⟩ := ((DE.bin DO.add (DE.bin DO.add (DE.var (ds := [some (.tab T), none, none, none, none, some (.int (topA T 0 dn : Nat)), some (.int p), none, none]) (i := 5) (d := .int (topA T 0 dn : Nat)) rfl) (DE.leni (a := xIdx (xVar 0) (xVar 6)) (l := row) (DE.row (DE.var rfl) (DE.var rfl) hrow) (by lia))) (DE.int 1)).as (d' := .int (topA T 0 (dn ++ [p]) : Nat)) (by rw [etop]; congr 1)) _ _ E2
    obtain rfl := r3.intOf
    obtain ⟨xs', pv', Λ', e4, h04, q4, t4⟩ := pairs_loop (size := size) (ko := ko) (vr := vr) hok hT hr hnb hbk q (dn ++ [p]) (xs ++ [.ref kt]) (some (.int p)) Λ3 (fun u hu => hk u (.tail _ hu)) (by simp; lia) (ptr h02 p3) (pre_at p3 (set_self hx1)) (ht2.ext (Ext.pre p3))
    refine ⟨xs', pv', Λ', ?_, h04, q4, by simpa using t4⟩
    have ha : aName 6 (.int p) [some vt, some vr, some (.int size), some (.ref ko), some (.ref kp), some (.int (topA T 0 dn : Nat)), pv, none, none] Λ = some [some vt, some vr, some (.int size), some (.ref ko), some (.ref kp), some (.int (topA T 0 dn : Nat)), some (.int p), none, none] := rfl
    have hbody : b_pairs_body nb [some vt, some vr, some (.int size), some (.ref ko), some (.ref kp), some (.int (topA T 0 dn : Nat)), some (.int p), none, none] Λ = some (.next, [some vt, some vr, some (.int size), some (.ref ko), some (.ref kp), some (.int (topA T 0 (dn ++ [p]) : Nat)), some (.int p), none, none], Λ3) :=
      (run_seq hap).trans ((run_seq (run_assign e3)).trans rfl)
    simp only [List.map_cons, forGo, hok Λ h0, if_true, ha, hbody, e4, Option.bind_eq_bind, Option.bind_some]
    simp

noncomputable abbrev plcD (T : Tab) (r : List Int) : List (Int × D) := (plc T 0 r).map fun e => (e.1, D.int e.2)
theorem plcD_look {T : Tab} {r : List Int} {w : Int} : ((plcD T r).lookup w).getD (.int w) = .int (plW T r w) := by
  have : ∀ l : List (Int × Int), ((l.map fun e => (e.1, D.int e.2)).lookup w) = (l.lookup w).map .int := by
    intro l
    induction l with
    | nil => rfl
    | cons e l ih =>
      obtain ⟨p, v⟩ := e
      rw [List.map_cons, List.lookup_cons, List.lookup_cons, ih]
      cases w == p <;> rfl
  rw [this]
  unfold plW
  cases (plc T 0 r).lookup w <;> rfl
noncomputable def plD (T : Tab) (r : List Int) : D → D
  | .int w => .int (plW T r w)
  | d => d
theorem placed {T : Tab} {r ws : List Int} {ds : DV} {src : Ex} (h7 : gd ds 7 = some (.dict (plcD T r))) (hs : DE src ds (.ints ws)) (hl : ws.length ≤ 1000) : DE (xPlaced src) ds (.ints (ws.map (plW T r))) := by
  have hb : big = 100000 := rfl
  refine (DE.compT (h := plD T r) (DSr.list hs (by simp; lia)) (by simp; lia) fun d hd => ?_).as ?_
  · obtain ⟨w, _, rfl⟩ := List.mem_map.mp hd
    exact (DE.get (DE.var (by rw [show [7].map (gd ds) = [gd ds 7] from rfl, h7]; rfl)) (DE.var rfl) (DE.var rfl)).as plcD_look
  · rw [List.map_map, D.ints, List.map_map]; rfl
theorem pack_loop {T : Tab} {r ws : List Int} {size top : Nat} {kp : D} (hr : ∀ e ∈ T, e.2.length ≤ 100) : ∀ (q : List Int) (mem : List Int) (pv : Option D), (∀ p ∈ q, (T.lookup p).isSome = true) → mem.length + 101 * q.length ≤ 90000 →
    ∃ pv', FD (aName 6) (sSeq (sAssign 8 (xBin oAdd (xBin oAdd (xVar 8) (xList [xLen (xIdx (xVar 0) (xVar 6))])) (xPlaced (xIdx (xVar 0) (xVar 6))))) sPass) (q.map .int)
      [some (.tab T), some (.ints ws), some (.int size), some (.ints r), some kp, some (.int top), pv, some (.dict (plcD T r)), some (.ints mem)] [some (.tab T), some (.ints ws), some (.int size), some (.ints r), some kp, some (.int top), pv', some (.dict (plcD T r)), some (.ints (mem ++ pk T (plW T r) q))]
  | [], mem, pv, hk, hl => ⟨pv, by simpa [pk] using FD.nil⟩
  | p :: q, mem, pv, hk, hl => by
    have hb : big = 100000 := rfl
    simp only [List.length_cons] at hl
    obtain ⟨row, hrow⟩ := Option.isSome_iff_exists.mp (hk p (.head _))
    have hrw : rowOf T p = row := by simp [rowOf, hrow]
    have hrb := row_bound hr hrow
    obtain ⟨pv', h⟩ := pack_loop (kp := kp) (ws := ws) (r := r) (size := size) (top := top) hr q (mem ++ [(row.length : Int)] ++ row.map (plW T r)) (some (.int p)) (fun u hu => hk u (.tail _ hu)) (by simp; lia)
    refine ⟨pv', ?_⟩
    have e : mem ++ pk T (plW T r) (p :: q) = mem ++ [(row.length : Int)] ++ row.map (plW T r) ++ pk T (plW T r) q := by simp [pk, hrw]
    rw [e]
    refine FD.cons DA.name (DS.seq (DS.assign (DE.bin (DO.cati (by simp; lia)) (DE.bin (DO.cati (by simp; lia)) (DE.var rfl) (DE.list (DEs.cons (DE.leni (DE.row (DE.var rfl) (DE.var rfl) hrow) (by lia)) DEs.nil))) (placed rfl (DE.row (DE.var rfl) (DE.var rfl) hrow) (by lia)))) DS.pass) h
theorem k_packed {T : Tab} {size : Nat} {ws r : List Int} (hr : ∀ e ∈ T, e.2.length ≤ 100) (hws : ws.length ≤ 100) (hs : size ≤ 1000) (hord : ordN T 12 ws [] = r) (hm : Met T r) (hrl : r.length ≤ 800) (htop : topA T 0 r ≤ size) :
    DF f_packed [.tab T, .ints ws, .int size] (packD T r ws size) := by
  intro args Λ0 hd
  have hb : big = 100000 := rfl
  cases hd with
  | @cons vt _ _ _ hT hd => cases hd with
    | @cons vr _ _ _ hR hd => cases hd with
      | @cons vz _ _ _ hZ hd =>
        cases hd; obtain rfl := hZ.intOf
        have E0 : EnvD [some vt, some vr, some (.int size), none, none, none, none, none, none] Λ0 [some (.tab T), some (.ints ws), some (.int size), none, none, none, none, none, none] := (((EnvD.nones 6).cons (.int _)).cons hR).cons hT
        obtain ⟨ko, Λ1, e1, hk1, p1, q1⟩ := (DEf.call (k_order hr hws) (DEs.cons (DE.var (i := 0) rfl) (DEs.cons (DE.var (i := 1) rfl) DEs.nil))) _ Λ0 E0
        rw [hord] at q1
        have E1 := (E0.mono p1).set (i := 3) (Den.ofInts q1)
        obtain ⟨kp, Λ2, e2, hk2, p2, q2⟩ := DEf.nil _ Λ1 E1
        have hT1 := hT.mono p1
        obtain ⟨xs', pv', Λ3, e3, h03, q3, t3⟩ := pairs_loop (size := size) (ko := ko) (vr := vr) (nb := Λ0.length) (ok := stands (some ko) (r.map .int)) (Λb := Λ1) (fun Λ h => by simp [stands, pre_at h q1]) hT1 hr (Nat.le_trans p1.length_le hk2) hk2 r [] [] none Λ2 hm.keys (by simp; lia) p2 q2 trivial
        simp only [List.nil_append] at e3 t3
        have p03 := ptr p1 h03
        have q13 := pre_at h03 q1
        have E3 : EnvD [some vt, some vr, some (.int size), some (.ref ko), some (.ref kp), some (.int (topA T 0 r : Nat)), pv', none, none] Λ3 [some (.tab T), some (.ints ws), some (.int size), some (.ints r), some (.list ((plcD T r).map D.pair)), some (.int (topA T 0 r : Nat)), none, none, none] :=
          ((((((EnvD.nones 2).skip).cons (.int _)).cons (.list q3 t3.dens)).cons (.ofInts q13)).cons (.int _)).cons (hR.mono p03) |>.cons (hT.mono p03)
        have hpl : (plcD T r).length = r.length := by rw [List.length_map, plc_len]
        have hpn : (plcD T r).foldl (fun d p => putDD p.1 p.2 d) [] = plcD T r := by
          have := puts_new (l := plcD T r) (acc := []) (by
            rw [List.map_map]
            have e : (plc T 0 r).map ((·.1) ∘ fun e : Int × Int => (e.1, D.int e.2)) = r := plc_keys
            rw [e]; simpa using hm.nodup)
          simpa using this
        obtain ⟨pv2, hloop⟩ := pack_loop (kp := .list ((plcD T r).map D.pair)) (ws := ws) (r := r) (size := size) (top := topA T 0 r) hr r [] none hm.keys (by simp; lia)
        have hrest : DS (sSeq (sAssign 7 (xDictOf (xVar 4))) (sSeq (sAssign 8 (xList [])) (sSeq (sFor (sList (xVar 3)) (aName 6) (sSeq (sAssign 8 (xBin oAdd (xBin oAdd (xVar 8) (xList [xLen (xIdx (xVar 0) (xVar 6))])) (xPlaced (xIdx (xVar 0) (xVar 6))))) sPass))
            (sSeq (sRet (xTup [xBin oAdd (xVar 8) (xCall f_gap [xBin oSub (xVar 2) (xVar 5)]), xPlaced (xVar 1)])) sPass))))
            [some (.tab T), some (.ints ws), some (.int size), some (.ints r), some (.list ((plcD T r).map D.pair)), some (.int (topA T 0 r : Nat)), none, none, none] (.ret (packD T r ws size)) _ :=
          DS.seq (DS.assign ((DE.dictOf (l := plcD T r) (DE.var rfl) (by lia)).as (by rw [hpn]))) (DS.seq (DS.assign (DE.list (l := []) DEs.nil)) (DS.seq (DS.for_ (DSr.list (DE.var rfl) (by simp; lia)) hloop) (DS.seqR (DS.ret (DE.tup (DEs.cons
            (DE.bin (DO.cati (by rw [gapI_len]; have := pk_len (T := T) (g := plW T r) (at_ := 0) (m := r); simp; lia)) (DE.var rfl) (DE.call (l := [.int ((size - topA T 0 r : Nat) : Int)]) ((k_gap (by lia) (by lia)).as (by simp)) (DEs.cons ((DE.bin DO.sub (DE.var rfl) (DE.var rfl)).as (by congr 1; lia)) DEs.nil)))
            (DEs.cons (placed rfl (DE.var rfl) (by lia)) DEs.nil)))))))
        obtain ⟨fl, vs', Λ', e4, p4, E4, r4⟩ := hrest Λ0.length _ Λ3 E3
        cases fl with
        | next => exact r4.elim
        | ret v =>
          have hsrc : sList (xVar 3) [some vt, some vr, some (.int size), some (.ref ko), some (.ref kp), some (.int 0), none, none, none] Λ2 = some (r.map .int, some ko, Λ2) := by
            have g1 : xVar 3 [some vt, some vr, some (.int size), some (.ref ko), some (.ref kp), some (.int 0), none, none, none] Λ2 = some (.ref ko, Λ2) := rfl
            simp only [sList, g1, Option.bind_eq_bind, Option.bind_some, asList, pre_at p2 q1]
            rw [if_pos (by simp; lia)]
          refine ⟨v, Λ', def_run (vs' := vs') rfl ?_, ptr p03 p4, r4⟩
          exact (run_seq (run_assign e1)).trans ((run_seq (run_assign e2)).trans ((run_seq (run_assign (i := 5) (e := xInt 0) (v := .int 0) rfl)).trans ((run_seq (run_for hsrc e3)).trans e4)))

/-! heads -/
noncomputable def hst (ss gs : List Int) : Nat → List Int × Int
  | 0 => ([], 0)
  | i + 1 => ((hst ss gs i).1 ++ [(hst ss gs i).2 + gs[i]?.getD 0], (hst ss gs i).2 + gs[i]?.getD 0 + ss[i]?.getD 0 + 1)
noncomputable def headsP (ss gs : List Int) : List Int := (hst ss gs 4).1 ++ [(hst ss gs 4).2 + gs[4]?.getD 0]
theorem hst_len (ss gs : List Int) : ∀ i, (hst ss gs i).1.length = i
  | 0 => rfl
  | i + 1 => by simp [hst, hst_len ss gs i]
noncomputable def b_heads_body : Stm := sSeq (sAppend 2 (xBin oAdd (xVar 3) (xIdx (xVar 1) (xVar 4)))) (sSeq (sAssign 3 (xBin oAdd (xBin oAdd (xBin oAdd (xVar 3) (xIdx (xVar 1) (xVar 4))) (xIdx (xVar 0) (xVar 4))) (xInt 1))) sPass)
theorem DE.idxti {a i : Ex} {ds : DV} {l : List Int} {n : Nat} {x : Int} (h : DE a ds (.tup (l.map .int))) (hi : DE i ds (.int n)) (hx : l[n]? = some x) (hb : n < 100000) : DE (xIdx a i) ds (.int x) :=
  DE.idxT h hi ⟨by lia, by lia⟩ (by simp [hx])
theorem k_heads {ss gs : List Int} (hs : ss.length = 4) (hg : gs.length = 5) : DF f_heads [.ints ss, .tup (gs.map .int)] (.ints (headsP ss gs)) := by
  intro args Λ0 hd
  have hb : big = 100000 := rfl
  cases hd with
  | @cons vs_ _ _ _ hS hd => cases hd with
    | @cons vg _ _ _ hG hd =>
      cases hd
      have E0 : EnvD [some vs_, some vg, none, none, none] Λ0 [some (.ints ss), some (.tup (gs.map .int)), none, none, none] := ((EnvD.nones 3).cons hG).cons hS
      obtain ⟨km, Λ1, e1, hk1, p1, q1⟩ := DEf.nil _ Λ0 E0
      have loop := for_run (ok := stands none ((List.range 4).map fun (i : Nat) => V.int (i : Int))) (asg := aName 4) (nb := Λ0.length) (a := b_heads_body) (items := (List.range 4).map fun (i : Nat) => V.int (i : Int)) (vs := [some vs_, some vg, some (.ref km), some (.int 0), none]) (Λ := Λ1)
        (fun done vs Λ => ∃ (iv : Option V), vs = [some vs_, some vg, some (.ref km), some (.int (hst ss gs done.length).2), iv] ∧ Λ0 <+: Λ ∧ Λ[km]? = some (.list ((hst ss gs done.length).1.map .int)))
        (fun done v rest vs Λ hi hP => by
          obtain ⟨iv, rfl, h0, h1⟩ := hP
          obtain ⟨rfl, hlt⟩ := range_items (j := 0) hi
          generalize hat : (hst ss gs done.length).2 = at_ at h1 ⊢
          have hgx : gs[done.length]? = some (gs[done.length]?.getD 0) := by rw [List.getElem?_eq_getElem (by lia)]; rfl
          have hsx : ss[done.length]? = some (ss[done.length]?.getD 0) := by rw [List.getElem?_eq_getElem (by lia)]; rfl
          have E : ∀ Λ, Λ0 <+: Λ → EnvD [some vs_, some vg, some (.ref km), some (.int at_), some (.int done.length)] Λ [some (.ints ss), some (.tup (gs.map .int)), none, some (.int at_), some (.int done.length)] := fun Λ h => ((((EnvD.nil.cons (.int _)).cons (.int _)).skip).cons (hG.mono h)).cons (hS.mono h)
          obtain ⟨v2, Λ2, e2, p2, r2⟩ := (DE.bin DO.add (DE.var (ds := [some (.ints ss), some (.tup (gs.map .int)), none, some (.int at_), some (.int done.length)]) (i := 3) rfl) (DE.idxti (a := xVar 1) (i := xVar 4) (DE.var rfl) (DE.var rfl) hgx (by lia))) _ Λ (E Λ h0)
          obtain rfl := r2.intOf
          have hap := run_append (nb := Λ0.length) (i := 2) (k := km) (vs := [some vs_, some vg, some (.ref km), some (.int at_), some (.int done.length)]) rfl h1 e2 p2 hk1 (by rw [List.length_map, hst_len]; lia)
          have h03 := ((Ext.pre (k := km) p2).trans (Ext.set (o := .list ((hst ss gs done.length).1.map V.int ++ [.int (at_ + gs[done.length]?.getD 0)])))).keep h0 hk1
          obtain ⟨v4, Λ4, e4, p4, r4⟩ := (DE.bin DO.add (DE.bin DO.add (DE.bin DO.add (DE.var (ds := [some (.ints ss), some (.tup (gs.map .int)), none, some (.int at_), some (.int done.length)]) (i := 3) rfl) (DE.idxti (a := xVar 1) (i := xVar 4) (DE.var rfl) (DE.var rfl) hgx (by lia))) (DE.idxi (a := xVar 0) (i := xVar 4) (DE.var rfl) (DE.var rfl) hsx (by lia))) (DE.int 1)) _ _ (E _ h03)
          obtain rfl := r4.intOf
          refine ⟨rfl, [some vs_, some vg, some (.ref km), some (.int at_), some (.int done.length)], [some vs_, some vg, some (.ref km), some (.int (at_ + gs[done.length]?.getD 0 + ss[done.length]?.getD 0 + 1)), some (.int done.length)], Λ4, rfl, (run_seq hap).trans ((run_seq (run_assign e4)).trans rfl), some (.int done.length), ?_, ptr h03 p4, ?_⟩
          · simp [hst, hat]
          · rw [pre_at p4 (set_self (pre_at p2 h1))]; simp [hst, hat])
        (fun vs Λ _ => rfl)
        ⟨none, rfl, p1, q1⟩
      obtain ⟨vs', Λ', ef, iv, rfl, h0, h1⟩ := loop
      simp only [List.length_map, List.length_range] at h1
      have hgx : gs[4]? = some (gs[4]?.getD 0) := by rw [List.getElem?_eq_getElem (by lia)]; rfl
      have E : EnvD [some vs_, some vg, some (.ref km), some (.int (hst ss gs 4).2), iv] Λ' [some (.ints ss), some (.tup (gs.map .int)), some (.ints (hst ss gs 4).1), some (.int (hst ss gs 4).2), none] := ((((EnvD.nil.skip).cons (.int _)).cons (.ofInts h1)).cons (hG.mono h0)).cons (hS.mono h0)
      have hl := hst_len ss gs 4
      obtain ⟨v5, Λ5, e5, p5, r5⟩ := (DE.bin (DO.cati (a := (hst ss gs 4).1) (b := [(hst ss gs 4).2 + gs[4]?.getD 0]) (by simp [hl, big])) (DE.var (ds := [some (.ints ss), some (.tup (gs.map .int)), some (.ints (hst ss gs 4).1), some (.int (hst ss gs 4).2), none]) (i := 2) rfl) (DE.list (es := [xBin oAdd (xVar 3) (xIdx (xVar 1) (xInt 4))]) (DEs.cons (DE.bin DO.add (DE.var rfl) (DE.idxti (n := 4) (DE.var rfl) (DE.int 4) hgx (by lia))) DEs.nil))) _ Λ' E
      refine ⟨v5, Λ5, def_run (vs' := [some vs_, some vg, some (.ref km), some (.int (hst ss gs 4).2), iv]) rfl ?_, ptr h0 p5, r5⟩
      exact (run_seq (run_assign e1)).trans ((run_seq (run_assign (i := 3) (e := xInt 0) (v := .int 0) rfl)).trans ((run_seq (run_for (Λ1 := Λ1) (k? := none) (items := (List.range 4).map fun (i : Nat) => V.int (i : Int)) (by simp [sRange, xInt, asInt, big]) ef)).trans (run_ret e5)))
end Mine

/-! ## part C4 -/
set_option linter.unusedVariables false
/-! the plain law -/
namespace Mine

/-- a sound table in a memory of that size -/
structure Wf (T : Tab) (size : Nat) : Prop where
  fit : Fit 0 T size
  small : size ≤ 100
  good : ∀ e ∈ T, ∀ u ∈ e.2, GoodW' T u ∧ 0 ≤ u
theorem fit_up : ∀ {at_ : Nat} {T : Tab} {size : Nat}, Fit at_ T size → inOrder (T.map (·.1)) = true ∧ (T.map (·.1)).Nodup
  | _, [], _, h => ⟨rfl, List.nodup_nil⟩
  | _, (p, row) :: T, _, h => by
    obtain ⟨h1, h2⟩ := fit_up h.2.2.2
    have hp := adr_eq h.1 h.2.1
    have hlt : ∀ q r, (q, r) ∈ T → p < q := fun q r hm => by
      obtain ⟨a, b, c, d⟩ := h.2.2.2.key hm
      have := adr_eq a b
      lia
    refine ⟨?_, ?_⟩
    · cases T with
      | nil => rfl
      | cons e T =>
        obtain ⟨q, r⟩ := e
        have := hlt q r (.head _)
        simp only [List.map_cons, inOrder, Bool.and_eq_true, decide_eq_true_eq]
        exact ⟨this, h1⟩
    · simp only [List.map_cons, List.nodup_cons]
      refine ⟨fun hm => ?_, h2⟩
      obtain ⟨e, he, e1⟩ := List.mem_map.mp hm
      have := hlt e.1 e.2 he
      lia
namespace Wf
variable {T : Tab} {size : Nat}
theorem nodup (h : Wf T size) : (T.map (·.1)).Nodup := (fit_up h.fit).2
theorem up (h : Wf T size) : inOrder (T.map (·.1)) = true := (fit_up h.fit).1
theorem rows (h : Wf T size) : ∀ e ∈ T, e.2.length ≤ 100 := fun e he => by have := (h.fit.key (p := e.1) (row := e.2) he).2.2.2; have := h.small; lia
theorem goodT (h : Wf T size) : GoodT T := fun e he u hu => (h.good e he u hu).1
theorem at_ (h : Wf T size) {e : Int × List Int} (he : e ∈ T) : T.lookup e.1 = some e.2 := nodup_look h.nodup e he
theorem odd (h : Wf T size) {p : Int} (hp : (T.lookup p).isSome = true) : p % 2 = 1 ∧ 0 ≤ p := by
  obtain ⟨row, e⟩ := Option.isSome_iff_exists.mp hp
  have := h.fit.key (look_mem e)
  exact ⟨this.1, this.2.1⟩
theorem len (h : Wf T size) : T.length ≤ 60 ∨ True := .inr trivial
theorem only (h : Wf T size) {S : List Int} (hS : Closed T S) : Wf (only T S) size := by
  refine ⟨h.fit.filter _, h.small, fun e he u hu => ?_⟩
  obtain ⟨he1, he2⟩ := List.mem_filter.mp he
  obtain ⟨g1, g2⟩ := h.good e he1 u hu
  have heS : e.1 ∈ S := by simpa using he2
  refine ⟨⟨fun ho => ?_, fun hs => ?_⟩, g2⟩
  · have hk := g1.mp ho
    obtain ⟨row, e1, hr⟩ := hS e.1 heS
    rw [h.at_ he1] at e1; cases e1
    rw [only_look, if_pos (hr u hu hk)]; exact hk
  · rw [only_look] at hs
    split at hs
    · exact g1.mpr hs
    · cases hs
end Wf
/-- good roots -/
noncomputable def Rts (T : Tab) (ws : List Int) : Prop := (∀ w ∈ ws, GoodW' T w ∧ 0 ≤ w) ∧ ws.length ≤ 100
theorem Rts.only {T : Tab} {S ws : List Int} (h : Rts T ws) (hk : ∀ w ∈ ws, (T.lookup w).isSome → w ∈ S) : Rts (only T S) ws := by
  refine ⟨fun w hw => ⟨⟨fun ho => ?_, fun hs => ?_⟩, (h.1 w hw).2⟩, h.2⟩
  · have := (h.1 w hw).1.mp ho
    rw [only_look, if_pos (hk w hw this)]; exact this
  · rw [only_look] at hs
    split at hs
    · exact (h.1 w hw).1.mpr hs
    · cases hs
theorem Ord.met {T : Tab} {ws r : List Int} (h : Ord T ws [] r) : Met T r := ⟨h.nodup List.nodup_nil, h.keys (fun _ h => nomatch h)⟩
theorem top_ge {T : Tab} : ∀ {at_ : Nat} {r : List Int}, at_ + r.length ≤ topA T at_ r
  | _, [] => Nat.le_refl _
  | at_, p :: r => by have := top_ge (T := T) (at_ := at_ + (rowOf T p).length + 1) (r := r); simp only [topA, List.length_cons]; lia
theorem Ord.short {T : Tab} {size : Nat} {ws r : List Int} (W : Wf T size) (h : Ord T ws [] r) : topA T 0 r ≤ size ∧ r.length ≤ 100 := by
  have h1 := top_size W.fit h.met.nodup h.met.keys
  have h2 := top_ge (T := T) (at_ := 0) (r := r)
  have := W.small
  exact ⟨h1, by lia⟩
theorem only_only {T : Tab} {A B : List Int} (h : ∀ p ∈ B, p ∈ A) : only (only T A) B = only T B := by
  unfold only
  rw [List.filter_filter]
  apply List.filter_congr
  intro e _
  by_cases hb : e.1 ∈ B
  · simp [hb, h _ hb]
  · simp [hb]
theorem only_and {T : Tab} {A B : List Int} : only (only T A) B = only T (A.filter fun p => decide (p ∈ B)) := by
  unfold only
  rw [List.filter_filter]
  apply List.filter_congr
  intro e _
  by_cases ha : e.1 ∈ A <;> by_cases hb : e.1 ∈ B <;> simp [ha, hb]
theorem only_congr {T : Tab} {A B : List Int} (h : ∀ e ∈ T, (e.1 ∈ A ↔ e.1 ∈ B)) : only T A = only T B := by
  unfold only
  apply List.filter_congr
  intro e he
  by_cases ha : e.1 ∈ A
  · simp [ha, (h e he).mp ha]
  · have hb : ¬ e.1 ∈ B := fun x => ha ((h e he).mpr x)
    simp [ha, hb]
theorem only_all {T : Tab} : only T (T.map (·.1)) = T := by
  unfold only
  apply List.filter_eq_self.mpr
  intro e he
  simp only [decide_eq_true_eq]
  exact List.mem_map_of_mem he
/-- marks by address -/
theorem marks {T : Tab} {size : Nat} (W : Wf T size) {r : List Int} (hr : ∀ w ∈ r, w % 2 = 1) : (T.filter fun e => decide ((adr e.1 : Int) ∈ r.map (· / 2))) = only T r := by
  unfold only
  apply List.filter_congr
  intro e he
  obtain ⟨h1, h2, _, _⟩ := W.fit.key (p := e.1) (row := e.2) he
  rw [adr_cast h2]
  have : (e.1 / 2 ∈ r.map (· / 2)) ↔ e.1 ∈ r := by
    constructor
    · intro h
      obtain ⟨u, hu, e'⟩ := List.mem_map.mp h
      have := hr u hu
      have : u = e.1 := by lia
      rw [← this]; exact hu
    · exact fun h => List.mem_map_of_mem h
  by_cases h : e.1 ∈ r
  · simp only [this.mpr h, h]
  · have hb : ¬ (e.1 / 2 ∈ r.map (· / 2)) := fun x => h (this.mp x)
    rw [decide_eq_false hb, decide_eq_false h]
theorem Ord.odd {T : Tab} {size : Nat} (W : Wf T size) {ws r : List Int} (h : Ord T ws [] r) : ∀ w ∈ r, w % 2 = 1 := fun w hw => (W.odd (h.met.keys w hw)).1

/-! the calls, on sound tables -/
section
variable {T : Tab} {size : Nat} {ws r : List Int}
theorem d_sweeping (W : Wf T size) (R : Rts T ws) (h : Ord T ws [] r) : DF f_sweeping [.ints (rend 0 T size), .ints ws] (.ints (rend 0 (only T r) size)) := by
  have hs := h.short W
  have := k_sweeping W.fit (by have := W.small; lia) W.goodT W.rows (fun w hw => (R.1 w hw).1) R.2 h (by lia)
  rw [marks W (h.odd W)] at this; exact this
theorem d_reachable (W : Wf T size) (R : Rts T ws) (h : Ord T ws [] r) : DF f_reachable [.ints (rend 0 T size), .ints ws] (.ints (r.map (· / 2))) := by
  have hs := h.short W
  exact (k_reachable W.fit (by have := W.small; lia) W.goodT W.rows (fun w hw => (R.1 w hw).1) R.2 h (by lia)).df
theorem d_copying (W : Wf T size) (R : Rts T ws) (h : Ord T ws [] r) : DF f_copying [.ints (rend 0 T size), .ints ws] (packD T r ws size) := by
  have hs := h.short W
  exact k_copying W.fit (by have := W.small; lia) W.good R.1 R.2 h (by lia)
theorem d_swept (W : Wf T size) {S : List Int} (hS : ∀ w ∈ S, w % 2 = 1) : DF f_swept [.ints (rend 0 T size), .ints (S.map (· / 2))] (.ints (rend 0 (only T S) size)) := by
  have := (k_swept (marked := S.map (· / 2)) W.fit (by have := W.small; lia)).df
  rw [marks W hS] at this; exact this
theorem d_order (W : Wf T size) (hw : ws.length ≤ 100) : DF f_order [.tab T, .ints ws] (.ints (ordN T 12 ws [])) := (k_order W.rows hw).df
theorem d_packed (W : Wf T size) (hw : ws.length ≤ 100) (h : Ord T ws [] (ordN T 12 ws [])) : DF f_packed [.tab T, .ints ws, .int size] (packD T (ordN T 12 ws []) ws size) := by
  have hs := h.short W
  exact k_packed W.rows hw (by have := W.small; lia) rfl h.met (by lia) hs.1
theorem d_heapL (W : Wf T size) (hl : T.length ≤ 60) {S : List Int} : DF f_heap [.tab T, .ints S, .int size] (.ints (rend 0 (only T S) size)) :=
  k_heap (fun p => DC.inL) (by have := W.small; lia) W.up W.nodup hl (W.fit.filter _)
theorem d_heapT (W : Wf T size) (hl : T.length ≤ 60) {T' : Tab} : DF f_heap [.tab T, .tab T', .int size] (.ints (rend 0 (only T (T'.map (·.1))) size)) :=
  k_heap (fun p => by have := DC.inTab (T := T') (w := p); rw [look_key] at this; exact this) (by have := W.small; lia) W.up W.nodup hl (W.fit.filter _)
end

/-! packing again -/
theorem pack_congr {T T' : Tab} : ∀ {r : List Int} {at_ : Nat}, (∀ p ∈ r, rowOf T p = rowOf T' p) → plc T at_ r = plc T' at_ r ∧ topA T at_ r = topA T' at_ r
  | [], _, _ => ⟨rfl, rfl⟩
  | p :: r, at_, h => by
    have e := h p (.head _)
    obtain ⟨h1, h2⟩ := pack_congr (r := r) (at_ := at_ + (rowOf T p).length + 1) fun q hq => h q (.tail _ hq)
    simp only [plc, topA]
    rw [h1, h2, e]
    exact ⟨rfl, rfl⟩
theorem packD_congr {T T' : Tab} {r ws : List Int} {size : Nat} (h : ∀ p ∈ r, rowOf T p = rowOf T' p) : packD T r ws size = packD T' r ws size := by
  obtain ⟨h1, h2⟩ := pack_congr (at_ := 0) h
  have e : plW T r = plW T' r := by funext w; unfold plW; rw [h1]
  have e2 : pk T (plW T r) r = pk T' (plW T' r) r := by
    rw [e]; unfold pk
    have : ∀ q : List Int, (∀ p ∈ q, rowOf T p = rowOf T' p) → (q.flatMap fun p => ((rowOf T p).length : Int) :: (rowOf T p).map (plW T' r)) = q.flatMap fun p => ((rowOf T' p).length : Int) :: (rowOf T' p).map (plW T' r) := by
      intro q
      induction q with
      | nil => intro _; rfl
      | cons p q ih => intro hq; rw [List.flatMap_cons, List.flatMap_cons, ih fun x hx => hq x (.tail _ hx), hq p (.head _)]
    exact this r h
  rw [packD, packD, e2, h2, e]
theorem rowOf_only {T : Tab} {S : List Int} {p : Int} (h : p ∈ S) : rowOf (only T S) p = rowOf T p := by unfold rowOf; rw [only_look, if_pos h]

/-- after a copying: the packed table -/
theorem Wf.packed {T : Tab} {size : Nat} (W : Wf T size) {ws L : List Int} (h : Ord T ws [] L) : Wf (tab2 T (plW T L) 0 L) size ∧ rend 0 (tab2 T (plW T L) 0 L) size = pk T (plW T L) L ++ gapI (size - topA T 0 L) := by
  have hs := h.short W
  refine ⟨⟨tab2_fit hs.1, W.small, fun e he u hu => ?_⟩, tab2_rend⟩
  have gen : ∀ (at_ : Nat) (r : List Int), (∀ p ∈ r, p ∈ L) → e ∈ tab2 T (plW T L) at_ r → ∃ p ∈ L, e.2 = (rowOf T p).map (plW T L) := by
    intro at_ r
    induction r generalizing at_ with
    | nil => intro _ h; cases h
    | cons p r ih =>
      intro hr h
      rcases List.mem_cons.mp h with rfl | h
      · exact ⟨p, hr p (.head _), rfl⟩
      · exact ih _ (fun q hq => hr q (.tail _ hq)) h
  obtain ⟨p, hp, e2⟩ := gen 0 L (fun _ h => h) he
  rw [e2] at hu
  obtain ⟨x, hx, rfl⟩ := List.mem_map.mp hu
  obtain ⟨row, e1, hr⟩ := h.closed0 p hp
  have hrow : rowOf T p = row := by simp [rowOf, e1]
  rw [hrow] at hx
  obtain ⟨g1, g2⟩ := W.good _ (look_mem e1) x hx
  by_cases hk : (T.lookup x).isSome = true
  · have hxL := hr x hx hk
    have ho := plW_odd (T := T) hxL
    exact ⟨⟨fun _ => by rw [tab2_look (plW_some hxL)]; rfl, fun _ => ho.1⟩, ho.2.1⟩
  · have hxL : x ∉ L := fun y => hk (h.met.keys x y)
    rw [plW_out hxL]
    have hev : x % 2 = 0 := by have : ¬ x % 2 = 1 := fun y => hk (g1.mp y); lia
    exact ⟨⟨fun y => by lia, fun y => by rw [tab2_even hev] at y; cases y⟩, g2⟩
/-- narrow roots in the packed table -/
theorem Ord.packed {T : Tab} {size : Nat} (W : Wf T size) {ws L vs N : List Int} (h : Ord T ws [] L) (hN : Ord T vs [] N) (R : Rts T vs) (hv : ∀ w ∈ vs, (T.lookup w).isSome → w ∈ L) :
    Ord (tab2 T (plW T L) 0 L) (vs.map (plW T L)) [] (N.map (plW T L)) ∧ Rts (tab2 T (plW T L) 0 L) (vs.map (plW T L)) ∧ packD (tab2 T (plW T L) 0 L) (N.map (plW T L)) (vs.map (plW T L)) size = packD T N vs size := by
  have hcl := h.closed0
  -- the words that matter
  have hP2 : ∀ w, (w ∈ L ∨ (¬ (T.lookup w).isSome = true ∧ w % 2 = 0)) → (tab2 T (plW T L) 0 L).lookup (plW T L w) = (T.lookup w).map (List.map (plW T L)) := by
    intro w hw
    rcases hw with hw | ⟨hk, hev⟩
    · obtain ⟨row, e1, _⟩ := hcl w hw
      rw [tab2_look (plW_some hw), e1]; simp [rowOf, e1]
    · have hwL : w ∉ L := fun y => hk (h.met.keys w y)
      rw [plW_out hwL, tab2_even hev]
      cases q : T.lookup w with
      | none => rfl
      | some _ => rw [q] at hk; exact absurd rfl hk
  have hP1 : ∀ w row, (w ∈ L ∨ (¬ (T.lookup w).isSome = true ∧ w % 2 = 0)) → T.lookup w = some row → ∀ u ∈ row, (u ∈ L ∨ (¬ (T.lookup u).isSome = true ∧ u % 2 = 0)) := by
    intro w row hw e u hu
    have hwL : w ∈ L := by
      rcases hw with hw | ⟨hk, _⟩
      · exact hw
      · rw [e] at hk; exact absurd rfl hk
    obtain ⟨row', e', hr⟩ := hcl w hwL
    rw [e] at e'; cases e'
    by_cases hk : (T.lookup u).isSome = true
    · exact .inl (hr u hu hk)
    · refine .inr ⟨hk, ?_⟩
      have := (W.good _ (look_mem e) u hu).1
      have : ¬ u % 2 = 1 := fun y => hk (this.mp y)
      lia
  have hv2 : ∀ w ∈ vs, (w ∈ L ∨ (¬ (T.lookup w).isSome = true ∧ w % 2 = 0)) := by
    intro w hw
    by_cases hk : (T.lookup w).isSome = true
    · exact .inl (hv w hw hk)
    · refine .inr ⟨hk, ?_⟩
      have := (R.1 w hw).1
      have : ¬ w % 2 = 1 := fun y => hk (this.mp y)
      lia
  have hNL : ∀ p ∈ N, p ∈ L := hN.least hcl hv (fun _ h => nomatch h)
  have ho := Ord.map (T2 := tab2 T (plW T L) 0 L) (f := plW T L) hP1 hP2 (fun u w hu hw ku kw e => by
    have a : u ∈ L := hu.resolve_right fun y => y.1 ku
    have b : w ∈ L := hw.resolve_right fun y => y.1 kw
    exact plW_inj a b e) hN hv2 (fun _ h => nomatch h)
  have hpl : ∀ w, (w ∈ L ∨ (¬ (T.lookup w).isSome = true ∧ w % 2 = 0)) → GoodW' (tab2 T (plW T L) 0 L) (plW T L w) := by
    intro w hw
    rcases hw with hw' | ⟨hk, hev⟩
    · have ho := plW_odd (T := T) hw'
      exact ⟨fun _ => by rw [tab2_look (plW_some hw')]; rfl, fun _ => ho.1⟩
    · have hwL : w ∉ L := fun y => hk (h.met.keys w y)
      rw [plW_out hwL]
      exact ⟨fun y => by lia, fun y => by rw [tab2_even hev] at y; cases y⟩
  refine ⟨ho, ⟨fun w hw => ?_, by simpa using R.2⟩, ?_⟩
  · obtain ⟨x, hx, rfl⟩ := List.mem_map.mp hw
    refine ⟨hpl x (hv2 x hx), ?_⟩
    by_cases hxL : x ∈ L
    · exact (plW_odd (T := T) hxL).2.1
    · rw [plW_out hxL]; exact (R.1 x hx).2
  · -- the same packing
    have hrow : ∀ p ∈ N, rowOf (tab2 T (plW T L) 0 L) (plW T L p) = (rowOf T p).map (plW T L) := fun p hp => by
      unfold rowOf
      rw [hP2 p (.inl (hNL p hp))]
      obtain ⟨row, e1, _⟩ := hcl p (hNL p hp)
      rw [e1]; rfl
    have gen : ∀ (q : List Int), (∀ p ∈ q, p ∈ N) → ∀ at_ : Nat, topA (tab2 T (plW T L) 0 L) at_ (q.map (plW T L)) = topA T at_ q ∧ ∀ w, (w ∈ L ∨ w % 2 = 0) → ((w ∈ L ∨ w ∉ q)) → (plc (tab2 T (plW T L) 0 L) at_ (q.map (plW T L))).lookup (plW T L w) = (plc T at_ q).lookup w := by
      intro q
      induction q with
      | nil => intro _ at_; exact ⟨rfl, fun _ _ _ => rfl⟩
      | cons p q ih =>
        intro hq at_
        have e := hrow p (hq p (.head _))
        obtain ⟨h1, h2⟩ := ih (fun x hx => hq x (.tail _ hx)) (at_ + (rowOf T p).length + 1)
        refine ⟨by simp only [List.map_cons, topA, e, List.length_map, h1], fun w hw hwq => ?_⟩
        simp only [List.map_cons, plc, e, List.length_map, List.lookup_cons]
        have hpL := hNL p (hq p (.head _))
        by_cases hwp : w = p
        · subst hwp; simp
        · have hne : ¬ plW T L w = plW T L p := by
            intro x
            by_cases hwL : w ∈ L
            · exact hwp (plW_inj hwL hpL x)
            · rw [plW_out hwL] at x
              have := plW_odd (T := T) hpL
              have : w % 2 = 0 := hw.resolve_left hwL
              lia
          rw [show (plW T L w == plW T L p) = false by simpa using hne, show (w == p) = false by simpa using hwp]
          exact h2 w hw (hwq.imp id fun y z => y (.tail _ z))
    obtain ⟨g1, g2⟩ := gen N (fun _ h => h) 0
    have hpw : ∀ w, (w ∈ L ∨ (¬ (T.lookup w).isSome = true ∧ w % 2 = 0)) → (w ∈ L → w ∈ N) → plW (tab2 T (plW T L) 0 L) (N.map (plW T L)) (plW T L w) = plW T N w := by
      intro w hw hwN
      unfold plW
      rcases hw with hw' | ⟨hk, hev⟩
      · have := g2 w (.inl hw') (.inl hw')
        unfold plW at this
        rw [this]
        obtain ⟨v, hv⟩ := look_some (l := plc T 0 N) (w := w) (by rw [plc_keys]; exact hwN hw')
        rw [hv]; rfl
      · have hwL : w ∉ L := fun y => hk (h.met.keys w y)
        have := g2 w (.inr hev) (.inr fun y => hwL (hNL w y))
        have e := plW_out (T := T) hwL
        unfold plW at this e
        rw [this]
        rw [e]
    have hcN := hN.closed0
    have hmoved : (vs.map (plW T L)).map (plW (tab2 T (plW T L) 0 L) (N.map (plW T L))) = vs.map (plW T N) := by
      rw [List.map_map]
      apply List.map_congr_left
      intro w hw
      exact hpw w (hv2 w hw) (fun hwL => hN.roots w hw (h.met.keys w hwL))
    have hmem : pk (tab2 T (plW T L) 0 L) (plW (tab2 T (plW T L) 0 L) (N.map (plW T L))) (N.map (plW T L)) = pk T (plW T N) N := by
      unfold pk
      rw [List.flatMap_map]
      have : ∀ q : List Int, (∀ p ∈ q, p ∈ N) → (q.flatMap fun p => ((rowOf (tab2 T (plW T L) 0 L) (plW T L p)).length : Int) :: (rowOf (tab2 T (plW T L) 0 L) (plW T L p)).map (plW (tab2 T (plW T L) 0 L) (N.map (plW T L)))) = q.flatMap fun p => ((rowOf T p).length : Int) :: (rowOf T p).map (plW T N) := by
        intro q
        induction q with
        | nil => intro _; rfl
        | cons p q ih =>
          intro hq
          rw [List.flatMap_cons, List.flatMap_cons, ih fun x hx => hq x (.tail _ hx), hrow p (hq p (.head _)), List.length_map, List.map_map]
          congr 2
          apply List.map_congr_left
          intro u hu
          obtain ⟨row, e1, hr⟩ := hcN p (hq p (.head _))
          have e2 : rowOf T p = row := by simp [rowOf, e1]
          rw [e2] at hu
          exact hpw u (hP1 p row (.inl (hNL p (hq p (.head _)))) e1 u hu) (fun hwL => hr u hu (h.met.keys u hwL))
      exact this N (fun _ h => h)
    rw [packD, packD, hmoved, hmem, g1]
end Mine

/-! ## part C5 -/
set_option linter.unusedVariables false
namespace Mine
section
variable {T : Tab} {size : Nat} {p w : Int} {i : Nat}
theorem wr_only {S : List Int} : only (wr T p i w) S = wr (only T S) p i w := by
  unfold only wr
  rw [List.filter_map]
  congr 1
  apply List.filter_congr
  intro e _
  simp only [Function.comp]
  split <;> rfl
theorem wr_look {q : Int} : (wr T p i w).lookup q = (T.lookup q).map fun row => if q = p then row.set i w else row := by
  induction T with
  | nil => rfl
  | cons e T ih =>
    obtain ⟨k, row⟩ := e
    simp only [wr, List.map_cons] at ih ⊢
    by_cases hk : k = p
    · rw [if_pos hk, List.lookup_cons, List.lookup_cons, ih]
      by_cases hq : q = k
      · subst hq; simp [hk]
      · rw [show (q == k) = false by simpa using hq]
    · rw [if_neg hk, List.lookup_cons, List.lookup_cons, ih]
      by_cases hq : q = k
      · subst hq; simp [hk]
      · rw [show (q == k) = false by simpa using hq]
theorem wr_some {q : Int} : ((wr T p i w).lookup q).isSome = (T.lookup q).isSome := by rw [wr_look]; cases T.lookup q <;> rfl
theorem wr_good {u : Int} (h : GoodW' T u) : GoodW' (wr T p i w) u := by unfold GoodW'; rw [wr_some]; exact h
theorem Wf.wr (W : Wf T size) (hw : GoodW' T w ∧ 0 ≤ w) : Wf (wr T p i w) size := by
  refine ⟨W.fit.wr, W.small, fun e he u hu => ?_⟩
  obtain ⟨e0, h0, rfl⟩ := List.mem_map.mp he
  split at hu
  · rcases List.mem_or_eq_of_mem_set hu with h | h
    · exact ⟨wr_good (W.good e0 h0 u h).1, (W.good e0 h0 u h).2⟩
    · subst h; exact ⟨wr_good hw.1, hw.2⟩
  · exact ⟨wr_good (W.good e0 h0 u hu).1, (W.good e0 h0 u hu).2⟩
theorem Rts.wr {ws : List Int} (R : Rts T ws) : Rts (wr T p i w) ws := ⟨fun u hu => ⟨wr_good (R.1 u hu).1, (R.1 u hu).2⟩, R.2⟩
theorem Closed.wr {S : List Int} (h : Closed T S) (hw : (T.lookup w).isSome → w ∈ S) : Closed (wr T p i w) S := by
  intro q hq
  obtain ⟨row, e, hr⟩ := h q hq
  rw [wr_look, e]
  refine ⟨_, rfl, fun u hu hs => ?_⟩
  rw [wr_some] at hs
  split at hu
  · rcases List.mem_or_eq_of_mem_set hu with x | x
    · exact hr u x hs
    · subst x; exact hw hs
  · exact hr u hu hs
theorem wr_tot : ∀ {T : Tab} {m : List Int}, tot (wr T p i w) m = tot T m
  | [], _ => rfl
  | e :: T, m => by
    have ih := wr_tot (T := T) (m := m)
    simp only [wr, List.map_cons, tot] at ih ⊢
    rw [ih]
    split <;> simp
theorem wr_len : (wr T p i w).length = T.length := by simp [wr]
theorem wr_comm {p' x : Int} {i' : Nat} (h : p ≠ p' ∨ i ≠ i') : wr (wr T p i w) p' i' x = wr (wr T p' i' x) p i w := by
  unfold wr
  rw [List.map_map, List.map_map]
  apply List.map_congr_left
  intro e _
  simp only [Function.comp]
  by_cases h1 : e.1 = p <;> by_cases h2 : e.1 = p'
  · have hi : i ≠ i' := h.resolve_left fun y => y (h1.symm.trans h2)
    simp only [h1, h2, if_true]
    have h3 : p = p' := h1.symm.trans h2
    simp only [← h3, if_true]
    rw [List.set_comm _ _ hi]
  · have h3 : ¬ p = p' := fun y => h2 (h1.trans y)
    simp [h1, h3]
  · have h3 : ¬ p' = p := fun y => h1 (h2.trans y)
    simp [h2, h3]
  · simp [h1, h2]
theorem d_with (W : Wf T size) {row : List Int} (hp : T.lookup p = some row) (hi : i < row.length) : DF f_with_field [.ints (rend 0 T size), .int (p / 2), .int i, .int w] (.ints (rend 0 (wr T p i w) size)) := by
  have hm := look_mem hp
  obtain ⟨h1, h2, h3, h4⟩ := W.fit.key hm
  have hl := rend_len W.fit
  have hs := W.small
  have := (k_with (mem := rend 0 T size) (a := adr p) (i := i) (w := w) (by lia) (by lia)).df
  have e := rend_wr (w := w) W.fit hm hi
  rw [Nat.sub_zero] at e
  rw [e] at this
  rw [← adr_cast h2]; exact this
end
/-- the world of the law -/
structure Wld (T : Tab) (size : Nat) (wide : List Int) : Prop where
  wf : Wf T size
  rts : Rts T wide
  three : wide.length = 3
  len : T.length ≤ 60
  few : tot T [] ≤ 8
theorem ord12 {T : Tab} (h : tot T [] ≤ 8) {ws : List Int} (hw : ws.length ≤ 3) : Ord T ws [] (ordN T 12 ws []) := ordN_spec 12 (by lia)
theorem Rts.sub {T : Tab} {ws vs : List Int} (R : Rts T ws) (h : ∀ w ∈ vs, w ∈ ws) (hl : vs.length ≤ 100) : Rts T vs := ⟨fun w hw => R.1 w (h w hw), hl⟩
end Mine

/-! ## part B14 -/
set_option maxRecDepth 20000
set_option linter.unusedVariables false
namespace Mine

noncomputable def env8 (ns ss hd : List Int) (size : Nat) (wd : List Int) (T : Tab) (wide pks nar : List Int) (rest : DV) : DV :=
  some (.ints ns) :: some (.ints ss) :: some (.ints hd) :: some (.int size) :: some (.ints wd) :: some (.tab T) :: some (.ints wide) :: some (.ints pks) :: some (.ints nar) :: rest

theorem DT.and1 {t : Te} {b : Bool} {ds : DV} (h : DT t ds b) : DT (tAnd t tTrue) ds b := by have := DT.and h (fun _ => DT.true); rwa [Bool.and_true] at this
theorem DS.noRet {t : Te} {a : Stm} {ds : DV} (h : DT t ds false) : DS (sIf t a sPass) ds .next ds := DS.ite h (fun x => nomatch x) (fun _ => DS.pass)
theorem DE.mapD {caps : List Nat} {src : Src} {elt : Ex} {ds : DV} {l : List Int} {f : Int → Int} (hs : DSr src ds (l.map .int)) (hl : l.length ≤ 1000) (he : ∀ x ∈ l, DE elt (some (.int x) :: caps.map (gd ds)) (.int (f x))) : DE (xComp caps src tTrue elt) ds (.ints (l.map f)) := by
  have hb : big = 100000 := rfl
  refine (DE.compT (h := fun d => match d with | .int x => .int (f x) | d => d) hs (by simp; lia) fun d hd => ?_).as ?_
  · obtain ⟨x, hx, rfl⟩ := List.mem_map.mp hd
    exact he x hx
  · rw [List.map_map, D.ints, List.map_map]; rfl
theorem DE.filterD {caps : List Nat} {src : Src} {t : Te} {elt : Ex} {ds : DV} {l : List Int} {q : Int → Bool} (hs : DSr src ds (l.map .int)) (hl : l.length ≤ 1000) (ht : ∀ x ∈ l, DT t (some (.int x) :: caps.map (gd ds)) (q x)) (he : ∀ x ∈ l, DE elt (some (.int x) :: caps.map (gd ds)) (.int x)) :
    DE (xComp caps src t elt) ds (.ints (l.filter q)) := by
  have hb : big = 100000 := rfl
  refine (DE.comp (p := fun d => match d with | .int x => q x | _ => false) (h := id) hs (by simp; lia) (fun d hd => ?_) (fun d hd _ => ?_)).as ?_
  · obtain ⟨x, hx, rfl⟩ := List.mem_map.mp hd
    exact ht x hx
  · obtain ⟨x, hx, rfl⟩ := List.mem_map.mp hd
    exact he x hx
  · rw [List.map_id, List.filter_map]; rfl
theorem DSr.listi {a : Ex} {ds : DV} {l : List Int} (h : DE a ds (.ints l)) (hl : l.length ≤ 1000) : DSr (sList a) ds (l.map .int) := DSr.list h (by simp [big]; lia)

section
variable {T : Tab} {size : Nat} {wide nar pks : List Int}
/-- the narrow roots -/
structure Nrw (wide pks nar : List Int) : Prop where
  pick : ∀ p ∈ pks, 0 ≤ p ∧ p < 3
  few : pks.length ≤ 3
  is : nar = pks.map fun p => wide[p.toNat]?.getD 0
theorem Nrw.mem (W : Wld T size wide) (h : Nrw wide pks nar) : ∀ w ∈ nar, w ∈ wide := fun w hw => by
  rw [h.is] at hw
  obtain ⟨p, hp, rfl⟩ := List.mem_map.mp hw
  obtain ⟨h0, h3⟩ := h.pick p hp
  have := W.three
  rw [List.getElem?_eq_getElem (by lia)]
  exact List.getElem_mem _
theorem Nrw.len (h : Nrw wide pks nar) : nar.length ≤ 3 := by rw [h.is]; simpa using h.few

noncomputable abbrev lv (T : Tab) (ws : List Int) : List Int := ordN T 12 ws []

theorem take_drop {l : List Int} {w : Int} (h : w ∈ l) : w ∈ l.take 2 ∨ w ∈ l.drop 1 := by
  rw [← List.take_append_drop 2 l] at h
  rcases List.mem_append.mp h with h | h
  · exact .inl h
  · exact .inr (List.mem_of_mem_drop (i := 1) (by rw [List.drop_drop]; exact h))
set_option maxHeartbeats 4000000 in
theorem chunkB1 {ns ss hd wd : List Int} {k : Stm} {fl : DFl} {d' : DV} (W : Wld T size wide) (Nr : Nrw wide pks nar)
    (h : DS k (env8 ns ss hd size wd T wide pks nar ([some (.ints (rend 0 T size)), some (.ints (lv T wide)), some (.ints (rend 0 (only T (lv T nar)) size)), some (.ints (rend 0 (only T (lv T wide)) size)), some (.ints (rend 0 (only T (lv T nar)) size)),
      some (.ints ((lv T (wide.take 2)).map (· / 2))), some (.ints ((lv T (wide.drop 1)).map (· / 2))), some (.ints (lv T (wide.take 2))), some (.ints (lv T (wide.drop 1))), some (.ints (rend 0 (only T ((lv T (wide.take 2)).filter fun p => decide (p ∈ lv T (wide.drop 1)))) size))] ++ List.replicate 19 none)) fl d') :
    DS (sSeq b_law_9 (sSeq b_law_10 (sSeq b_law_11 (sSeq b_law_12 (sSeq b_law_13 (sSeq b_law_14 (sSeq b_law_15 (sSeq b_law_16 (sSeq b_law_17 (sSeq b_law_18 (sSeq b_law_19 (sSeq b_law_20 (sSeq b_law_21 k))))))))))))) (env8 ns ss hd size wd T wide pks nar (List.replicate 29 none)) fl d' := by
  have hb : big = 100000 := rfl
  have h3 := W.three
  have hnl := Nr.len
  have hsm := W.wf.small
  have OL : Ord T wide [] (lv T wide) := ord12 W.few (by lia)
  have ON : Ord T nar [] (lv T nar) := ord12 W.few hnl
  have O1 : Ord T (wide.take 2) [] (lv T (wide.take 2)) := ord12 W.few (by simp; lia)
  have O2 : Ord T (wide.drop 1) [] (lv T (wide.drop 1)) := ord12 W.few (by simp; lia)
  have RN : Rts T nar := W.rts.sub (Nr.mem W) (by lia)
  have R1 : Rts T (wide.take 2) := W.rts.sub (fun w hw => List.mem_of_mem_take hw) (by simp; lia)
  have R2 : Rts T (wide.drop 1) := W.rts.sub (fun w hw => List.mem_of_mem_drop hw) (by simp; lia)
  have cL := OL.closed0
  have c1 := O1.closed0
  have c2 := O2.closed0
  have hNk : ∀ w ∈ nar, (T.lookup w).isSome → w ∈ lv T wide := fun w hw hk => OL.roots w (Nr.mem W w hw) hk
  have hNL : ∀ p ∈ lv T nar, p ∈ lv T wide := ON.least cL hNk (fun _ h => nomatch h)
  have h1L : ∀ p ∈ lv T (wide.take 2), p ∈ lv T wide := O1.least cL (fun w hw hk => OL.roots w (List.mem_of_mem_take hw) hk) (fun _ h => nomatch h)
  have h2L : ∀ p ∈ lv T (wide.drop 1), p ∈ lv T wide := O2.least cL (fun w hw hk => OL.roots w (List.mem_of_mem_drop hw) hk) (fun _ h => nomatch h)
  have hL12 : ∀ p ∈ lv T wide, p ∈ lv T (wide.take 2) ++ lv T (wide.drop 1) := by
    refine OL.least (S := lv T (wide.take 2) ++ lv T (wide.drop 1)) (fun p hp => ?_) (fun w hw hk => ?_) (fun _ h => nomatch h)
    · rcases List.mem_append.mp hp with x | x
      · obtain ⟨row, e, hr⟩ := c1 p x
        exact ⟨row, e, fun u hu hs => List.mem_append.mpr (.inl (hr u hu hs))⟩
      · obtain ⟨row, e, hr⟩ := c2 p x
        exact ⟨row, e, fun u hu hs => List.mem_append.mpr (.inr (hr u hu hs))⟩
    · rcases take_drop hw with x | x
      · exact List.mem_append.mpr (.inl (O1.roots _ x hk))
      · exact List.mem_append.mpr (.inr (O2.roots _ x hk))
  have l1 := (O1.short W.wf).2
  have l2 := (O2.short W.wf).2
  have odd1 := O1.odd W.wf
  have odd2 := O2.odd W.wf
  refine DS.seq (DS.assign (d := .ints (rend 0 T size)) ((DE.call (d_heapT W.wf W.len (T' := T)) (DEs.cons (DE.var rfl) (DEs.cons (DE.var rfl) (DEs.cons (DE.var rfl) DEs.nil)))).as (by rw [only_all]))) ?_
  refine DS.seq (DS.assign (DE.call (d_order W.wf W.rts.2) (DEs.cons (DE.var rfl) (DEs.cons (DE.var rfl) DEs.nil)))) ?_
  refine DS.seq (DS.assign (DE.call (d_heapL W.wf W.len (S := lv T nar)) (DEs.cons (DE.var rfl) (DEs.cons (DE.call (d_order W.wf RN.2) (DEs.cons (DE.var rfl) (DEs.cons (DE.var rfl) DEs.nil))) (DEs.cons (DE.var rfl) DEs.nil))))) ?_
  refine DS.seq (DS.assign (DE.call (d_sweeping W.wf W.rts OL) (DEs.cons (DE.var rfl) (DEs.cons (DE.var rfl) DEs.nil)))) ?_
  refine DS.seq (DS.assign (d := .ints (rend 0 (only T (lv T nar)) size)) ((DE.call (d_sweeping (W.wf.only cL) (RN.only hNk) (ON.only cL hNk)) (DEs.cons (DE.var rfl) (DEs.cons (DE.var rfl) DEs.nil))).as (by rw [only_only hNL]))) ?_
  refine DS.seq (DS.noRet (DT.cmp (DC.ne (.list (.cons (.list (Sames.ints _)) (.cons (.list (Sames.ints _)) (.cons (.list (Sames.ints _)) .nil))))) (DE.list (DEs.cons (DE.var rfl) (DEs.cons (DE.var rfl) (DEs.cons (DE.call (d_sweeping W.wf RN ON) (DEs.cons (DE.var rfl) (DEs.cons (DE.var rfl) DEs.nil))) DEs.nil))))
    (DE.list (DEs.cons (DE.call (d_heapL W.wf W.len (S := lv T wide)) (DEs.cons (DE.var rfl) (DEs.cons (DE.var rfl) (DEs.cons (DE.var rfl) DEs.nil)))) (DEs.cons (DE.var rfl) (DEs.cons (DE.var rfl) DEs.nil)))))) ?_
  have sl2 : ∀ {ds : DV}, gd ds 6 = some (.ints wide) → DE (xSlice (xVar 6) Option.none (some (xInt 2))) ds (.ints (wide.take 2)) := fun hg => (DE.slicei (DE.var hg) DP.none (DP.some (DE.int 2) (by decide)) (by lia)).as (by simp [cutI])
  have sl1 : ∀ {ds : DV}, gd ds 6 = some (.ints wide) → DE (xSlice (xVar 6) (some (xInt 1)) Option.none) ds (.ints (wide.drop 1)) := fun hg => (DE.slicei (DE.var hg) (DP.some (DE.int 1) (by decide)) DP.none (by lia)).as (by simp [cutI])
  refine DS.seq (DS.assign (DE.call (d_reachable W.wf R1 O1) (DEs.cons (DE.var rfl) (DEs.cons (sl2 rfl) DEs.nil)))) ?_
  refine DS.seq (DS.assign (DE.call (d_reachable W.wf R2 O2) (DEs.cons (DE.var rfl) (DEs.cons (sl1 rfl) DEs.nil)))) ?_
  refine DS.seq (DS.assign (DE.call (d_order W.wf R1.2) (DEs.cons (DE.var rfl) (DEs.cons (sl2 rfl) DEs.nil)))) ?_
  refine DS.seq (DS.assign (DE.call (d_order W.wf R2.2) (DEs.cons (DE.var rfl) (DEs.cons (sl1 rfl) DEs.nil)))) ?_
  refine DS.seq (DS.assign (DE.call (d_heapL W.wf W.len (S := (lv T (wide.take 2)).filter fun p => decide (p ∈ lv T (wide.drop 1)))) (DEs.cons (DE.var rfl) (DEs.cons (DE.filterD (DSr.listi (DE.var rfl) (by lia)) (by lia) (fun x _ => DT.and1 (DT.cmp (DC.inL (l := lv T (wide.drop 1))) (DE.var rfl) (DE.var rfl))) (fun x _ => DE.var rfl)) (DEs.cons (DE.var rfl) DEs.nil))))) ?_
  refine DS.seq (DS.noRet (DT.cmp (DC.ne (.list (.cons (.list (Sames.ints _)) (.cons (.list (Sames.ints _)) (.cons (.list (Sames.ints _)) .nil))))) (DE.list (DEs.cons ?_ (DEs.cons ?_ (DEs.cons ?_ DEs.nil)))) (DE.list (DEs.cons (DE.var rfl) (DEs.cons (DE.var rfl) (DEs.cons (DE.var rfl) DEs.nil)))))) ?_
  · refine (DE.call (d_swept (W.wf.only c1) odd2) (DEs.cons (DE.call (d_swept W.wf odd1) (DEs.cons (DE.var rfl) (DEs.cons (DE.var rfl) DEs.nil))) (DEs.cons (DE.var rfl) DEs.nil))).as (by rw [only_and])
  · refine (DE.call (d_swept (W.wf.only c2) odd1) (DEs.cons (DE.call (d_swept W.wf odd2) (DEs.cons (DE.var rfl) (DEs.cons (DE.var rfl) DEs.nil))) (DEs.cons (DE.var rfl) DEs.nil))).as ?_
    rw [only_and, only_congr (A := (lv T (wide.drop 1)).filter fun p => decide (p ∈ lv T (wide.take 2))) (B := (lv T (wide.take 2)).filter fun p => decide (p ∈ lv T (wide.drop 1))) fun e _ => by simp only [List.mem_filter, decide_eq_true_eq]; exact And.comm]
  · refine (DE.call (d_swept W.wf (S := lv T (wide.take 2) ++ lv T (wide.drop 1)) (fun w hw => (List.mem_append.mp hw).elim (odd1 w) (odd2 w))) (DEs.cons (DE.var rfl) (DEs.cons ((DE.bin (DO.cati (by simp only [List.length_map]; lia)) (DE.var rfl) (DE.var rfl)).as (by rw [List.map_append])) DEs.nil))).as ?_
    rw [only_congr (A := lv T (wide.take 2) ++ lv T (wide.drop 1)) (B := lv T wide) fun e _ => ⟨fun x => (List.mem_append.mp x).elim (h1L _) (h2L _), fun x => hL12 _ x⟩]
  refine DS.seq (DS.noRet (DT.cmp (DC.ne (.list (.cons (.list (Sames.ints _)) (.cons (.list (Sames.ints _)) .nil)))) (DE.list (DEs.cons (DE.var rfl) (DEs.cons (DE.var rfl) DEs.nil))) (DE.list (DEs.cons (DE.mapD (f := (· / 2)) (DSr.listi (DE.var rfl) (by lia)) (by lia) fun x _ => DE.bin (DO.div (by decide)) (DE.var rfl) (DE.int 2)) (DEs.cons (DE.mapD (f := (· / 2)) (DSr.listi (DE.var rfl) (by lia)) (by lia) fun x _ => DE.bin (DO.div (by decide)) (DE.var rfl) (DE.int 2)) DEs.nil))))) ?_
  exact h
end
end Mine

/-! ## part B15 -/
set_option maxRecDepth 20000
set_option linter.unusedVariables false
namespace Mine
section
variable {T : Tab} {size : Nat} {wide nar pks : List Int}
noncomputable abbrev vB1 (T : Tab) (size : Nat) (wide nar : List Int) : DV := [some (.ints (rend 0 T size)), some (.ints (lv T wide)), some (.ints (rend 0 (only T (lv T nar)) size)), some (.ints (rend 0 (only T (lv T wide)) size)), some (.ints (rend 0 (only T (lv T nar)) size)),
      some (.ints ((lv T (wide.take 2)).map (· / 2))), some (.ints ((lv T (wide.drop 1)).map (· / 2))), some (.ints (lv T (wide.take 2))), some (.ints (lv T (wide.drop 1))), some (.ints (rend 0 (only T ((lv T (wide.take 2)).filter fun p => decide (p ∈ lv T (wide.drop 1)))) size))]
theorem pack_same {T : Tab} {r ws : List Int} {size : Nat} : Same2 3 (packD T r ws size) (packD T r ws size) := .tup (.cons (.list (Sames.ints _)) (.cons (.list (Sames.ints _)) .nil))

set_option maxHeartbeats 4000000 in
theorem chunkB2 {ns ss hd wd : List Int} {k : Stm} {fl : DFl} {d' : DV} (W : Wld T size wide) (Nr : Nrw wide pks nar)
    (h : ∀ x22 x23 : Option D, DS k (env8 ns ss hd size wd T wide pks nar (vB1 T size wide nar ++ [some (packD T (lv T wide) wide size), some (.ints (nar.map (plW T (lv T wide)))), some (packD T (lv T nar) nar size), x22, x23] ++ List.replicate 14 none)) fl d') :
    DS (sSeq b_law_22 (sSeq b_law_23 (sSeq b_law_24 (sSeq b_law_25 (sSeq b_law_26 k))))) (env8 ns ss hd size wd T wide pks nar (vB1 T size wide nar ++ List.replicate 19 none)) fl d' := by
  have hb : big = 100000 := rfl
  have h3 := W.three
  have hnl := Nr.len
  have hpl := Nr.few
  have hsm := W.wf.small
  have OL : Ord T wide [] (lv T wide) := ord12 W.few (by lia)
  have ON : Ord T nar [] (lv T nar) := ord12 W.few hnl
  have RN : Rts T nar := W.rts.sub (Nr.mem W) (by lia)
  have cL := OL.closed0
  have hNk : ∀ w ∈ nar, (T.lookup w).isSome → w ∈ lv T wide := fun w hw hk => OL.roots w (Nr.mem W w hw) hk
  have hNL : ∀ p ∈ lv T nar, p ∈ lv T wide := ON.least cL hNk (fun _ h => nomatch h)
  obtain ⟨W2, hr2⟩ := W.wf.packed OL
  obtain ⟨O2, R2, hp2⟩ := Ord.packed W.wf OL ON RN hNk
  have hp2' : packD (tab2 T (plW T (lv T wide)) 0 (lv T wide)) ((lv T nar).map (plW T (lv T wide))) (nar.map (plW T (lv T wide))) size = packD T (lv T nar) nar size := hp2
  generalize hT2 : tab2 T (plW T (lv T wide)) 0 (lv T wide) = T2 at W2 hr2 O2 R2 hp2'
  generalize hN2 : (lv T nar).map (plW T (lv T wide)) = N2 at O2 hp2'
  have c2 := O2.closed0
  have k2 : ∀ w ∈ nar.map (plW T (lv T wide)), (T2.lookup w).isSome → w ∈ N2 := O2.roots

  refine DS.seq (DS.assign (DE.call (d_copying W.wf W.rts OL) (DEs.cons (DE.var rfl) (DEs.cons (DE.var rfl) DEs.nil)))) ?_
  refine DS.seq (DS.noRet (DT.cmp (DC.ne pack_same) (DE.var rfl) (DE.call (d_packed W.wf W.rts.2 OL) (DEs.cons (DE.var rfl) (DEs.cons (DE.var rfl) (DEs.cons (DE.var rfl) DEs.nil)))))) ?_
  refine DS.seq (DS.assign (d := .ints (nar.map (plW T (lv T wide)))) ((DE.mapD (f := fun p => plW T (lv T wide) (wide[p.toNat]?.getD 0)) (l := pks) (DSr.listi (DE.var rfl) (by lia)) (by lia) fun x hx => ?_).as ?_)) ?_
  · obtain ⟨h0, h3'⟩ := Nr.pick x hx
    refine DE.idxi (n := x.toNat) (DE.idxT (DE.var rfl) (DE.int 1) (by decide) rfl) ((DE.var rfl).as (by rw [Int.toNat_of_nonneg h0])) ?_ (by lia)
    rw [List.getElem?_map, List.getElem?_eq_getElem (by lia)]; rfl
  · rw [Nr.is, List.map_map]; rfl
  refine DS.seq (DS.assign (DE.call (d_packed W.wf RN.2 ON) (DEs.cons (DE.var rfl) (DEs.cons (DE.var rfl) (DEs.cons (DE.var rfl) DEs.nil))))) ?_
  have far0 : ∀ {ds : DV}, gd ds 19 = some (packD T (lv T wide) wide size) → DE (xIdx (xVar 19) (xInt 0)) ds (.ints (rend 0 T2 size)) := fun hg => (DE.idxT (DE.var hg) (DE.int 0) (by decide) rfl).as (by rw [hr2])
  refine DS.seq (DS.for_ (DSr.list (l := [.tup [.ints (rend 0 T size), .ints nar], .tup [.ints (rend 0 (only T (lv T wide)) size), .ints nar], .tup [.ints (rend 0 T2 size), .ints (nar.map (plW T (lv T wide)))], .tup [.ints (rend 0 (only T2 N2) size), .ints (nar.map (plW T (lv T wide)))]])
    (DE.list (DEs.cons (DE.tup (DEs.cons (DE.var rfl) (DEs.cons (DE.var rfl) DEs.nil))) (DEs.cons (DE.tup (DEs.cons (DE.var rfl) (DEs.cons (DE.var rfl) DEs.nil))) (DEs.cons (DE.tup (DEs.cons (far0 rfl) (DEs.cons (DE.var rfl) DEs.nil)))
      (DEs.cons (DE.tup (DEs.cons (DE.call (d_sweeping W2 R2 O2) (DEs.cons (far0 rfl) (DEs.cons (DE.var rfl) DEs.nil))) (DEs.cons (DE.var rfl) DEs.nil))) DEs.nil)))))
    (by simp [big]))
    (FD.cons DA.pair (DS.seq (DS.noRet (DT.cmp (DC.ne pack_same) (DE.call (d_copying W.wf RN ON) (DEs.cons (DE.var rfl) (DEs.cons (DE.var rfl) DEs.nil))) (DE.var rfl))) DS.pass)
    (FD.cons DA.pair (DS.seq (DS.noRet (DT.cmp (DC.ne pack_same) ((DE.call (d_copying (W.wf.only cL) (RN.only hNk) (ON.only cL hNk)) (DEs.cons (DE.var rfl) (DEs.cons (DE.var rfl) DEs.nil))).as (packD_congr fun p hp => rowOf_only (hNL p hp))) (DE.var rfl))) DS.pass)
    (FD.cons DA.pair (DS.seq (DS.noRet (DT.cmp (DC.ne pack_same) ((DE.call (d_copying W2 R2 O2) (DEs.cons (DE.var rfl) (DEs.cons (DE.var rfl) DEs.nil))).as hp2') (DE.var rfl))) DS.pass)
    (FD.cons DA.pair (DS.seq (DS.noRet (DT.cmp (DC.ne pack_same) ((DE.call (d_copying (W2.only c2) (R2.only k2) (O2.only c2 k2)) (DEs.cons (DE.var rfl) (DEs.cons (DE.var rfl) DEs.nil))).as ((packD_congr fun p hp => rowOf_only hp).trans hp2')) (DE.var rfl))) DS.pass)
    FD.nil))))) ?_
  exact h _ _
end
end Mine

/-! ## part B16 -/
set_option maxRecDepth 20000
set_option linter.unusedVariables false
namespace Mine
section
variable {T : Tab} {size : Nat} {wide nar pks : List Int}
theorem d_fwd (W : Wf T size) {m X : List Int} {w : Int} (hm : Met T m) (hX : X.length = topA T 0 m) (hg : GoodW' T w ∧ 0 ≤ w) :
    DF f_forwarded [.ints (rend 0 T size), .ints (X ++ List.replicate (size - topA T 0 m) 0), .ints (fwdL T size m), .int (topA T 0 m : Nat), .int w]
      (.tup [.ints (xAdd T m X w ++ List.replicate (size - topA T 0 (addK T m w)) 0), .ints (fwdL T size (addK T m w)), .int (topA T 0 (addK T m w) : Nat), .int (plW T (addK T m w) w)]) ∧ (xAdd T m X w).length = topA T 0 (addK T m w) := by
  have hlx : (xAdd T m X w).length = topA T 0 (addK T m w) := by
    have := (fw_step (Λ := [.list ((rend 0 T size).map .int), .list ((X ++ List.replicate (size - topA T 0 m) 0).map .int), .list ((fwdL T size m).map .int)]) (vm := .ref 0) (vn := .ref 1) (vf := .ref 2) (w := w) W.fit (by have := W.small; lia) (.ofInts rfl) hm hX hg.1 hg.2 (.ofInts rfl) (.ofInts rfl)).2
    exact this
  refine ⟨fun args Λ hd => ?_, hlx⟩
  cases hd with
  | @cons vm _ _ _ hM hd => cases hd with
    | @cons vn _ _ _ hN hd => cases hd with
      | @cons vf _ _ _ hF hd => cases hd with
        | cons h4 hd => cases hd with
          | cons h5 hd =>
            cases hd; obtain rfl := h4.intOf; obtain rfl := h5.intOf
            obtain ⟨⟨kt, k1, k2, Λ', e, p, q, q1, q2, _, _, _⟩, _⟩ := fw_step W.fit (by have := W.small; lia) hM hm hX hg.1 hg.2 hN hF
            exact ⟨.ref kt, Λ', e, p, .tup q (.cons (.ofInts q1) (.cons (.ofInts q2) (.cons (.int _) (.cons (.int _) .nil))))⟩
theorem addK_idem {m : List Int} {w : Int} : addK T (addK T m w) w = addK T m w := by
  have := Seen.self (T := T) (m := m) (w := w)
  have hn : ¬ ((T.lookup w).isSome = true ∧ w ∉ addK T m w) := by
    rintro ⟨a, b⟩
    exact this.elim b (fun x => x a)
  exact if_neg hn
theorem xAdd_idem {m X : List Int} {w : Int} : xAdd T (addK T m w) (xAdd T m X w) w = xAdd T m X w := by
  have := Seen.self (T := T) (m := m) (w := w)
  have hn : ¬ ((T.lookup w).isSome = true ∧ w ∉ addK T m w) := by
    rintro ⟨a, b⟩
    exact this.elim b (fun x => x a)
  exact if_neg hn

noncomputable def spots (T : Tab) (L : List Int) : List (Int × Nat) := L.flatMap fun p => (List.range (rowOf T p).length).map fun i => (p, i)
noncomputable abbrev spotD (s : Int × Nat) : D := .tup [.int s.1, .int (s.2 : Int)]
theorem spots_mem {L : List Int} {s : Int × Nat} (h : s ∈ spots T L) : s.1 ∈ L ∧ s.2 < (rowOf T s.1).length := by
  unfold spots at h
  obtain ⟨p, hp, h⟩ := List.mem_flatMap.mp h
  obtain ⟨i, hi, rfl⟩ := List.mem_map.mp h
  exact ⟨hp, List.mem_range.mp hi⟩
theorem spots_len : ∀ {at_ : Nat} {L : List Int}, at_ + (spots T L).length ≤ topA T at_ L
  | _, [] => Nat.le_refl _
  | at_, p :: L => by
    have := spots_len (at_ := at_ + (rowOf T p).length + 1) (L := L)
    simp only [spots, List.flatMap_cons, List.length_append, List.length_map, List.length_range, topA] at this ⊢
    lia

noncomputable abbrev vB2 (T : Tab) (size : Nat) (wide nar : List Int) (x22 x23 : Option D) : DV := vB1 T size wide nar ++ [some (packD T (lv T wide) wide size), some (.ints (nar.map (plW T (lv T wide)))), some (packD T (lv T nar) nar size), x22, x23]

set_option maxHeartbeats 4000000 in
theorem chunkC1 {ns ss hd wd : List Int} {k : Stm} {fl : DFl} {d' : DV} (W : Wld T size wide) (Nr : Nrw wide pks nar) {x22 x23 : Option D}
    (h : ∀ x24 x25 x26 : Option D, DS k (env8 ns ss hd size wd T wide pks nar (vB2 T size wide nar x22 x23 ++ [x24, x25, x26, some (.list ((spots T (lv T wide)).map spotD))] ++ List.replicate 10 none)) fl d') :
    DS (sSeq b_law_27 (sSeq b_law_28 (sSeq b_law_29 (sSeq b_law_30 (sSeq b_law_31 (sSeq b_law_32 k)))))) (env8 ns ss hd size wd T wide pks nar (vB2 T size wide nar x22 x23 ++ List.replicate 14 none)) fl d' := by
  have hb : big = 100000 := rfl
  have h3 := W.three
  have hsm := W.wf.small
  have OL : Ord T wide [] (lv T wide) := ord12 W.few (by lia)
  obtain ⟨w0, hw0⟩ : ∃ w0, wide[0]? = some w0 := ⟨_, List.getElem?_eq_getElem (by lia)⟩
  have hg := W.rts.1 w0 (List.mem_of_getElem? hw0)
  obtain ⟨f1, l1⟩ := d_fwd (w := w0) W.wf (m := []) (X := []) Met.nil rfl hg
  obtain ⟨f2, l2⟩ := d_fwd (w := w0) W.wf (m := addK T [] w0) (X := xAdd T [] [] w0) (Met.nil.add w0) l1 hg
  rw [addK_idem, xAdd_idem] at f2
  rw [fwdL_nil] at f1
  have hs := OL.short W.wf
  have hz0 : ∀ {ds : DV}, gd ds 3 = some (.int size) → DE (xBin oMul (xList [xInt 0]) (xVar 3)) ds (.ints (List.replicate size 0)) := fun hg => DE.zeros (DE.int 0) (DE.var hg) (by simp) (by lia)
  have hz1 : ∀ {ds : DV}, gd ds 3 = some (.int size) → DE (xBin oMul (xList [xNeg (xInt 1)]) (xVar 3)) ds (.ints (List.replicate size (-1))) := fun hg => DE.zeros (DE.neg (DE.int 1)) (DE.var hg) (by simp) (by lia)
  refine DS.seq (DS.assign (hz0 rfl)) (DS.seq (DS.assign (hz1 rfl)) ?_)
  refine DS.seq (DS.assign (DE.call f1 (DEs.cons (DE.var rfl) (DEs.cons (DE.var rfl) (DEs.cons (DE.var rfl) (DEs.cons (DE.int 0) (DEs.cons (DE.idxi (n := 0) (DE.var rfl) (DE.int 0) hw0 (by lia)) DEs.nil))))))) ?_
  refine DS.seq (DS.noRet (DT.cmp (DC.ne (.list (.cons (.list (Sames.ints _)) (.cons (.list (Sames.ints _)) .nil)))) (DE.list (DEs.cons (DE.var rfl) (DEs.cons (DE.var rfl) DEs.nil))) (DE.list (DEs.cons (hz0 rfl) (DEs.cons (hz1 rfl) DEs.nil))))) ?_
  refine DS.seq (DS.noRet (DT.cmp (DC.ne (.tup (.cons (.list (Sames.ints _)) (.cons (.list (Sames.ints _)) (.cons (.int _) (.cons (.int _) .nil)))))) (DE.call f2 (DEs.cons (DE.var rfl) (DEs.cons (DE.idxT (DE.var rfl) (DE.int 0) (by decide) rfl) (DEs.cons (DE.idxT (DE.var rfl) (DE.int 1) (by decide) rfl) (DEs.cons (DE.idxT (DE.var rfl) (DE.int 2) (by decide) rfl) (DEs.cons (DE.idxi (n := 0) (DE.var rfl) (DE.int 0) hw0 (by lia)) DEs.nil)))))) (DE.var rfl))) ?_
  refine DS.seq (DS.assign (d := .list ((spots T (lv T wide)).map spotD)) ((DE.comp2 (its := fun d => match d with | .int p => (rangeI (rowOf T p).length).map .int | _ => []) (h := fun d u => .tup [d, u]) (DSr.listi (DE.var rfl) (by lia)) (fun d hd => ?_) (fun d hd u hu => DE.tup (DEs.cons (DE.var rfl) (DEs.cons (DE.var rfl) DEs.nil))) ?_).as ?_)) (h _ _ _)
  · obtain ⟨p, hp, rfl⟩ := List.mem_map.mp hd
    obtain ⟨row, e, _⟩ := OL.closed0 p hp
    have hrow : rowOf T p = row := by simp [rowOf, e]
    have hrb := row_bound W.wf.rows e
    have := DSr.range (DE.leni (a := xIdx (xVar 2) (xVar 0)) (ds := [some (.int p), none, some (.tab T)]) (l := row) (DE.row (DE.var rfl) (DE.var rfl) e) (by lia)) (by lia)
    rw [Int.toNat_natCast, ← hrow] at this
    exact this
  · have hl := spots_len (T := T) (at_ := 0) (L := lv T wide)
    have e : ((lv T wide).map D.int).flatMap (fun d => ((match d with | .int p => (rangeI (rowOf T p).length).map .int | _ => []) : List D).map fun u => D.tup [d, u]) = (spots T (lv T wide)).map spotD := by
      rw [List.flatMap_map]; unfold spots; rw [List.map_flatMap]
      congr 1; funext p; simp [rangeI, Function.comp_def]
    rw [e, List.length_map]; lia
  · rw [List.flatMap_map]; unfold spots; rw [List.map_flatMap]
    congr 2; funext p; simp [rangeI, Function.comp_def]
end
end Mine

/-! ## part B17 -/
set_option maxRecDepth 20000
set_option linter.unusedVariables false
namespace Mine
section
variable {T : Tab} {size : Nat} {wide nar pks : List Int}
/-- the names from 24 on -/
noncomputable abbrev vS (x24 x25 x26 x27 x28 x29 x30 x31 x32 x33 x34 x35 x36 : Option D) : DV := [x24, x25, x26, x27, x28, x29, x30, x31, x32, x33, x34, x35, x36, none]

theorem tot_wr2 {p p' w x : Int} {i i' : Nat} (h : tot T [] ≤ 8) : tot (wr (wr T p i w) p' i' x) [] ≤ 8 := by rw [wr_tot, wr_tot]; exact h

set_option maxHeartbeats 8000000 in
theorem inner {ns ss hd wd : List Int} (W : Wld T size wide) (Nr : Nrw wide pks nar) {S : List Int} {keepD : D} (hk : ∀ q : Int, DC cIn (.int q) keepD (decide (q ∈ S))) (hS : Closed T S) (hwS : ∀ u ∈ wide, (T.lookup u).isSome → u ∈ S) {p p' w x : Int} {i i' : Nat} (hp : p ∈ S) (hp' : p' ∈ S) (hi : i < (rowOf T p).length) (hi' : i' < (rowOf T p').length) (hw : w ∈ wide) (hx : x ∈ wide)
    {x23 x24 x25 x26 x27 x35 x36 : Option D} :
    ∃ y35 y36, DS b_law_inner
      (env8 ns ss hd size wd T wide pks nar (vB2 T size wide nar (some (.ints (rend 0 (only T S) size))) x23 ++ vS x24 x25 x26 x27 (some (spotD (p, i))) (some (spotD (p', i'))) (some (.int w)) (some (.int x)) (some (.tab (wr (wr T p i w) p' i' x))) (some (.tab (wr (wr T p' i' x) p i w))) (some keepD) x35 x36)) .next
      (env8 ns ss hd size wd T wide pks nar (vB2 T size wide nar (some (.ints (rend 0 (only T S) size))) x23 ++ vS x24 x25 x26 x27 (some (spotD (p, i))) (some (spotD (p', i'))) (some (.int w)) (some (.int x)) (some (.tab (wr (wr T p i w) p' i' x))) (some (.tab (wr (wr T p' i' x) p i w))) (some keepD) y35 y36)) := by
  have hb : big = 100000 := rfl
  have h3 := W.three
  have hnl := Nr.len
  have hsm := W.wf.small
  have hgw := W.rts.1 w hw
  have hgx := W.rts.1 x hx
  have WH := W.wf.only hS
  -- the tables written
  have key : ∀ (a b c : Int) (j : Nat) (a' : Int) (j' : Nat), a ∈ S → a' ∈ S → j < (rowOf T a).length → j' < (rowOf T a').length → b ∈ wide → c ∈ wide →
      ∃ st, st = wr (wr T a j b) a' j' c ∧ Wld st size wide ∧ Closed st S ∧ (∀ ds : DV, ∀ (e22 ea ej eb ea' ej' ec : Ex), DE e22 ds (.ints (rend 0 (only T S) size)) → DE ea ds (.int (a / 2)) → DE ej ds (.int j) → DE eb ds (.int b) → DE ea' ds (.int (a' / 2)) → DE ej' ds (.int j') → DE ec ds (.int c) →
        DE (xCall f_with_field [xCall f_with_field [e22, ea, ej, eb], ea', ej', ec]) ds (.ints (rend 0 (only st S) size))) := by
    intro a b c j a' j' ha ha' hj hj' hbw hcw
    have gb := W.rts.1 b hbw
    have gc := W.rts.1 c hcw
    have W1 : Wf (wr T a j b) size := W.wf.wr gb
    have W2 : Wf (wr (wr T a j b) a' j' c) size := W1.wr ⟨wr_good gc.1, gc.2⟩
    have C1 : Closed (wr T a j b) S := hS.wr (hwS b hbw)
    refine ⟨_, rfl, ⟨W2, W.rts.wr.wr, h3, by rw [wr_len, wr_len]; exact W.len, tot_wr2 W.few⟩, C1.wr (fun hs => hwS c hcw (by rw [wr_some] at hs; exact hs)), fun ds e22 ea ej eb ea' ej' ec h22 h1 h2 h3 h4 h5 h6 => ?_⟩
    obtain ⟨row, er, _⟩ := hS a ha
    obtain ⟨row', er', _⟩ := C1 a' ha'
    have hrl : j < row.length := by simpa [rowOf, er] using hj
    have hrl' : j' < row'.length := by
      rw [wr_look] at er'
      cases q : T.lookup a' with
      | none => rw [q] at er'; cases er'
      | some r0 =>
        rw [q] at er'
        have : j' < r0.length := by simpa [rowOf, q] using hj'
        simp only [Option.map_some, Option.some.injEq] at er'
        rw [← er']; split <;> simpa using this
    have d1 := d_with (w := b) WH (p := a) (i := j) (by rw [only_look, if_pos ha]; exact er) hrl
    rw [← wr_only] at d1
    have d2 := d_with (w := c) (W1.only C1) (p := a') (i := j') (by rw [only_look, if_pos ha']; exact er') hrl'
    rw [← wr_only] at d2
    exact DE.call d2 (DEs.cons (DE.call d1 (DEs.cons h22 (DEs.cons h1 (DEs.cons h2 (DEs.cons h3 DEs.nil))))) (DEs.cons h4 (DEs.cons h5 (DEs.cons h6 DEs.nil))))
  obtain ⟨st, hst, Wst, Cst, hA⟩ := key p w x i p' i' hp hp' hi hi' hw hx
  obtain ⟨ts, hts, Wts, Cts, hB⟩ := key p' x w i' p i hp' hp hi' hi hx hw
  rw [← hst, ← hts]
  have hcomm : (p, i) ≠ (p', i') → st = ts := fun hne => by
    rw [hst, hts]
    refine wr_comm ?_
    by_cases h1 : p = p'
    · exact .inr fun h2 => hne (by rw [h1, h2])
    · exact .inl h1
  have isS : ∀ q, (T.lookup q).isSome = true → (st.lookup q).isSome = true := fun q h => by rw [hst, wr_some, wr_some]; exact h
  have Rst : Rts st nar := Wst.rts.sub (Nr.mem W) (by lia)
  have Rts_ : Rts ts nar := Wts.rts.sub (Nr.mem W) (by lia)
  have Ost : Ord st nar [] (lv st nar) := ord12 Wst.few hnl
  have Ots : Ord ts nar [] (lv ts nar) := ord12 Wts.few hnl
  have kst : ∀ u ∈ nar, (st.lookup u).isSome → u ∈ S := fun u hu hs => hwS u (Nr.mem W u hu) (by rw [hst, wr_some, wr_some] at hs; exact hs)
  have kts : ∀ u ∈ nar, (ts.lookup u).isSome → u ∈ S := fun u hu hs => hwS u (Nr.mem W u hu) (by rw [hts, wr_some, wr_some] at hs; exact hs)
  have sst : ∀ q ∈ lv st nar, q ∈ S := Ost.least Cst kst (fun _ h => nomatch h)
  have sts : ∀ q ∈ lv ts nar, q ∈ S := Ots.least Cts kts (fun _ h => nomatch h)
  refine ⟨some (.ints (rend 0 (only st S) size)), some (.ints (rend 0 (only ts S) size)), ?_⟩
  refine DS.seq (DS.assign (hA _ _ _ _ _ _ _ _ (DE.var rfl) (DE.bin (DO.div (by decide)) (DE.idxT (DE.var rfl) (DE.int 0) (by decide) rfl) (DE.int 2)) (DE.idxT (DE.var rfl) (DE.int 1) (by decide) rfl) (DE.var rfl) (DE.bin (DO.div (by decide)) (DE.idxT (DE.var rfl) (DE.int 0) (by decide) rfl) (DE.int 2)) (DE.idxT (DE.var rfl) (DE.int 1) (by decide) rfl) (DE.var rfl))) ?_
  refine DS.seq (DS.assign (hB _ _ _ _ _ _ _ _ (DE.var rfl) (DE.bin (DO.div (by decide)) (DE.idxT (DE.var rfl) (DE.int 0) (by decide) rfl) (DE.int 2)) (DE.idxT (DE.var rfl) (DE.int 1) (by decide) rfl) (DE.var rfl) (DE.bin (DO.div (by decide)) (DE.idxT (DE.var rfl) (DE.int 0) (by decide) rfl) (DE.int 2)) (DE.idxT (DE.var rfl) (DE.int 1) (by decide) rfl) (DE.var rfl))) ?_
  refine DS.seq (DS.noRet ?_) ?_
  · by_cases hst' : (p, i) = (p', i')
    · cases hst'
      refine DT.andF (DT.cmp (r := false) ?_ (DE.var (d := spotD (p, i)) rfl) (DE.var (d := spotD (p, i)) rfl))
      have := DC.neT (a := [p, (i : Int)]) (b := [p, (i : Int)])
      simpa using this
    · refine DT.andT (DT.cmp (r := true) ?_ (DE.var (d := spotD (p, i)) rfl) (DE.var (d := spotD (p', i')) rfl)) (DT.and1 (DT.cmp (DC.ne ?_) (DE.var rfl) (DE.var rfl)))
      · have := DC.neT (a := [p, (i : Int)]) (b := [p', (i' : Int)])
        rw [show decide ([p, (i : Int)] ≠ [p', (i' : Int)]) = true by
          simp only [ne_eq, List.cons.injEq, and_true, decide_not, Bool.not_eq_true', decide_eq_false_iff_not]
          rintro ⟨rfl, h2⟩
          exact hst' (by rw [Int.ofNat_inj.mp h2])] at this
        exact this
      · rw [hcomm hst']; exact .list (Sames.ints _)
  have hp1 : ∀ {t : Tab} (Wt : Wld t size wide), DF f_heap [.tab t, keepD, .int size] (.ints (rend 0 (only t S) size)) := fun Wt => k_heap hk (by lia) Wt.wf.up Wt.wf.nodup Wt.len (Wt.wf.fit.filter _)
  refine DS.seq (DS.noRet (DT.cmp (DC.ne (.list (.cons (.list (Sames.ints _)) (.cons (.list (Sames.ints _)) .nil)))) (DE.list (DEs.cons (DE.var rfl) (DEs.cons (DE.var rfl) DEs.nil))) (DE.list (DEs.cons (DE.call (hp1 Wst) (DEs.cons (DE.var rfl) (DEs.cons (DE.var rfl) (DEs.cons (DE.var rfl) DEs.nil)))) (DEs.cons (DE.call (hp1 Wts) (DEs.cons (DE.var rfl) (DEs.cons (DE.var rfl) (DEs.cons (DE.var rfl) DEs.nil)))) DEs.nil))))) ?_
  refine DS.seq (DS.noRet (DT.cmp (DC.ne (.list (Sames.ints _))) ((DE.call (d_sweeping (Wst.wf.only Cst) (Rst.only kst) (Ost.only Cst kst)) (DEs.cons (DE.var rfl) (DEs.cons (DE.var rfl) DEs.nil))).as (by rw [only_only sst])) (DE.call (d_heapL Wst.wf Wst.len (S := lv st nar)) (DEs.cons (DE.var rfl) (DEs.cons (DE.call (d_order Wst.wf Rst.2) (DEs.cons (DE.var rfl) (DEs.cons (DE.var rfl) DEs.nil))) (DEs.cons (DE.var rfl) DEs.nil)))))) ?_
  refine DS.seq (DS.noRet (DT.cmp (DC.ne pack_same) ((DE.call (d_copying (Wts.wf.only Cts) (Rts_.only kts) (Ots.only Cts kts)) (DEs.cons (DE.var rfl) (DEs.cons (DE.var rfl) DEs.nil))).as (packD_congr fun q hq => rowOf_only (sts q hq))) (DE.call (d_packed Wts.wf Rts_.2 Ots) (DEs.cons (DE.var rfl) (DEs.cons (DE.var rfl) (DEs.cons (DE.var rfl) DEs.nil)))))) DS.pass
end
end Mine

/-! ## part B18 -/
set_option maxRecDepth 20000
set_option linter.unusedVariables false
namespace Mine
section
variable {T : Tab} {size : Nat} {wide nar pks : List Int}
theorem DE.mod3 {ds : DV} {e : Ex} {n : Int} {l : List Int} {a : Ex} (ha : DE a ds (.ints l)) (he : DE e ds (.int n)) (hl : l.length = 3) : DE (xIdx a (xBin oMod e (xInt 3))) ds (.int (l[(n % 3).toNat]?.getD 0)) := by
  refine DE.idxi (n := (n % 3).toNat) ha ((DE.bin (DO.mod (by decide)) he (DE.int 3)).as (by rw [Int.toNat_of_nonneg (by lia)])) ?_ (by lia)
  rw [List.getElem?_eq_getElem (by lia)]; rfl
theorem mod3_mem {l : List Int} {n : Int} (hl : l.length = 3) : l[(n % 3).toNat]?.getD 0 ∈ l := by
  rw [List.getElem?_eq_getElem (by lia)]; exact List.getElem_mem _
theorem closed_keys : Closed T (T.map (·.1)) := fun p hp => by
  obtain ⟨row, e⟩ := look_some hp
  exact ⟨row, e, fun u _ hs => by rw [look_key] at hs; simpa using hs⟩
set_option maxHeartbeats 8000000 in
theorem chunkC2 {ns ss hd wd : List Int} {k : Stm} {fl : DFl} {d' : DV} (W : Wld T size wide) (Nr : Nrw wide pks nar) (hns : 23 ≤ ns.length) {x22 x23 x24 x25 x26 : Option D}
    (h : ∀ y22 y23 y24 y25 y26 y27 y28 y29 y30 y31 y32 y33 y34 y35 y36 : Option D, DS k (env8 ns ss hd size wd T wide pks nar (vB2 T size wide nar y22 y23 ++ vS y24 y25 y26 y27 y28 y29 y30 y31 y32 y33 y34 y35 y36)) fl d') :
    DS (sSeq b_law_33 k) (env8 ns ss hd size wd T wide pks nar (vB2 T size wide nar x22 x23 ++ [x24, x25, x26, some (.list ((spots T (lv T wide)).map spotD))] ++ List.replicate 10 none)) fl d' := by
  have hb : big = 100000 := rfl
  have h3 := W.three
  have hsm := W.wf.small
  have OL : Ord T wide [] (lv T wide) := ord12 W.few (by lia)
  have hs := OL.short W.wf
  have hl := spots_len (T := T) (at_ := 0) (L := lv T wide)
  have htest : DT (tOf (xCmp cGt (xLen (xVar 27)) (xInt 0))) (env8 ns ss hd size wd T wide pks nar (vB2 T size wide nar x22 x23 ++ [x24, x25, x26, some (.list ((spots T (lv T wide)).map spotD))] ++ List.replicate 10 none)) (decide ((((spots T (lv T wide)).map spotD).length : Int) > 0)) := DT.cmp DC.gt (DE.lenL (DE.var rfl) (by simp; lia)) (DE.int 0)
  generalize hsp : spots T (lv T wide) = sp at hl htest ⊢
  by_cases hne : sp = []
  · subst hne
    refine DS.seq (DS.noRet (by simpa using htest)) (h _ _ _ _ _ _ _ _ _ _ _ _ _ _ _)
  · have hpos : 0 < sp.length := List.length_pos_iff.mpr hne
    rw [show decide (((sp.map spotD).length : Int) > 0) = true by simp; lia] at htest
    obtain ⟨n19, h19⟩ : ∃ x, ns[19]? = some x := ⟨_, List.getElem?_eq_getElem (by lia)⟩
    obtain ⟨n20, h20⟩ : ∃ x, ns[20]? = some x := ⟨_, List.getElem?_eq_getElem (by lia)⟩
    obtain ⟨n21, h21⟩ : ∃ x, ns[21]? = some x := ⟨_, List.getElem?_eq_getElem (by lia)⟩
    have pick : ∀ n : Int, ∃ p i, sp[(n % (sp.length : Int)).toNat]? = some (p, i) ∧ p ∈ lv T wide ∧ i < (rowOf T p).length := by
      intro n
      have h0 : 0 ≤ n % (sp.length : Int) := Int.emod_nonneg _ (by lia)
      have h1 : n % (sp.length : Int) < sp.length := Int.emod_lt_of_pos _ (by lia)
      have hlt : (n % (sp.length : Int)).toNat < sp.length := by lia
      have hm : sp[(n % (sp.length : Int)).toNat] ∈ spots T (lv T wide) := by rw [hsp]; exact List.getElem_mem hlt
      obtain ⟨a, b⟩ := spots_mem hm
      exact ⟨_, _, List.getElem?_eq_getElem hlt, a, b⟩
    have at_ : ∀ {ds : DV} {e : Ex} {n : Int} {p : Int} {i : Nat}, gd ds 27 = some (.list (sp.map spotD)) → DE e ds (.int n) → sp[(n % (sp.length : Int)).toNat]? = some (p, i) → DE (xIdx (xVar 27) (xBin oMod e (xLen (xVar 27)))) ds (spotD (p, i)) := by
      intro ds e n p i hg he hpi
      have h0 : 0 ≤ n % (sp.length : Int) := Int.emod_nonneg _ (by lia)
      have h1 : n % (sp.length : Int) < sp.length := Int.emod_lt_of_pos _ (by lia)
      refine DE.idxL (DE.var hg) ((DE.bin (DO.mod (j := (sp.length : Int)) (by lia)) he ((DE.lenL (DE.var hg) (by simp; lia)).as (by simp)))) ⟨h0, by lia⟩ ?_
      rw [List.getElem?_map, hpi]; rfl
    obtain ⟨p, i, e1, hp, hi⟩ := pick n19
    obtain ⟨p', i', e2, hp', hi'⟩ := pick n20
    have hw := mod3_mem (n := n21) h3
    have hx := mod3_mem (n := n21 + 1) h3
    generalize hwv : wide[(n21 % 3).toNat]?.getD 0 = w at hw
    generalize hxv : wide[((n21 + 1) % 3).toNat]?.getD 0 = x at hx
    have cL := OL.closed0
    have hgw := W.rts.1 w hw
    have hgx := W.rts.1 x hx
    have write : ∀ {t : Tab} (Wt : Wf t size) (hl : t.length ≤ 60) {a c : Int} {j : Nat}, (∃ row, t.lookup a = some row ∧ j < row.length) → DF f_write [.tab t, spotD (a, j), .int c] (.tab (wr t a j c)) := fun {t} Wt hl {a c j} hx => by
      obtain ⟨row, er, hr⟩ := hx
      exact k_write Wt.nodup er hr (by have := row_bound Wt.rows er; lia) hl
    have row1 : ∀ {a : Int} {j : Nat}, a ∈ lv T wide → j < (rowOf T a).length → ∃ row, T.lookup a = some row ∧ j < row.length := fun {a j} ha hj => by
      obtain ⟨row, e, _⟩ := cL a ha
      exact ⟨row, e, by simpa [rowOf, e] using hj⟩
    have row2 : ∀ {a b c : Int} {j j' : Nat}, (∃ row, T.lookup a = some row ∧ j < row.length) → ∃ row, (wr T b j' c).lookup a = some row ∧ j < row.length := fun {a b c j j'} ⟨row, e, hr⟩ => by
      refine ⟨_, by rw [wr_look, e]; rfl, ?_⟩
      split <;> simpa using hr
    have hkT : ∀ q : Int, DC cIn (.int q) (.tab T) (decide (q ∈ T.map (·.1))) := fun q => by have := DC.inTab (T := T) (w := q); rw [look_key] at this; exact this
    have hkeys : ∀ q ∈ lv T wide, q ∈ T.map (·.1) := fun q hq => by have := OL.met.keys q hq; rw [look_key] at this; simpa using this
    obtain ⟨y35, y36, in1⟩ := inner (ns := ns) (ss := ss) (hd := hd) (wd := wd) (S := T.map (·.1)) (keepD := .tab T) (x23 := x23) (x24 := x24) (x25 := x25) (x26 := x26) (x27 := some (.list (sp.map spotD))) (x35 := none) (x36 := none) W Nr hkT closed_keys (fun u _ hs => by rw [look_key] at hs; simpa using hs) (hkeys p hp) (hkeys p' hp') hi hi' hw hx
    obtain ⟨z35, z36, in2⟩ := inner (ns := ns) (ss := ss) (hd := hd) (wd := wd) (S := lv T wide) (keepD := .ints (lv T wide)) (x23 := x23) (x24 := x24) (x25 := x25) (x26 := x26) (x27 := some (.list (sp.map spotD))) (x35 := y35) (x36 := y36) W Nr (fun q => DC.inL) cL (fun u hu hs => OL.roots u hu hs) hp hp' hi hi' hw hx
    refine DS.seq (DS.ite (c := true) htest (fun _ => ?_) (fun h => nomatch h)) (h (some (.ints (rend 0 (only T (lv T wide)) size))) x23 x24 x25 x26 (some (.list (sp.map spotD))) (some (spotD (p, i))) (some (spotD (p', i'))) (some (.int w)) (some (.int x)) (some (.tab (wr (wr T p i w) p' i' x))) (some (.tab (wr (wr T p' i' x) p i w))) (some (.ints (lv T wide))) z35 z36)
    refine DS.seq (DS.assign (at_ rfl (DE.idxi (n := 19) (DE.var rfl) (DE.int 19) h19 (by lia)) e1)) ?_
    refine DS.seq (DS.assign (at_ rfl (DE.idxi (n := 20) (DE.var rfl) (DE.int 20) h20 (by lia)) e2)) ?_
    refine DS.seq (DS.assign (d := .int w) ((DE.mod3 (DE.var rfl) (DE.idxi (n := 21) (DE.var rfl) (DE.int 21) h21 (by lia)) h3).as (by rw [hwv]))) ?_
    refine DS.seq (DS.assign (d := .int x) ((DE.mod3 (DE.var rfl) (DE.bin DO.add (DE.idxi (n := 21) (DE.var rfl) (DE.int 21) h21 (by lia)) (DE.int 1)) h3).as (by rw [hxv]))) ?_
    refine DS.seq (DS.assign (DE.call (write (W.wf.wr hgw) (by rw [wr_len]; exact W.len) (row2 (row1 hp' hi'))) (DEs.cons (DE.call (write W.wf W.len (row1 hp hi)) (DEs.cons (DE.var rfl) (DEs.cons (DE.var rfl) (DEs.cons (DE.var rfl) DEs.nil)))) (DEs.cons (DE.var rfl) (DEs.cons (DE.var rfl) DEs.nil))))) ?_
    refine DS.seq (DS.assign (DE.call (write (W.wf.wr hgx) (by rw [wr_len]; exact W.len) (row2 (row1 hp hi))) (DEs.cons (DE.call (write W.wf W.len (row1 hp' hi')) (DEs.cons (DE.var rfl) (DEs.cons (DE.var rfl) (DEs.cons (DE.var rfl) DEs.nil)))) (DEs.cons (DE.var rfl) (DEs.cons (DE.var rfl) DEs.nil))))) ?_
    refine DS.seq (DS.for_ (DSr.list (l := [.tup [.ints (rend 0 (only T (T.map fun e : Int × List Int => e.1)) size), .tab T], .tup [.ints (rend 0 (only T (lv T wide)) size), .ints (lv T wide)]])
      (DE.list (DEs.cons (DE.tup (DEs.cons ((DE.var (d := .ints (rend 0 T size)) rfl).as (by rw [only_all])) (DEs.cons (DE.var rfl) DEs.nil))) (DEs.cons (DE.tup (DEs.cons (DE.var rfl) (DEs.cons (DE.var rfl) DEs.nil))) DEs.nil))) (by simp [big]))
      (FD.cons DA.pair in1 (FD.cons DA.pair in2 FD.nil))) DS.pass

theorem DS.drop {s : Stm} {ds d' : DV} {fl : DFl} {n : Nat} (h : DS s ds fl d') (hl : d'.length = n) : DS s ds fl (List.replicate n none) := fun nb vs Λ E => by
  obtain ⟨f, vs', Λ', e, p, E', r⟩ := h nb vs Λ E
  refine ⟨f, vs', Λ', e, p, ⟨by rw [E'.len, hl, List.length_replicate], fun i d hd => ?_⟩, r⟩
  unfold gd at hd
  rw [List.getElem?_replicate] at hd
  split at hd <;> cases hd
/-! the blocks of a longer memory -/
theorem pb_gap {mem : List Int} {at_ n : Nat} {r : Option (List Blk)} {pre post : List Int} (hm : mem = pre ++ (gapI n ++ post)) (hp : pre.length = at_) (h : PB mem (at_ + n) r) : ∃ bs : List Blk, PB mem at_ (r.map (bs ++ ·)) := by
  cases n with
  | zero => exact ⟨[], by simpa using h⟩
  | succ n =>
    refine ⟨[(at_, n + 1, decide (-((n : Int) + 1) < 0))], ?_⟩
    refine PB.step (h := -((n : Int) + 1)) (n := n + 1) ?_ ?_ ?_ h
    · rw [hm, List.getElem?_append_right (by lia), hp, Nat.sub_self]; simp [gapI]
    · unfold nOf; rw [if_neg (by lia)]; lia
    · rw [hm]; simp [gapI_len]; lia
theorem pb_rend {size : Nat} {tail : List Int} {mem : List Int} {r : Option (List Blk)} : ∀ {at_ : Nat} {T : Tab} {pre : List Int}, Fit at_ T size → pre.length = at_ → mem = pre ++ (rend at_ T size ++ tail) → PB mem size r → ∃ bs : List Blk, PB mem at_ (r.map (bs ++ ·))
  | at_, [], pre, h, hp, hm, hb => by
    simp only [rend] at hm
    have hle : at_ ≤ size := h
    exact pb_gap (n := size - at_) hm hp (by rw [show at_ + (size - at_) = size by lia]; exact hb)
  | at_, (p, row) :: T, pre, h, hp, hm, hb => by
    have h3 := h.2.2.1
    simp only [rend] at hm
    have hm2 : mem = (pre ++ gapI (adr p - at_) ++ ((row.length : Int) :: row)) ++ (rend (adr p + row.length + 1) T size ++ tail) := by rw [hm]; simp
    have l2 : (pre ++ gapI (adr p - at_) ++ ((row.length : Int) :: row)).length = adr p + row.length + 1 := by simp [gapI_len, hp]; lia
    obtain ⟨bs, ih⟩ := pb_rend h.2.2.2 l2 hm2 hb
    have hstep : PB mem (adr p) ((r.map (bs ++ ·)).map ((adr p, row.length + 1, decide ((row.length : Int) < 0)) :: ·)) := by
      refine PB.step (h := (row.length : Int)) (n := row.length + 1) ?_ ?_ ?_ (by rw [show adr p + (row.length + 1) = adr p + row.length + 1 by lia]; exact ih)
      · rw [hm, List.getElem?_append_right (by lia), List.append_assoc, List.getElem?_append_right (by rw [gapI_len]; lia), gapI_len, show adr p - pre.length - (adr p - at_) = 0 by lia]; simp
      · unfold nOf; rw [if_pos (by lia)]; lia
      · rw [hm2, List.length_append, l2]; lia
    obtain ⟨bs', h'⟩ := pb_gap (mem := mem) (n := adr p - at_) (post := ((row.length : Int) :: row) ++ (rend (adr p + row.length + 1) T size ++ tail)) (by rw [hm]; simp) hp (by rw [show at_ + (adr p - at_) = adr p by lia]; exact hstep)
    refine ⟨bs' ++ (adr p, row.length + 1, decide ((row.length : Int) < 0)) :: bs, ?_⟩
    cases r with
    | none => exact h'
    | some l => simpa using h'
noncomputable def blkR : Option (List Blk) → D
  | none => .none
  | some bs => .list (bs.map blkD)
theorem k_blocksR {mem : List Int} {r : Option (List Blk)} (hl : mem.length ≤ 1000) (h : PB mem 0 r) : DF f_blocks_of [.ints mem] (blkR r) := by
  cases r with
  | none => exact k_blocks hl h
  | some bs => exact k_blocks hl h
theorem blocks_end {T : Tab} {size : Nat} (hf : Fit 0 T size) (hs : size ≤ 900) {h : Int} (h1 : -3 ≤ h) (h2 : h ≤ 2) : ∃ d, DF f_blocks_of [.ints (rend 0 T size ++ [h, 0])] d ∧ ∀ Λ x, Den Λ x d → decide (x = V.none) = decide (h ∈ [(-3 : Int), 2]) := by
  have hl := rend_len hf
  have hlen : (rend 0 T size ++ [h, 0]).length = size + 2 := by simp; lia
  have g0 : (rend 0 T size ++ [h, 0])[size]? = some h := by rw [List.getElem?_append_right (by lia), show size - (rend 0 T size).length = 0 by lia]; rfl
  have g1 : (rend 0 T size ++ [h, 0])[size + 1]? = some 0 := by rw [List.getElem?_append_right (by lia), show size + 1 - (rend 0 T size).length = 1 by lia]; rfl
  have main : ∀ r, PB (rend 0 T size ++ [h, 0]) size r → ∃ bs : List Blk, DF f_blocks_of [.ints (rend 0 T size ++ [h, 0])] (blkR (r.map (bs ++ ·))) := fun r hr => by
    obtain ⟨bs, hb⟩ := pb_rend (size := size) (tail := [h, 0]) (mem := rend 0 T size ++ [h, 0]) (pre := []) hf rfl (by simp) hr
    exact ⟨bs, k_blocksR (by lia) hb⟩
  by_cases hbad : h ∈ [(-3 : Int), 2]
  · obtain ⟨bs, hd⟩ := main none (.bad g0 (by rw [hlen]; simp at hbad; rcases hbad with rfl | rfl <;> simp [nOf] <;> lia))
    refine ⟨_, hd, fun Λ x hx => ?_⟩
    obtain rfl := Den.noneOf hx
    rw [decide_eq_true hbad]; rfl
  · have hn : nOf h = 1 ∨ nOf h = 2 := by
      simp at hbad
      unfold nOf; split <;> lia
    have hr : ∃ l, PB (rend 0 T size ++ [h, 0]) size (some l) := by
      rcases hn with hn | hn
      · exact ⟨_, .step (r := some _) g0 (n := 1) hn (by lia) (.step (r := some []) g1 (n := 1) rfl (by lia) (.done (by lia)))⟩
      · exact ⟨_, .step (r := some []) g0 (n := 2) hn (by lia) (.done (by lia))⟩
    obtain ⟨l, hl⟩ := hr
    obtain ⟨bs, hd⟩ := main (some l) hl
    refine ⟨_, hd, fun Λ x hx => ?_⟩
    obtain ⟨k, xs, rfl, _, _⟩ := hx.listOf
    rw [decide_eq_false hbad]; rfl
set_option maxHeartbeats 8000000 in
theorem chunkD {ns ss hd wd : List Int} (W : Wld T size wide) (Nr : Nrw wide pks nar) (hns : 23 ≤ ns.length) (hwd : wd.drop 8 = wide) (hwl : wd.length ≤ 100) {y22 y23 y24 y25 y26 y27 y28 y29 y30 y31 y32 y33 y34 y35 y36 : Option D} :
    DS (sSeq b_law_34 (sSeq b_law_35 (sSeq b_law_36 (sSeq b_law_37 (sSeq b_law_38 (sSeq b_law_39 sPass)))))) (env8 ns ss hd size wd T wide pks nar (vB2 T size wide nar y22 y23 ++ vS y24 y25 y26 y27 y28 y29 y30 y31 y32 y33 y34 y35 y36)) (.ret (.bool true)) (List.replicate 38 none) := by
  have hb : big = 100000 := rfl
  have h3 := W.three
  have hsm := W.wf.small
  have hpl := Nr.few
  have hnl := Nr.len
  have OL : Ord T wide [] (lv T wide) := ord12 W.few (by lia)
  have ON : Ord T nar [] (lv T nar) := ord12 W.few hnl
  have O1 : Ord T (wide.take 2) [] (lv T (wide.take 2)) := ord12 W.few (by simp; lia)
  have O2 : Ord T (wide.drop 1) [] (lv T (wide.drop 1)) := ord12 W.few (by simp; lia)
  have l1 := (O1.short W.wf).2
  have l2 := (O2.short W.wf).2
  have lL := (OL.short W.wf).1
  obtain ⟨n22, h22⟩ : ∃ x, ns[22]? = some x := ⟨_, List.getElem?_eq_getElem (by lia)⟩
  have rl : ∀ S, (rend 0 (only T S) size).length = size := fun S => by have := rend_len (W.wf.fit.filter fun e => decide (e.1 ∈ S)); rw [Nat.sub_zero] at this; exact this
  have ra := rl (lv T wide)
  have rb := rl (lv T nar)
  have rp : (pk T (plW T (lv T wide)) (lv T wide) ++ gapI (size - topA T 0 (lv T wide))).length ≤ 200 := by
    have := pk_len (T := T) (g := plW T (lv T wide)) (at_ := 0) (m := lv T wide)
    rw [List.length_append, gapI_len]; lia
  have hfit : Fit 0 (only T (lv T wide)) size := W.wf.fit.filter _
  obtain ⟨bd, hbd, hbn⟩ := blocks_end (h := n22 % 6 - 3) hfit (by lia) (by lia) (by lia)
  refine DS.drop (d' := (env8 ns ss hd size wd T wide pks nar (vB2 T size wide nar y22 y23 ++ vS y24 y25 y26 y27 y28 y29 y30 y31 y32 y33 y34 y35 y36)).set 37 (some (.int (n22 % 6 - 3)))) (DS.seq (DS.assign (DE.bin DO.sub (DE.bin (DO.mod (by decide)) (DE.idxi (n := 22) (DE.var rfl) (DE.int 22) h22 (by lia)) (DE.int 6)) (DE.int 3))) (DS.seq (DS.noRet ?_) (DS.seq (DS.noRet ?_) (DS.seq (DS.noRet ?_) (DS.seq (DS.noRet ?_) (DS.seqR (DS.ret (DE.bool true)))))))) rfl
  · have hc := DC.neB (a := decide (n22 % 6 - 3 ∈ [(-3 : Int), 2])) (b := decide (n22 % 6 - 3 ∈ [(-3 : Int), 2]))
    rw [show decide (decide (n22 % 6 - 3 ∈ [(-3 : Int), 2]) ≠ decide (n22 % 6 - 3 ∈ [(-3 : Int), 2])) = false by simp] at hc
    refine DT.cmp hc (DE.cmp (DC.isNone hbn) (DE.call hbd (DEs.cons (DE.bin (DO.cati (by simp only [List.length_cons, List.length_nil]; lia)) (DE.var rfl) (DE.list (DEs.cons (DE.var rfl) (DEs.cons (DE.int 0) DEs.nil)))) DEs.nil)) DE.none) (DE.cmp (DC.inT (l := [-3, 2])) (DE.var rfl) (DE.tup (DEs.cons (DE.neg (DE.int 3)) (DEs.cons (DE.int 2) DEs.nil))))
  · refine DT.not (b := true) (DT.of (DE.allInt (DE.bin (DO.cati ?_) (DE.bin (DO.cati ?_) (DE.bin (DO.cati ?_) (DE.bin (DO.cati ?_) (DE.bin (DO.cati ?_) (DE.var rfl) (DE.var rfl)) (DE.var rfl)) (DE.var rfl)) (DE.idxT (DE.var rfl) (DE.int 0) (by decide) rfl)) (DE.idxT (DE.var rfl) (DE.int 1) (by decide) rfl))))
    all_goals
      simp only [List.length_append, List.length_map] at rp ⊢
      lia
  · refine DT.cmp (DC.ne (.list (.cons (.list (Sames.ints _)) (.cons (.list (Sames.ints _)) (.cons (.list (Sames.ints _)) (.cons (.list (Sames.ints _)) .nil)))))) (DE.list (DEs.cons (DE.var rfl) (DEs.cons (DE.var rfl) (DEs.cons (DE.var rfl) (DEs.cons (DE.var rfl) DEs.nil))))) (DE.list (DEs.cons ?_ (DEs.cons ?_ (DEs.cons ?_ (DEs.cons ?_ DEs.nil)))))
    · exact (DE.call (d_heapT W.wf W.len (T' := T)) (DEs.cons (DE.var rfl) (DEs.cons (DE.var rfl) (DEs.cons (DE.var rfl) DEs.nil)))).as (by rw [only_all])
    · exact (DE.slicei (DE.var rfl) (DP.some (DE.int 8) (by decide)) DP.none (by lia)).as (by rw [← hwd]; rfl)
    · refine (DE.mapD (f := fun p => wide[p.toNat]?.getD 0) (l := pks) (DSr.listi (DE.var rfl) (by lia)) (by lia) fun x hx => ?_).as (by rw [Nr.is])
      obtain ⟨h0, h3'⟩ := Nr.pick x hx
      refine DE.idxi (n := x.toNat) (DE.var rfl) ((DE.var rfl).as (by rw [Int.toNat_of_nonneg h0])) ?_ (by lia)
      rw [List.getElem?_eq_getElem (by lia)]; rfl
    · exact DE.call (d_heapL W.wf W.len (S := lv T wide)) (DEs.cons (DE.var rfl) (DEs.cons (DE.var rfl) (DEs.cons (DE.var rfl) DEs.nil)))
  · exact DT.cmp (DC.ne pack_same) (DE.var rfl) (DE.call (d_packed W.wf W.rts.2 OL) (DEs.cons (DE.var rfl) (DEs.cons (DE.var rfl) (DEs.cons (DE.var rfl) DEs.nil))))
end
end Mine

/-! ## part B19 -/
set_option maxRecDepth 20000
set_option linter.unusedVariables false
namespace Mine
section
theorem hd_of {s0 s1 s2 s3 g0 g1 g2 g3 g4 : Int} : headsP [s0, s1, s2, s3] [g0, g1, g2, g3, g4] = [g0, g0 + s0 + 1 + g1, g0 + s0 + 1 + g1 + s1 + 1 + g2, g0 + s0 + 1 + g1 + s1 + 1 + g2 + s2 + 1 + g3, g0 + s0 + 1 + g1 + s1 + 1 + g2 + s2 + 1 + g3 + s3 + 1 + g4] := by
  simp [headsP, hst]

noncomputable def rowAt (wd : List Int) (i : Nat) (s : Int) : List Int := (wd.take (2 * i + s.toNat)).drop (2 * i)
noncomputable def tabOf (hd wd : List Int) (s0 s1 s2 s3 : Int) : Tab := [(2 * (hd[0]?.getD 0) + 1, rowAt wd 0 s0), (2 * (hd[1]?.getD 0) + 1, rowAt wd 1 s1), (2 * (hd[2]?.getD 0) + 1, rowAt wd 2 s2), (2 * (hd[3]?.getD 0) + 1, rowAt wd 3 s3)]
theorem rowAt_len {wd : List Int} {i : Nat} {s : Int} (hw : wd.length = 11) (hi : i < 4) (hs : 0 ≤ s ∧ s ≤ 2) : (rowAt wd i s).length = s.toNat := by
  simp only [rowAt, List.length_drop, List.length_take]; lia

theorem nn4 {a b c A : Int} (ha : 0 ≤ a ∧ a ≤ A) (hb : 0 ≤ b ∧ b ≤ 2) (hc : 0 ≤ c ∧ c ≤ 3) : 0 ≤ a + b + 1 + c ∧ a + b + 1 + c ≤ A + 6 := by lia
theorem odd_ok {x : Int} (h : 0 ≤ x) : (2 * x + 1) % 2 = 1 ∧ 0 ≤ 2 * x + 1 := by lia
theorem even_ok {c x : Int} : ¬ (2 * (c.natAbs : Int)) % 2 = 1 ∧ 0 ≤ 2 * (c.natAbs : Int) ∧ 2 * (c.natAbs : Int) ≠ 2 * x + 1 := by lia
theorem mod5 {c : Int} (h : ¬ c % 5 = 4) : (c % 5).toNat = 0 ∨ (c % 5).toNat = 1 ∨ (c % 5).toNat = 2 ∨ (c % 5).toNat = 3 := by lia
theorem fit_step {a h s g : Int} {row : List Int} {T : Tab} {size : Nat} (hl : row.length = s.toNat) (ha : 0 ≤ a) (hs : 0 ≤ s) (hg : 0 ≤ g) (e : a + g = h) (k : Fit (h + s + 1).toNat T size) : Fit a.toNat ((2 * h + 1, row) :: T) size := by
  have e1 : adr (2 * h + 1) = h.toNat := by unfold adr; clear k hl; lia
  have e2 : adr (2 * h + 1) + row.length + 1 = (h + s + 1).toNat := by rw [e1, hl]; clear k hl e1; lia
  have hh : 0 ≤ h := e ▸ Int.add_nonneg ha hg
  refine ⟨(odd_ok hh).1, (odd_ok hh).2, e1 ▸ ?_, e2 ▸ k⟩
  clear k hl e1 e2; lia
theorem wgood {g0 h1 h2 h3 z : Int} {r0 r1 r2 r3 : List Int} (p0 : 0 ≤ g0) (p1 : 0 ≤ h1) (p2 : 0 ≤ h2) (p3 : 0 ≤ h3) (c : Int) : GoodW' [(2 * g0 + 1, r0), (2 * h1 + 1, r1), (2 * h2 + 1, r2), (2 * h3 + 1, r3)] (wordOf [g0, h1, h2, h3, z] c) ∧ 0 ≤ wordOf [g0, h1, h2, h3, z] c := by
  unfold GoodW' wordOf
  rw [look_key, decide_eq_true_eq]
  by_cases h4 : c % 5 = 4
  · rw [if_pos h4]
    refine ⟨⟨fun h => (even_ok (x := 0)).1.elim h, fun h => ?_⟩, (even_ok (x := 0)).2.1⟩
    obtain ⟨e, he, hx⟩ := List.mem_map.mp h
    have : ∃ x, e.1 = 2 * x + 1 := by
      simp only [List.mem_cons, List.not_mem_nil, or_false] at he
      rcases he with rfl | rfl | rfl | rfl <;> exact ⟨_, rfl⟩
    obtain ⟨x, h⟩ := this
    exact (even_ok (x := x)).2.2.elim (hx.symm.trans h)
  · rw [if_neg h4]
    rcases mod5 h4 with h | h | h | h <;> rw [h]
    · exact ⟨⟨fun _ => .head _, fun _ => (odd_ok p0).1⟩, (odd_ok p0).2⟩
    · exact ⟨⟨fun _ => .tail _ (.head _), fun _ => (odd_ok p1).1⟩, (odd_ok p1).2⟩
    · exact ⟨⟨fun _ => .tail _ (.tail _ (.head _)), fun _ => (odd_ok p2).1⟩, (odd_ok p2).2⟩
    · exact ⟨⟨fun _ => .tail _ (.tail _ (.tail _ (.head _))), fun _ => (odd_ok p3).1⟩, (odd_ok p3).2⟩
theorem nn3 {h s : Int} (a : 0 ≤ h) (b : 0 ≤ s) : 0 ≤ h + s + 1 := by lia
theorem to2 {s : Int} {n : Nat} (h : 0 ≤ s ∧ s ≤ 2) (e : n = s.toNat) : n ≤ 2 := by lia
theorem four8 {a b c d : Nat} (ha : a ≤ 2) (hb : b ≤ 2) (hc : c ≤ 2) (hd : d ≤ 2) : a + (b + (c + (d + 0))) ≤ 8 := by lia
theorem z100 {z : Int} (h : z ≤ 3 + 6 + 6 + 6 + 6) : z.toNat ≤ 100 := by lia

/-- the world that a script builds -/
theorem built {s0 s1 s2 s3 g0 g1 g2 g3 g4 : Int} {cells : List Int} (hs0 : 0 ≤ s0 ∧ s0 ≤ 2) (hs1 : 0 ≤ s1 ∧ s1 ≤ 2) (hs2 : 0 ≤ s2 ∧ s2 ≤ 2) (hs3 : 0 ≤ s3 ∧ s3 ≤ 2) (hg0 : 0 ≤ g0 ∧ g0 ≤ 3) (hg1 : 0 ≤ g1 ∧ g1 ≤ 3) (hg2 : 0 ≤ g2 ∧ g2 ≤ 3) (hg3 : 0 ≤ g3 ∧ g3 ≤ 3) (hg4 : 0 ≤ g4 ∧ g4 ≤ 3) (hc : cells.length = 11) :
    ∃ size : Nat, (headsP [s0, s1, s2, s3] [g0, g1, g2, g3, g4])[4]? = some (size : Int) ∧
      Wld (tabOf (headsP [s0, s1, s2, s3] [g0, g1, g2, g3, g4]) (cells.map (wordOf (headsP [s0, s1, s2, s3] [g0, g1, g2, g3, g4]))) s0 s1 s2 s3) size ((cells.map (wordOf (headsP [s0, s1, s2, s3] [g0, g1, g2, g3, g4]))).drop 8) := by
  rw [hd_of]
  have b1 := nn4 hg0 hs0 hg1
  have b2 := nn4 b1 hs1 hg2
  have b3 := nn4 b2 hs2 hg3
  have b4 := nn4 b3 hs3 hg4
  generalize e1 : g0 + s0 + 1 + g1 = h1 at *
  generalize e2 : h1 + s1 + 1 + g2 = h2 at *
  generalize e3 : h2 + s2 + 1 + g3 = h3 at *
  generalize e4 : h3 + s3 + 1 + g4 = z at *
  generalize hwd : cells.map (wordOf [g0, h1, h2, h3, z]) = wd
  have hwl : wd.length = 11 := by rw [← hwd, List.length_map, hc]
  have l0 := rowAt_len (i := 0) hwl (by decide) hs0
  have l1 := rowAt_len (i := 1) hwl (by decide) hs1
  have l2 := rowAt_len (i := 2) hwl (by decide) hs2
  have l3 := rowAt_len (i := 3) hwl (by decide) hs3
  have goodw : ∀ u ∈ wd, GoodW' (tabOf [g0, h1, h2, h3, z] wd s0 s1 s2 s3) u ∧ 0 ≤ u := fun u hu => by
    have hu' := hu
    rw [← hwd] at hu'
    obtain ⟨c, _, rfl⟩ := List.mem_map.mp hu'
    exact wgood hg0.1 b1.1 b2.1 b3.1 c
  have w8 : (wd.drop 8).length = 3 := by rw [List.length_drop, hwl]
  refine ⟨z.toNat, congrArg some (Int.toNat_of_nonneg b4.1).symm, ⟨⟨?_, z100 b4.2, ?_⟩, ⟨fun u hu => goodw u (List.mem_of_mem_drop hu), w8 ▸ by decide⟩, w8, Nat.le_of_ble_eq_true rfl, four8 (to2 hs0 l0) (to2 hs1 l1) (to2 hs2 l2) (to2 hs3 l3)⟩⟩
  · refine fit_step (a := 0) l0 (Int.le_refl _) hs0.1 hg0.1 (Int.zero_add _) (fit_step l1 (nn3 hg0.1 hs0.1) hs1.1 hg1.1 e1 (fit_step l2 (nn3 b1.1 hs1.1) hs2.1 hg2.1 e2 (fit_step l3 (nn3 b2.1 hs2.1) hs3.1 hg3.1 e3 ?_)))
    exact Int.toNat_le_toNat (e4 ▸ Int.le_add_of_nonneg_right hg4.1)
  · intro e he u hu
    have : u ∈ wd := by
      simp only [tabOf, List.mem_cons, List.not_mem_nil, or_false] at he
      rcases he with rfl | rfl | rfl | rfl <;> exact List.mem_of_mem_take (List.mem_of_mem_drop hu)
    exact goodw u this

noncomputable abbrev env2 (ns ss hd : List Int) : DV := some (.ints ns) :: some (.ints ss) :: some (.ints hd) :: List.replicate 35 none
theorem four4 {p : Int → Prop} {a b c d : Int} (ha : p a) (hb : p b) (hc : p c) (hd : p d) (i : Nat) (hi : i < 4) : p ([a, b, c, d][i]?.getD 0) := by
  have : i = 0 ∨ i = 1 ∨ i = 2 ∨ i = 3 := by lia
  rcases this with rfl | rfl | rfl | rfl
  · exact ha
  · exact hb
  · exact hc
  · exact hd
theorem lt_100k {i : Nat} (h : i < 23) : i < 100000 := by lia
set_option maxHeartbeats 8000000 in
theorem chunkA {nf : Nat → Int} {ss hd : List Int} {s0 s1 s2 s3 : Int} {size : Nat} {k : Stm} {fl : DFl} {d' : DV} (hss : ss = [s0, s1, s2, s3]) (hs0 : 0 ≤ s0 ∧ s0 ≤ 2) (hs1 : 0 ≤ s1 ∧ s1 ≤ 2) (hs2 : 0 ≤ s2 ∧ s2 ≤ 2) (hs3 : 0 ≤ s3 ∧ s3 ≤ 2) (hhl : hd.length = 5) (hsz : hd[4]? = some (size : Int))
    {ns cells wd wide pks nar : List Int} {T : Tab} (hns : ∀ i, i < 23 → ns[i]? = some (nf i))
    (hcells : cells = [nf 5, nf 6, nf 7, nf 8, nf 9, nf 10, nf 11, nf 12, nf 13, nf 14, nf 15]) (hwd : wd = cells.map (wordOf hd)) (hT : T = tabOf hd wd s0 s1 s2 s3) (hnd : (T.map (·.1)).Nodup) (hwide : wide = wd.drop 8) (hpks : pks = [nf 16 % 4, nf 17 % 4, nf 18 % 4].filter fun p => decide (p < 3)) (hnar : nar = pks.map fun p => wide[p.toNat]?.getD 0)
    (h : DS k (env8 ns ss hd size wd T wide pks nar (List.replicate 29 none)) fl d') :
    DS (sSeq b_law_3 (sSeq b_law_4 (sSeq b_law_5 (sSeq b_law_6 (sSeq b_law_7 (sSeq b_law_8 k)))))) (env2 ns ss hd) fl d' := by
  have hb : big = 100000 := rfl
  have hwl : wd.length = 11 := by rw [hwd, hcells]; rfl
  have hcl : cells.length = 11 := by rw [hcells]; rfl
  have script : ∀ {ds : DV} (i : Nat), gd ds 0 = some (.ints ns) → i < 23 → DE (xIdx (xVar 0) (xInt (i : Int))) ds (.int (nf i)) := fun i hg hi => DE.idxi (DE.var hg) (DE.int _) (hns i hi) (lt_100k hi)
  refine DS.seq (DS.assign (DE.idxi (n := 4) (DE.var rfl) (DE.int 4) hsz (by lia))) ?_
  refine DS.seq (DS.assign (d := .ints wd) ((DE.call (k_words (cells := cells) (heads := hd) (by lia) hhl).df (DEs.cons ?_ (DEs.cons (DE.var rfl) DEs.nil))).as (by rw [hwd]))) ?_
  · rw [hcells]
    refine DE.list (DEs.cons (script 5 rfl (by decide)) (DEs.cons (script 6 rfl (by decide)) (DEs.cons (script 7 rfl (by decide)) (DEs.cons (script 8 rfl (by decide)) (DEs.cons (script 9 rfl (by decide)) (DEs.cons (script 10 rfl (by decide))
      (DEs.cons (script 11 rfl (by decide)) (DEs.cons (script 12 rfl (by decide)) (DEs.cons (script 13 rfl (by decide)) (DEs.cons (script 14 rfl (by decide)) (DEs.cons (script 15 rfl (by decide)) DEs.nil)))))))))))
  refine DS.seq (DS.assign (d := .tab T) ((DE.dictOf (l := T.map fun e => (e.1, D.ints e.2)) ?_ (by rw [hT]; simp [tabOf])).as ?_)) ?_
  · refine (DE.compT (l := (rangeI 4).map .int) (h := fun d => match d with | .int i => .tup [.int (2 * (hd[i.toNat]?.getD 0) + 1), .ints (rowAt wd i.toNat (ss[i.toNat]?.getD 0))] | d => d) (DSr.range (DE.int 4) (by decide)) (by simp [rangeI, big]) fun d hd' => ?_).as ?_
    · have : ∃ i : Nat, i < 4 ∧ d = .int (i : Int) := by
        obtain ⟨x, hx, rfl⟩ := List.mem_map.mp hd'
        simp only [rangeI] at hx
        obtain ⟨i, hi, rfl⟩ := List.mem_map.mp hx
        exact ⟨i, List.mem_range.mp hi, rfl⟩
      obtain ⟨i, hi, rfl⟩ := this
      have hh : hd[i]? = some (hd[i]?.getD 0) := by rw [List.getElem?_eq_getElem (by lia)]; rfl
      have hs : ss[i]? = some (ss[i]?.getD 0) := by rw [hss, List.getElem?_eq_getElem (by simpa using hi)]; rfl
      have hsb : 0 ≤ ss[i]?.getD 0 ∧ ss[i]?.getD 0 ≤ 2 := by
        rw [hss]
        exact four4 (p := fun x => 0 ≤ x ∧ x ≤ 2) hs0 hs1 hs2 hs3 i hi
      simp only [Int.toNat_natCast]
      generalize ss[i]?.getD 0 = si at hs hsb
      refine DE.tup (DEs.cons (DE.bin DO.add (DE.bin DO.mul (DE.int 2) (DE.idxi (DE.var rfl) (DE.var rfl) hh (by lia))) (DE.int 1)) (DEs.cons ?_ DEs.nil))
      refine (DE.slicei (l := wd) (DE.var rfl) (DP.some (DE.bin DO.mul (DE.int 2) (DE.var rfl)) (by lia)) (DP.some (DE.bin DO.add (DE.bin DO.mul (DE.int 2) (DE.var rfl)) (DE.idxi (DE.var rfl) (DE.var rfl) hs (by lia))) (by lia)) (by lia)).as ?_
      simp only [cutI, Option.getD_some, rowAt]
      rw [show (2 * (i : Int)).toNat = 2 * i by lia, show (2 * (i : Int) + si).toNat = 2 * i + si.toNat by lia]
    · rw [hT, hss]; rfl
  · have := puts_new (l := T.map fun e => (e.1, D.ints e.2)) (acc := []) (by rw [tab_keys]; simpa using hnd)
    rw [this]; rfl
  refine DS.seq (DS.assign (d := .ints wide) ((DE.slicei (l := wd) (DE.var rfl) (DP.some (DE.int 8) (by decide)) DP.none (by lia)).as (by rw [hwide]; rfl))) ?_
  have hmod : ∀ {ds : DV} (i : Nat), gd ds 0 = some (.ints ns) → i < 23 → DE (xBin oMod (xIdx (xVar 0) (xInt (i : Int))) (xInt 4)) ds (.int (nf i % 4)) := fun i hg hi => DE.bin (DO.mod (by decide)) (script i hg hi) (DE.int 4)
  refine DS.seq (DS.assign (d := .ints pks) ((DE.filterD (l := [nf 16 % 4, nf 17 % 4, nf 18 % 4]) (q := fun p => decide (p < 3)) (DSr.listi (DE.list (DEs.cons (hmod 16 rfl (by decide)) (DEs.cons (hmod 17 rfl (by decide)) (DEs.cons (hmod 18 rfl (by decide)) DEs.nil)))) (by simp)) (by simp) (fun x _ => DT.and1 (DT.cmp DC.lt (DE.var rfl) (DE.int 3))) (fun x _ => DE.var rfl)).as (by rw [hpks]))) ?_
  have hpl : pks.length ≤ 3 := by rw [hpks]; exact Nat.le_trans (List.length_filter_le _ _) (by simp)
  have hwil : wide.length = 3 := by rw [hwide]; simp; lia
  refine DS.seq (DS.assign (d := .ints nar) ((DE.mapD (f := fun p => wide[p.toNat]?.getD 0) (l := pks) (DSr.listi (DE.var rfl) (by lia)) (by lia) fun x hx => ?_).as (by rw [hnar]))) h
  have hx' : 0 ≤ x ∧ x < 3 := by
    rw [hpks] at hx
    obtain ⟨h1, h2⟩ := List.mem_filter.mp hx
    simp only [decide_eq_true_eq] at h2
    simp only [List.mem_cons, List.not_mem_nil, or_false] at h1
    rcases h1 with rfl | rfl | rfl <;> lia
  refine DE.idxi (n := x.toNat) (DE.var rfl) ((DE.var rfl).as (by rw [Int.toNat_of_nonneg hx'.1])) ?_ (by lia)
  rw [List.getElem?_eq_getElem (by lia)]; rfl
end
end Mine

/-! ## part B20 -/
set_option maxRecDepth 20000
set_option linter.unusedVariables false
namespace Mine
noncomputable def gapsL : List (List Int) := [[0, 0, 0, 0, 0], [0, 0, 0, 0, 1], [1, 0, 0, 0, 0], [0, 2, 0, 1, 0], [0, 0, 1, 0, 3], [2, 1, 0, 0, 0]]
theorem gaps_den {t : Led} : Den (gaps0 ++ t) (.ref 0) (.tup (gapsL.map fun g => .tup (g.map .int))) :=
  .tup rfl (.cons (.tup rfl (Dens.intsD [0, 0, 0, 0, 0])) (.cons (.tup rfl (Dens.intsD [0, 0, 0, 0, 1])) (.cons (.tup rfl (Dens.intsD [1, 0, 0, 0, 0])) (.cons (.tup rfl (Dens.intsD [0, 2, 0, 1, 0])) (.cons (.tup rfl (Dens.intsD [0, 0, 1, 0, 3])) (.cons (.tup rfl (Dens.intsD [2, 1, 0, 0, 0])) .nil))))))
theorem gaps_are {g : List Int} (h : g ∈ gapsL) : ∃ g0 g1 g2 g3 g4, g = [g0, g1, g2, g3, g4] ∧ (0 ≤ g0 ∧ g0 ≤ 3) ∧ (0 ≤ g1 ∧ g1 ≤ 3) ∧ (0 ≤ g2 ∧ g2 ≤ 3) ∧ (0 ≤ g3 ∧ g3 ≤ 3) ∧ (0 ≤ g4 ∧ g4 ≤ 3) := by
  simp only [gapsL, List.mem_cons, List.not_mem_nil, or_false] at h
  rcases h with rfl | rfl | rfl | rfl | rfl | rfl <;> exact ⟨_, _, _, _, _, rfl, by lia, by lia, by lia, by lia, by lia⟩

theorem at23 {ns : List Int} (h : 23 ≤ ns.length) (i : Nat) (hi : i < 23) : ns[i]? = some (ns[i]?.getD 0) := by
  rw [List.getElem?_eq_getElem (Nat.lt_of_lt_of_le hi h)]; rfl

noncomputable abbrev env0 (ns : List Int) : DV := some (.ints ns) :: List.replicate 37 none
theorem env0_ok (ns : List Int) : EnvD (some (.ref 7) :: List.replicate 37 none) (gaps0 ++ [.list (ns.map .int)]) (env0 ns) := (EnvD.nones 37).cons (.ofInts rfl)

theorem m3b (n : Int) : 0 ≤ n % 3 ∧ n % 3 ≤ 2 := by lia
theorem m6b (n : Int) : (n % 6).toNat < 6 := by lia
theorem m6c (n : Int) : 0 ≤ n % 6 ∧ n % 6 < 100000 := by lia
set_option maxHeartbeats 8000000 in
theorem hplain (ns : List Int) (hmax : ns.length ≤ 63) : ∃ Λ', f_law [.ref 7] (gaps0 ++ [.list (ns.map .int)]) = some (.bool true, Λ') := by
  have hb : big = 100000 := rfl
  have hlen : DT (tOf (xCmp cLt (xLen (xVar 0)) (xInt 23))) (env0 ns) (decide ((ns.length : Int) < 23)) := DT.cmp DC.lt (DE.leni (DE.var rfl) (by lia)) (DE.int 23)
  by_cases hshort : ns.length < 23
  · rw [show decide ((ns.length : Int) < 23) = true by simp; lia] at hlen
    have : DS b_law (env0 ns) (.ret (.bool true)) (env0 ns) := DS.seqR (DS.ite (c := true) hlen (fun _ => DS.seqR (DS.ret (DE.bool true))) (fun h => nomatch h))
    obtain ⟨f, vs', Λ', e, p, E, r⟩ := this 8 _ _ (env0_ok ns)
    cases f with
    | next => exact r.elim
    | ret v =>
      obtain rfl := r.boolOf
      exact ⟨Λ', def_run rfl e⟩
  · rw [show decide ((ns.length : Int) < 23) = false by simp; lia] at hlen
    have h23' : 23 ≤ ns.length := by lia
    obtain ⟨nf, hns⟩ : ∃ nf : Nat → Int, ∀ i, i < 23 → ns[i]? = some (nf i) := ⟨_, at23 h23'⟩
    -- what the script builds
    have hi6 : (nf 4 % 6).toNat < gapsL.length := m6b _
    obtain ⟨gs, hgs⟩ : ∃ gs, gapsL[(nf 4 % 6).toNat]? = some gs := ⟨_, List.getElem?_eq_getElem hi6⟩
    obtain ⟨g0, g1, g2, g3, g4, hge, b0, b1, b2, b3, b4⟩ := gaps_are (List.mem_of_getElem? hgs)
    obtain ⟨size, hsz, W⟩ := built (s0 := nf 0 % 3) (s1 := nf 1 % 3) (s2 := nf 2 % 3) (s3 := nf 3 % 3) (cells := [nf 5, nf 6, nf 7, nf 8, nf 9, nf 10, nf 11, nf 12, nf 13, nf 14, nf 15]) (m3b _) (m3b _) (m3b _) (m3b _) b0 b1 b2 b3 b4 rfl
    rw [← hge] at hsz W
    generalize hss : [nf 0 % 3, nf 1 % 3, nf 2 % 3, nf 3 % 3] = ss at hsz W
    have hssl : ss.length = 4 := by rw [← hss]; rfl
    have hgl : gs.length = 5 := by rw [hge]; rfl
    generalize hhd : headsP ss gs = hd at hsz W
    have hhl : hd.length = 5 := by rw [← hhd]; simp [headsP, hst_len]
    generalize hcells : [nf 5, nf 6, nf 7, nf 8, nf 9, nf 10, nf 11, nf 12, nf 13, nf 14, nf 15] = cells at W
    generalize hwd : cells.map (wordOf hd) = wd at W
    generalize hT : tabOf hd wd (nf 0 % 3) (nf 1 % 3) (nf 2 % 3) (nf 3 % 3) = T at W
    generalize hwide : wd.drop 8 = wide at W
    generalize hpks : ([nf 16 % 4, nf 17 % 4, nf 18 % 4].filter fun p => decide (p < 3)) = pks
    generalize hnar : (pks.map fun p => wide[p.toNat]?.getD 0) = nar
    have Nr : Nrw wide pks nar := by
      refine ⟨fun x hx => ?_, by rw [← hpks]; exact Nat.le_trans (List.length_filter_le _ _) (by simp), hnar.symm⟩
      rw [← hpks] at hx
      obtain ⟨h1, h2⟩ := List.mem_filter.mp hx
      simp only [decide_eq_true_eq] at h2
      simp only [List.mem_cons, List.not_mem_nil, or_false] at h1
      rcases h1 with rfl | rfl | rfl <;> lia
    have hwdl : wd.length ≤ 100 := by rw [← hwd, ← hcells]; simp
    -- the statements from 3 on
    have hrest : DS (sSeq b_law_3 (sSeq b_law_4 (sSeq b_law_5 (sSeq b_law_6 (sSeq b_law_7 (sSeq b_law_8 (sSeq b_law_9 (sSeq b_law_10 (sSeq b_law_11 (sSeq b_law_12 (sSeq b_law_13 (sSeq b_law_14 (sSeq b_law_15 (sSeq b_law_16 (sSeq b_law_17 (sSeq b_law_18 (sSeq b_law_19 (sSeq b_law_20 (sSeq b_law_21 (sSeq b_law_22 (sSeq b_law_23 (sSeq b_law_24 (sSeq b_law_25 (sSeq b_law_26 (sSeq b_law_27 (sSeq b_law_28 (sSeq b_law_29 (sSeq b_law_30 (sSeq b_law_31 (sSeq b_law_32 (sSeq b_law_33 (sSeq b_law_34 (sSeq b_law_35 (sSeq b_law_36 (sSeq b_law_37 (sSeq b_law_38 (sSeq b_law_39 sPass))))))))))))))))))))))))))))))))))))) (env2 ns ss hd) (.ret (.bool true)) (List.replicate 38 none) :=
      chunkA hss.symm (m3b _) (m3b _) (m3b _) (m3b _) hhl hsz hns hcells.symm hwd.symm hT.symm W.wf.nodup hwide.symm hpks.symm hnar.symm
        (chunkB1 W Nr (chunkB2 W Nr fun _ _ => chunkC1 W Nr fun _ _ _ => chunkC2 W Nr h23' fun _ _ _ _ _ _ _ _ _ _ _ _ _ _ _ => chunkD W Nr h23' hwide hwdl))
    -- the first three
    obtain ⟨f0, vs0, Λ1, e0, p0, E0, r0⟩ := (DS.noRet (a := sSeq (sRet (xBool true)) sPass) hlen) 8 _ _ (env0_ok ns)
    cases f0 with
    | ret v => exact r0.elim
    | next =>
      have m3 : ∀ {ds : DV} (i : Nat), gd ds 0 = some (.ints ns) → i < 23 → DE (xBin oMod (xIdx (xVar 0) (xInt (i : Int))) (xInt 3)) ds (.int (nf i % 3)) := fun i hg hi => DE.bin (DO.mod (by decide)) (DE.idxi (DE.var hg) (DE.int _) (hns i hi) (lt_100k hi)) (DE.int 3)
      obtain ⟨f1, vs1, Λ2, e1, p1, E1, r1⟩ := (DS.assign (i := 1) (d := .ints ss) ((DE.list (es := [xBin oMod (xIdx (xVar 0) (xInt 0)) (xInt 3), xBin oMod (xIdx (xVar 0) (xInt 1)) (xInt 3), xBin oMod (xIdx (xVar 0) (xInt 2)) (xInt 3), xBin oMod (xIdx (xVar 0) (xInt 3)) (xInt 3)]) (DEs.cons (m3 0 rfl (by decide)) (DEs.cons (m3 1 rfl (by decide)) (DEs.cons (m3 2 rfl (by decide)) (DEs.cons (m3 3 rfl (by decide)) DEs.nil))))).as (by rw [← hss]; rfl))) 8 vs0 Λ1 E0
      cases f1 with
      | ret v => exact r1.elim
      | next =>
        obtain ⟨v2, Λ3, e2, p2, r2⟩ := (DE.var (i := 1) (d := .ints ss) rfl) vs1 Λ2 E1
        have hG : Den Λ3 (.ref 0) (.tup (gapsL.map fun g => .tup (g.map .int))) := gaps_den.mono (ptr p0 (ptr p1 p2))
        obtain ⟨v3, Λ4, e3, p3, r3⟩ := (DE.bin (DO.mod (i := nf 4) (j := 6) (by decide)) (DE.idxi (a := xVar 0) (i := xInt 4) (l := ns) (n := 4) (DE.var rfl) (DE.int 4) (hns 4 (by decide)) (by decide)) (DE.int 6)) vs1 Λ3 (E1.mono p2)
        obtain rfl := r3.intOf
        obtain ⟨kg, xs, hkg, q0, d0⟩ := (hG.mono p3).tupOf
        cases hkg
        obtain ⟨vg, hvg, dg⟩ := d0.getR (i := (nf 4 % 6).toNat) (b := .tup (gs.map .int)) (by rw [List.getElem?_map, hgs]; rfl)
        obtain ⟨v5, Λ5, e5, p5, r5⟩ := k_heads hssl hgl [v2, vg] Λ4 (.cons (r2.mono p3) (.cons dg .nil))
        rw [hhd] at r5
        have hstep : b_law_2 8 vs1 Λ2 = some (.next, vs1.set 2 (some v5), Λ5) := by
          refine run_assign ?_
          have ei : xIdx (xRef 0) (xBin oMod (xIdx (xVar 0) (xInt 4)) (xInt 6)) vs1 Λ3 = some (vg, Λ4) := by
            simp only [xIdx, xRef, Option.bind_eq_bind, Option.bind_some] at e3 ⊢
            simp only [e3, Option.bind_some, idxV, q0]
            rw [if_pos (by lia), hvg]; rfl
          simp only [xCall, xs_, e2, ei, Option.bind_eq_bind, Option.bind_some]
          exact e5
        have E5 : EnvD (vs1.set 2 (some v5)) Λ5 (env2 ns ss hd) := ((E1.mono p2).mono (ptr p3 p5)).set (i := 2) r5
        obtain ⟨f6, vs6, Λ6, e6, p6, E6, r6⟩ := hrest 8 _ Λ5 E5
        cases f6 with
        | next => exact r6.elim
        | ret v =>
          obtain rfl := r6.boolOf
          refine ⟨Λ6, def_run (vs' := vs6) rfl ?_⟩
          exact (run_seq e0).trans ((run_seq e1).trans ((run_seq hstep).trans e6))
end Mine

/-! ## part A2 -/
set_option maxRecDepth 4000
set_option linter.unusedVariables false
namespace Mine
open PySem PySem.Calls PyProof.Rows

def VIs (μ : List Addr) : V → Value → Prop
  | .none, x => x = .none
  | .bool b, x => x = .bool b
  | .int i, x => ∃ t, x = .int i t
  | .ref k, x => ∃ a, μ[k]? = some a ∧ x = .ref a

theorem VIs.mono {μ ν : List Addr} (h : μ <+: ν) : ∀ v x, VIs μ v x → VIs ν v x
  | .none, _, e => e
  | .bool _, _, e => e
  | .int _, _, e => e
  | .ref k, _, ⟨a, e, e'⟩ => ⟨a, by
      obtain ⟨t, rfl⟩ := h
      rw [List.getElem?_append_left (List.getElem?_eq_some_iff.mp e).1]; exact e, e'⟩

def ObjIs (prog : Program) (w : World) (μ : List Addr) (h : Heap) (a : Addr) : O → Prop
  | .list vs => ∃ xs n, IsL h a xs n ∧ All2 (VIs μ) vs xs.toList
  | .tup vs => ∃ xs n, IsT h a xs n ∧ All2 (VIs μ) vs xs.toList
  | .dict es => (a == sysModules) = false ∧ ∃ kvs, h.DictOf (intKind prog w) a kvs ∧ All2 (fun e kv => e.1 = kv.1 ∧ VIs μ e.2 kv.2) es kvs

theorem ObjIs.keep {prog : Program} {w : World} {μ ν : List Addr} {h h' : Heap} {a : Addr} (hμ : μ <+: ν) (hk : h'.get? a = h.get? a) : ∀ {o : O}, ObjIs prog w μ h a o → ObjIs prog w ν h' a o
  | .list _, ⟨xs, n, e, r⟩ => ⟨xs, n, hk.trans e, r.mono (VIs.mono hμ)⟩
  | .tup _, ⟨xs, n, e, r⟩ => ⟨xs, n, hk.trans e, r.mono (VIs.mono hμ)⟩
  | .dict _, ⟨hs, kvs, ⟨o, es, ep, e, r⟩, q⟩ => ⟨hs, kvs, ⟨o, es, ep, hk.trans e, r⟩, q.mono fun _ _ x => ⟨x.1, VIs.mono hμ _ _ x.2⟩⟩

theorem ObjIs.get {prog : Program} {w : World} {μ : List Addr} {h : Heap} {a : Addr} : ∀ {o : O}, ObjIs prog w μ h a o → ∃ x, h.get? a = some x
  | .list _, ⟨_, _, e, _⟩ => ⟨_, e⟩
  | .tup _, ⟨_, _, e, _⟩ => ⟨_, e⟩
  | .dict _, ⟨_, _, ⟨o, _, _, e, _⟩, _⟩ => ⟨o, e⟩

/-- a frame: its environment, the names of its variables, the cells that are its own -/
structure Fm where
  env : Env
  names : List Str
  own : List Str

def Loc (env : Env) (x : Str) (h : Heap) (val : Value) : Prop :=
  (env.kindOf x = some .local ∧ ∃ m, h.Ns env.locals m ∧ m x = some val) ∨
  ((env.kindOf x = some .cell ∨ env.kindOf x = some .free) ∧ ∃ c, env.cells.lookup x = some c ∧ h.IsCell c (some val))

structure Inv (prog : Program) (w : World) (hG : Heap) (B : Addr → Option Obj) (f : Fm) (nb : Nat) (vs : Vars) (Λ : Led) (μ : List Addr) (h : Heap) : Prop where
  len : μ.length = Λ.length
  nbl : nb ≤ μ.length
  obj : ∀ (k : Nat) a o, μ[k]? = some a → Λ[k]? = some o → ObjIs prog w μ h a o
  keep : ∀ b o, B b = some o → h.get? b = some o
  glob : ∀ b o, hG.get? b = some o → B b = some o
  fresh : ∀ (k : Nat) a, nb ≤ k → μ[k]? = some a → B a = none
  nodup : ∀ (j k : Nat) a, nb ≤ k → μ[j]? = some a → μ[k]? = some a → j = k
  nloc : ∀ (k : Nat) a, μ[k]? = some a → a ≠ f.env.locals ∧ ∀ x c, x ∈ f.own → f.env.cells.lookup x = some c → a ≠ c
  bloc : B f.env.locals = none ∧ ∃ m, h.Ns f.env.locals m
  bcel : ∀ x, x ∈ f.own → ∃ c v, f.env.cells.lookup x = some c ∧ h.IsCell c v ∧ B c = none ∧ c ≠ f.env.locals
  acel : ∀ x y c, x ∈ f.own → f.env.cells.lookup x = some c → f.env.cells.lookup y = some c → x = y
  vars : ∀ (i : Nat) x v, f.names[i]? = some x → getV vs i = some v → ∃ val, VIs μ v val ∧ Loc f.env x h val

/-- what a frame must be by its text -/
structure FmOk (f : Fm) : Prop where
  kind : f.env.scope.kind = .function
  nodup : f.names.Nodup
  dbg : ∀ x ∈ f.names, (x == ("__debug__" : Str)) = false ∧ (x == ("__classdict__" : Str)) = false
  stor : ∀ x ∈ f.names, f.env.kindOf x = some .local ∨ f.env.kindOf x = some .cell ∨ f.env.kindOf x = some .free
  glb : f.env.globals = mainGlobals
  blt : f.env.builtins = builtinsNs

/-- room on the stack for d more calls -/
def Rm (d : Nat) (A : Around) : Prop := A.handled = none ∧ A.depth + d < recursionLimit ∧ A.units + 30 * d < cLine
theorem Rm.le {d d' : Nat} {A : Around} (h : Rm d A) (hd : d' ≤ d) : Rm d' A := ⟨h.1, by have := h.2.1; lia, by have := h.2.2; lia⟩

/-- what a step leaves beside heap and tokens -/
def Same (s s' : Shared) : Prop := s'.os = s.os ∧ (AllBare s.gens → AllBare s'.gens)
theorem Same.refl (s : Shared) : Same s s := ⟨rfl, id⟩
theorem Same.trans {s s' s'' : Shared} (h : Same s s') (h' : Same s' s'') : Same s s'' := ⟨h'.1.trans h.1, fun x => h'.2 (h.2 x)⟩
theorem Same.of {s : Shared} {h : Heap} {t : Nat} : Same s { s with heap := h, toks := t } := ⟨rfl, id⟩

section
variable {prog : Program} {w : World} {hG : Heap} {B : Addr → Option Obj} {f : Fm} {nb : Nat} {vs : Vars} {Λ : Led} {μ : List Addr} {h : Heap}

theorem Loc.keep {env : Env} {x : Str} {h h' : Heap} {v : Value} (hk : ∀ b o, h.get? b = some o → h'.get? b = some o) : Loc env x h v → Loc env x h' v
  | .inl ⟨k, m, hn, e⟩ => .inl ⟨k, m, hn.keeps hk, e⟩
  | .inr ⟨k, c, e, hc⟩ => .inr ⟨k, c, e, hc.keeps hk⟩

/-- the heap grows -/
theorem Inv.grow (I : Inv prog w hG B f nb vs Λ μ h) {h' : Heap} (hk : ∀ b o, h.get? b = some o → h'.get? b = some o) : Inv prog w hG B f nb vs Λ μ h' where
  len := I.len
  nbl := I.nbl
  obj := fun k a o e1 e2 => by
    have := I.obj k a o e1 e2
    obtain ⟨x, hx⟩ := this.get
    exact this.keep (List.prefix_refl _) ((hk _ _ hx).trans hx.symm)
  keep := fun b o e => hk _ _ (I.keep b o e)
  glob := I.glob
  fresh := I.fresh
  nodup := I.nodup
  nloc := I.nloc
  bloc := ⟨I.bloc.1, let ⟨m, hm⟩ := I.bloc.2; ⟨m, hm.keeps hk⟩⟩
  bcel := fun x hx => let ⟨c, v, a, b, d⟩ := I.bcel x hx; ⟨c, v, a, b.keeps hk, d⟩
  acel := I.acel
  vars := fun i x v e1 e2 => let ⟨val, a, b⟩ := I.vars i x v e1 e2; ⟨val, a, b.keep hk⟩

theorem Inv.lt (I : Inv prog w hG B f nb vs Λ μ h) {k : Nat} {a : Addr} (e : μ[k]? = some a) : ∃ x, h.get? a = some x := by
  have hk : k < Λ.length := by rw [← I.len]; exact (List.getElem?_eq_some_iff.mp e).1
  exact (I.obj k a Λ[k] e (List.getElem?_eq_getElem hk)).get

/-- several new objects onto the ledger -/
theorem Inv.allocs (I : Inv prog w hG B f nb vs Λ μ h) {h' : Heap} {as : List Addr} {os : List O} (hk : ∀ b o, h.get? b = some o → h'.get? b = some o) (hl : as.length = os.length)
    (hnew : ∀ a ∈ as, h.get? a = none) (hnd : as.Nodup) (ho : ∀ (k : Nat) a o, as[k]? = some a → os[k]? = some o → ObjIs prog w (μ ++ as) h' a o) : Inv prog w hG B f nb vs (Λ ++ os) (μ ++ as) h' := by
  have J := I.grow hk
  have cut : ∀ (k : Nat) a, (μ ++ as)[k]? = some a → (k < μ.length ∧ μ[k]? = some a) ∨ (μ.length ≤ k ∧ as[k - μ.length]? = some a ∧ h.get? a = none) := by
    intro k a e
    rcases Nat.lt_or_ge k μ.length with hlt | hge
    · rw [List.getElem?_append_left hlt] at e; exact .inl ⟨hlt, e⟩
    · rw [List.getElem?_append_right hge] at e; exact .inr ⟨hge, e, hnew _ (List.mem_of_getElem? e)⟩
  have old : ∀ (k : Nat) a, μ[k]? = some a → h.get? a ≠ none := fun k a e q => by obtain ⟨x, hx⟩ := I.lt e; rw [hx] at q; cases q
  refine ⟨by simp [I.len, hl], by have := I.nbl; simp; lia, ?_, J.keep, J.glob, ?_, ?_, ?_, J.bloc, J.bcel, J.acel, ?_⟩
  · intro k a o e1 e2
    rcases cut k a e1 with ⟨hlt, e⟩ | ⟨hge, e, _⟩
    · rw [List.getElem?_append_left (by rw [← I.len]; exact hlt)] at e2
      have := J.obj k a o e e2
      exact this.keep ⟨as, rfl⟩ rfl
    · rw [List.getElem?_append_right (by rw [← I.len]; exact hge), ← I.len] at e2
      exact ho _ a o e e2
  · intro k a hb e
    rcases cut k a e with ⟨_, e⟩ | ⟨_, _, hn⟩
    · exact I.fresh k a hb e
    · cases hq : B a with
      | none => rfl
      | some o => rw [I.keep _ _ hq] at hn; cases hn
  · intro j k a hb e1 e2
    rcases cut j a e1 with ⟨_, e1⟩ | ⟨h1, e1, hn⟩ <;> rcases cut k a e2 with ⟨_, e2⟩ | ⟨h2, e2, hn'⟩
    · exact I.nodup j k a hb e1 e2
    · exact absurd hn' (old _ _ e1)
    · exact absurd hn (old _ _ e2)
    · have h3 := (List.getElem?_eq_some_iff.mp e1)
      have h4 := (List.getElem?_eq_some_iff.mp e2)
      obtain ⟨l1, q1⟩ := h3; obtain ⟨l2, q2⟩ := h4
      have := (List.getElem_inj hnd (h₀ := l1) (h₁ := l2)).mp (q1.trans q2.symm)
      lia
  · intro k a e
    rcases cut k a e with ⟨_, e⟩ | ⟨_, _, hn⟩
    · exact I.nloc k a e
    · refine ⟨?_, ?_⟩
      · rintro rfl
        obtain ⟨m, o, es, ep, q, _⟩ := I.bloc.2
        rw [q] at hn; cases hn
      · rintro x c hx hc rfl
        obtain ⟨c', v, hc', hcel, _⟩ := I.bcel x hx
        rw [hc'] at hc; cases hc
        obtain ⟨o, q, _⟩ := hcel
        rw [q] at hn; cases hn
  · intro i x v e1 e2
    obtain ⟨val, a, b⟩ := J.vars i x v e1 e2
    exact ⟨val, VIs.mono ⟨as, rfl⟩ _ _ a, b⟩

theorem Inv.alloc (I : Inv prog w hG B f nb vs Λ μ h) {h' : Heap} {a : Addr} {o : O} (hk : ∀ b o, h.get? b = some o → h'.get? b = some o)
    (hnew : h.get? a = none) (ho : ObjIs prog w (μ ++ [a]) h' a o) : Inv prog w hG B f nb vs (Λ ++ [o]) (μ ++ [a]) h' :=
  I.allocs hk rfl (by simpa using hnew) (by simp) fun k b q e1 e2 => by
    match k with
    | 0 => simp at e1 e2; subst e1; subst e2; exact ho
    | k + 1 => simp at e1

/-- a push -/
theorem Inv.push (I : Inv prog w hG B f nb vs Λ μ h) (ob : Obj) {o : O} (ho : ObjIs prog w (μ ++ [h.objs.size]) (h.push ob) h.objs.size o) : Inv prog w hG B f nb vs (Λ ++ [o]) (μ ++ [h.objs.size]) (h.push ob) :=
  I.alloc (fun _ _ e => Heap.get?_push_of_some _ e) (by
    cases q : h.get? h.objs.size with
    | none => rfl
    | some o => exact absurd (Heap.lt_size q) (Nat.lt_irrefl _)) ho

theorem pick_last {μ : List Addr} {a : Addr} : (μ ++ [a])[μ.length]? = some a := by simp

/-- the ledger's entry k is turned -/
theorem Inv.update (I : Inv prog w hG B f nb vs Λ μ h) {h' : Heap} {k : Nat} {a : Addr} {o : O} (hnb : nb ≤ k) (hk : μ[k]? = some a) (hs : ∀ b, b ≠ a → h'.get? b = h.get? b)
    (ho : ObjIs prog w μ h' a o) : Inv prog w hG B f nb vs (Λ.set k o) μ h' := by
  have hB : B a = none := I.fresh k a hnb hk
  have hL := I.nloc k a hk
  refine ⟨by simp [I.len], I.nbl, ?_, ?_, I.glob, I.fresh, I.nodup, I.nloc, ⟨I.bloc.1, ?_⟩, ?_, I.acel, ?_⟩
  · intro j b q e1 e2
    by_cases hj : j = k
    · subst hj
      rw [hk] at e1; cases e1
      rw [List.getElem?_set_self (by rw [← I.len]; exact (List.getElem?_eq_some_iff.mp hk).1)] at e2
      cases e2; exact ho
    · rw [List.getElem?_set_ne (Ne.symm hj)] at e2
      have hne : b ≠ a := fun e => hj (I.nodup j k a hnb (e ▸ e1) hk)
      exact (I.obj j b q e1 e2).keep (List.prefix_refl _) (hs b hne)
  · intro b q e
    rw [hs b (by rintro rfl; rw [hB] at e; cases e)]
    exact I.keep b q e
  · obtain ⟨m, q, es, ep, e, r⟩ := I.bloc.2
    exact ⟨m, q, es, ep, (hs _ (Ne.symm hL.1)).trans e, r⟩
  · intro x hx
    obtain ⟨c, v, e1, ⟨q, e2, e3⟩, e4⟩ := I.bcel x hx
    exact ⟨c, v, e1, ⟨q, (hs _ (Ne.symm (hL.2 x c hx e1))).trans e2, e3⟩, e4⟩
  · intro i x v e1 e2
    obtain ⟨val, r, l⟩ := I.vars i x v e1 e2
    refine ⟨val, r, ?_⟩
    rcases l with ⟨kd, m, ⟨q, es, ep, e, rr⟩, em⟩ | ⟨kd, c, ec, ⟨q, e, eq⟩⟩
    · exact .inl ⟨kd, m, ⟨q, es, ep, (hs _ (Ne.symm hL.1)).trans e, rr⟩, em⟩
    · refine .inr ⟨kd, c, ec, q, ?_, eq⟩
      by_cases hca : c = a
      · subst hca
        have hk' : k < Λ.length := by rw [← I.len]; exact (List.getElem?_eq_some_iff.mp hk).1
        have hob := I.obj k c Λ[k] hk (List.getElem?_eq_getElem hk')
        exfalso
        revert hob
        generalize Λ[k] = oo
        cases oo with
        | list vs => rintro ⟨xs, n, e', _⟩; have e' := e'.symm.trans e; cases e'; cases eq
        | tup vs => rintro ⟨xs, n, e', _⟩; have e' := e'.symm.trans e; cases e'; cases eq
        | dict es =>
          rintro ⟨_, kvs, ⟨q', es', ep', e', hx, hd, _⟩, _⟩
          rw [e] at e'; cases e'; rw [eq] at hd; cases hd
      · rw [hs c hca]; exact e
end
end Mine

/-! ## part A3 -/
set_option maxRecDepth 4000
set_option linter.unusedVariables false
namespace Mine
open PySem PySem.Calls PyProof.Rows

/-- the ground: program, world, the heap at the law's call, its globals and built-ins -/
structure Gl where
  prog : Program
  w : World
  hG : Heap
  mg : Str → Option Value
  mb : Str → Option Value

structure GlOk (g : Gl) : Prop where
  glb : g.hG.Ns mainGlobals g.mg
  blt : g.hG.Ns builtinsNs g.mb
  lim : g.hG.NoLimit

abbrev In (g : Gl) := Inv g.prog g.w g.hG

def PostV (g : Gl) (B : Addr → Option Obj) (f : Fm) (nb : Nat) (vs : Vars) (μ : List Addr) (s : Shared) (v : V) (Λ' : Led) (Q : Value → Shared → Prop) : Prop :=
  ∀ val s' μ', Same s s' → μ <+: μ' → In g B f nb vs Λ' μ' s'.heap → VIs μ' v val → Q val s'

/-- an expression is what its combinator says -/
def SE (g : Gl) (d : Nat) (f : Fm) (e : Expr) (x : Ex) : Prop :=
  ∀ (A : Around) (B : Addr → Option Obj) (nb : Nat) (vs : Vars) (Λ : Led) (μ : List Addr) (s : Shared) (v : V) (Λ' : Led) (Q : Value → Shared → Prop) (E : Value → Shared → Prop),
    Rm d A → In g B f nb vs Λ μ s.heap → x vs Λ = some (v, Λ') → PostV g B f nb vs μ s v Λ' Q → wpAny (model g.prog g.w) A (eval e f.env) Q E s

/-- a test -/
def ST (g : Gl) (d : Nat) (f : Fm) (e : Expr) (x : Te) : Prop :=
  ∀ (A : Around) (B : Addr → Option Obj) (nb : Nat) (vs : Vars) (Λ : Led) (μ : List Addr) (s : Shared) (b : Bool) (Λ' : Led) (Q : Bool → Shared → Prop) (E : Value → Shared → Prop),
    Rm d A → In g B f nb vs Λ μ s.heap → x vs Λ = some (b, Λ') → (∀ s' μ', Same s s' → μ <+: μ' → In g B f nb vs Λ' μ' s'.heap → Q b s') →
    wpAny (model g.prog g.w) A (isTrue e f.env (eval e f.env)) Q E s

/-- several expressions -/
def SEs (g : Gl) (d : Nat) (f : Fm) (es : List Expr) (xs : List Ex) : Prop :=
  ∀ (pos : Pos) (A : Around) (B : Addr → Option Obj) (nb : Nat) (vs : Vars) (Λ : Led) (μ : List Addr) (s : Shared) (l : List V) (Λ' : Led) (Q : List Value → Shared → Prop) (E : Value → Shared → Prop),
    Rm d A → In g B f nb vs Λ μ s.heap → xs_ xs vs Λ = some (l, Λ') →
    (∀ vals s' μ', Same s s' → μ <+: μ' → In g B f nb vs Λ' μ' s'.heap → All2 (VIs μ') l vals → Q vals s') →
    wpAny (model g.prog g.w) A (spliced (backTo pos (starEach es f.env))) Q E s

theorem pre_trans {μ ν ρ : List Addr} (h : μ <+: ν) (h' : ν <+: ρ) : μ <+: ρ := List.IsPrefix.trans h h'

section
variable {g : Gl} {d : Nat} {f : Fm}

theorem SE.int {i : Int} {k : Nat} {pos : Pos} : SE g d f (.Constant (.int i) k pos) (xInt i) := by
  intro A B nb vs Λ μ s v Λ' Q E hA I hx hQ
  simp only [xInt, Option.some.injEq, Prod.mk.injEq] at hx
  obtain ⟨rfl, rfl⟩ := hx
  exact wpAny_Constant_int (hQ _ _ μ Same.of (List.prefix_refl _) I ⟨_, rfl⟩)
theorem SE.bool {b : Bool} {k : Nat} {pos : Pos} : SE g d f (.Constant (.bool b) k pos) (xBool b) := by
  intro A B nb vs Λ μ s v Λ' Q E hA I hx hQ
  simp only [xBool, Option.some.injEq, Prod.mk.injEq] at hx
  obtain ⟨rfl, rfl⟩ := hx
  exact wpAny_Constant_bool (hQ _ _ μ (Same.refl _) (List.prefix_refl _) I rfl)
theorem SE.none {k : Nat} {pos : Pos} : SE g d f (.Constant .none k pos) xNone := by
  intro A B nb vs Λ μ s v Λ' Q E hA I hx hQ
  simp only [xNone, Option.some.injEq, Prod.mk.injEq] at hx
  obtain ⟨rfl, rfl⟩ := hx
  exact wpAny_Constant_none (hQ _ _ μ (Same.refl _) (List.prefix_refl _) I rfl)

theorem SE.var (ok : FmOk f) {x : Str} {i : Nat} {pos : Pos} (hi : f.names[i]? = some x) : SE g d f (.Name x pos) (xVar i) := by
  intro A B nb vs Λ μ s v Λ' Q E hA I hx hQ
  simp only [xVar, Option.map_eq_some_iff, Prod.mk.injEq] at hx
  obtain ⟨v', hv, rfl, rfl⟩ := hx
  obtain ⟨val, r, l⟩ := I.vars i x v' hi hv
  have hd := ok.dbg x (List.mem_of_getElem? hi)
  have hq := hQ val s μ (Same.refl _) (List.prefix_refl _) I r
  refine wpAny_Name ?_ hd.1
  rcases l with ⟨kd, m, hn, em⟩ | ⟨kd | kd, c, ec, hc⟩
  · exact wpAny_loadName_local ok.kind kd hn em hq
  · exact wpAny_loadName_cell ok.kind kd ec hc hq
  · exact wpAny_loadName_free ok.kind kd ec hc hq hd.2

/-- an operator on two values -/
def OpOk (op : Operator) (o : V → V → Led → Option (V × Led)) : Prop :=
  ∀ (g : Gl) (f : Fm) (A : Around) (B : Addr → Option Obj) (nb : Nat) (vs : Vars) (Λ : Led) (μ : List Addr) (s : Shared) (a b v : V) (va vb : Value) (Λ' : Led) (Q : Value → Shared → Prop) (E : Value → Shared → Prop),
    In g B f nb vs Λ μ s.heap → VIs μ a va → VIs μ b vb → o a b Λ = some (v, Λ') → PostV g B f nb vs μ s v Λ' Q → wpAny (model g.prog g.w) A (binaryOp op va vb) Q E s

theorem SE.bin {l r : Expr} {op : Operator} {pos : Pos} {o : V → V → Led → Option (V × Led)} {x y : Ex} (ho : OpOk op o) (hl : SE g d f l x) (hr : SE g d f r y) : SE g d f (.BinOp l op r pos) (xBin o x y) := by
  intro A B nb vs Λ μ s v Λ' Q E hA I hx hQ
  obtain ⟨⟨a, Λ1⟩, h1, hx⟩ := bE hx
  obtain ⟨⟨b, Λ2⟩, h2, h3⟩ := bE hx
  try dsimp only at h3
  refine wpAny_BinOp (hl A B nb vs Λ μ s a Λ1 _ _ hA I h1 fun va s1 μ1 S1 p1 I1 r1 => ?_)
  refine hr A B nb vs Λ1 μ1 s1 b Λ2 _ _ hA I1 h2 fun vb s2 μ2 S2 p2 I2 r2 => ?_
  exact ho g f A B nb vs Λ2 μ2 s2 a b v va vb Λ' Q E I2 (VIs.mono p2 _ _ r1) r2 h3 fun val s3 μ3 S3 p3 I3 r3 => hQ val s3 μ3 ((S1.trans S2).trans S3) (pre_trans (pre_trans p1 p2) p3) I3 r3

theorem asList_eq {Λ : Led} {k : Nat} {xs : List V} (h : asList Λ (.ref k) = some xs) : Λ[k]? = some (.list xs) := by
  simp only [asList] at h
  split at h
  · cases h; assumption
  · cases h
theorem asTup_eq {Λ : Led} {v : V} {xs : List V} (h : asTup Λ v = some xs) : ∃ k, v = .ref k ∧ Λ[k]? = some (.tup xs) := by
  unfold asTup at h
  split at h
  · rename_i k
    split at h
    · cases h; exact ⟨k, rfl, by assumption⟩
    · cases h
  · cases h
theorem asList_eq' {Λ : Led} {v : V} {xs : List V} (h : asList Λ v = some xs) : ∃ k, v = .ref k ∧ Λ[k]? = some (.list xs) := by
  cases v with
  | ref k => exact ⟨k, rfl, asList_eq h⟩
  | _ => simp [asList] at h
theorem asDict_eq {Λ : Led} {v : V} {xs : List (Int × V)} (h : asDict Λ v = some xs) : ∃ k, v = .ref k ∧ Λ[k]? = some (.dict xs) := by
  unfold asDict at h
  split at h
  · rename_i k
    split at h
    · cases h; exact ⟨k, rfl, by assumption⟩
    · cases h
  · cases h
theorem asInt_eq {v : V} {i : Int} (h : asInt v = some i) : v = .int i := by
  cases v <;> simp [asInt] at h; subst h; rfl
theorem asBool_eq {v : V} {i : Bool} (h : asBool v = some i) : v = .bool i := by
  cases v <;> simp [asBool] at h; subst h; rfl

variable {A : Around} {B : Addr → Option Obj} {nb : Nat} {vs : Vars} {Λ : Led} {μ : List Addr} {s : Shared} {h : Heap} {Q : Value → Shared → Prop} {E : Value → Shared → Prop}

theorem big_line : big ≤ sizeLine := by decide

/-- a list of the ledger in the heap -/
theorem Inv.list {prog : Program} {w : World} {hG : Heap} (I : Inv prog w hG B f nb vs Λ μ h) {k : Nat} {a : Addr} {xs : List V} (hk : μ[k]? = some a) (hl : Λ[k]? = some (.list xs)) : ∃ items n, IsL h a items n ∧ All2 (VIs μ) xs items.toList := I.obj k a _ hk hl
theorem Inv.tup {prog : Program} {w : World} {hG : Heap} (I : Inv prog w hG B f nb vs Λ μ h) {k : Nat} {a : Addr} {xs : List V} (hk : μ[k]? = some a) (hl : Λ[k]? = some (.tup xs)) : ∃ items n, IsT h a items n ∧ All2 (VIs μ) xs items.toList := I.obj k a _ hk hl
theorem Inv.dict {prog : Program} {w : World} {hG : Heap} (I : Inv prog w hG B f nb vs Λ μ h) {k : Nat} {a : Addr} {es : List (Int × V)} (hk : μ[k]? = some a) (hl : Λ[k]? = some (.dict es)) :
    (a == sysModules) = false ∧ ∃ kvs, h.DictOf (intKind prog w) a kvs ∧ All2 (fun e kv => e.1 = kv.1 ∧ VIs μ e.2 kv.2) es kvs := I.obj k a _ hk hl

/-- a new list at the heap's end -/
theorem postList (I : In g B f nb vs Λ μ s.heap) {xs : List V} {v : V} {Λ' : Led} (hx : newList xs Λ = some (v, Λ')) {items : Array Value} (r : All2 (VIs μ) xs items.toList) (hQ : PostV g B f nb vs μ s v Λ' Q)
    (s' : Shared) (hs : Same s s') (he : s'.heap = s.heap.push { cls := .type "list", data := .seq items }) : Q (.ref s.heap.objs.size) s' := by
  unfold newList at hx
  split at hx
  · simp only [Mine.alloc, Option.some.injEq, Prod.mk.injEq] at hx
    obtain ⟨rfl, rfl⟩ := hx
    refine hQ _ _ (μ ++ [s.heap.objs.size]) hs (List.prefix_append _ _) ?_ ⟨_, by rw [← I.len]; exact pick_last, rfl⟩
    rw [he]
    exact I.push _ ⟨items, 0, Heap.get?_push_size _ rfl, r.mono (VIs.mono (List.prefix_append _ _))⟩
  · cases hx
theorem newList_big {xs : List V} {Λ : Led} {r : V × Led} (hx : newList xs Λ = some r) : xs.length ≤ big := by
  unfold newList at hx; split at hx
  · assumption
  · cases hx

theorem VIs.refOf {μ : List Addr} {k : Nat} {x : Value} (h : VIs μ (.ref k) x) : ∃ a, μ[k]? = some a ∧ x = .ref a := h
theorem VIs.intOf {μ : List Addr} {i : Int} {x : Value} (h : VIs μ (.int i) x) : ∃ t, x = .int i t := h

theorem op_add : OpOk .Add oAdd := by
  intro g f A B nb vs Λ μ s a b v va vb Λ' Q E I ra rb hx hQ
  unfold oAdd at hx
  split at hx
  · obtain ⟨t, rfl⟩ := ra.intOf
    obtain ⟨u, rfl⟩ := rb.intOf
    cases hx
    exact PyProof.Rows.add_int (hQ _ _ μ Same.of (List.prefix_refl _) I ⟨_, rfl⟩)
  · obtain ⟨a, hka, rfl⟩ := ra.refOf
    obtain ⟨b, hkb, rfl⟩ := rb.refOf
    obtain ⟨xs, h1, hx⟩ := bE hx
    obtain ⟨ys, h2, h3⟩ := bE hx
    try dsimp only at h3
    obtain ⟨i1, n1, e1, r1⟩ := I.list hka (asList_eq h1)
    obtain ⟨i2, n2, e2, r2⟩ := I.list hkb (asList_eq h2)
    have hb := newList_big h3
    have l1 := r1.length
    have l2 := r2.length
    refine P.add_list e1 e2 (postList I h3 (items := i1 ++ i2) ?_ hQ _ Same.of rfl) ?_
    · rw [Array.toList_append]; exact r1.append r2
    · have := big_line
      simp at hb l1 l2; lia
  · cases hx

theorem op_sub : OpOk .Sub oSub := by
  intro g f A B nb vs Λ μ s a b v va vb Λ' Q E I ra rb hx hQ
  unfold oSub at hx
  split at hx
  · obtain ⟨t, rfl⟩ := ra.intOf
    obtain ⟨u, rfl⟩ := rb.intOf
    cases hx
    exact PyProof.Rows.sub_int (hQ _ _ μ Same.of (List.prefix_refl _) I ⟨_, rfl⟩)
  · cases hx
theorem op_div : OpOk .FloorDiv oDiv := by
  intro g f A B nb vs Λ μ s a b v va vb Λ' Q E I ra rb hx hQ
  unfold oDiv at hx
  split at hx
  · rename_i i j
    obtain ⟨t, rfl⟩ := ra.intOf
    obtain ⟨u, rfl⟩ := rb.intOf
    split at hx
    · rename_i hj
      cases hx
      refine PyProof.Rows.floordiv_int (by lia) (hQ _ _ μ Same.of (List.prefix_refl _) I ⟨s.toks, ?_⟩) (.inl (PyProof.noPylong_small (by lia)))
      rw [Int.fdiv_eq_ediv_of_nonneg _ (by lia)]
    · cases hx
  · cases hx
theorem op_mod : OpOk .Mod oMod := by
  intro g f A B nb vs Λ μ s a b v va vb Λ' Q E I ra rb hx hQ
  unfold oMod at hx
  split at hx
  · rename_i i j
    obtain ⟨t, rfl⟩ := ra.intOf
    obtain ⟨u, rfl⟩ := rb.intOf
    split at hx
    · rename_i hj
      cases hx
      refine PyProof.Rows.mod_int' (by lia) (hQ _ _ μ Same.of (List.prefix_refl _) I ⟨s.toks, ?_⟩)
      rw [Int.fmod_eq_emod_of_nonneg _ (by lia)]
    · cases hx
  · cases hx

theorem mul_list_ex {prog : Program} {w : World} {l : Addr} {items : Array Value} {k : Nat} {x : Int} {u : Tok} (hl : IsL s.heap l items k)
    (hlo : -(2 ^ 63 : Int) ≤ x) (hhi : x < 2 ^ 63) (hsz : items.size * x.toNat ≤ 2 ^ 24)
    (h : Q (.ref s.heap.objs.size) { s with heap := s.heap.push { cls := .type "list", data := .seq (List.foldl (fun x1 x2 => x1 ++ x2) #[] (List.replicate (if items.isEmpty = true then 0 else x.toNat) items)) } }) :
    wpAny (model prog w) A (binaryOp .Mult (.ref l) (.int x u)) Q E s :=
  wpAny_binaryOp_repeat_ref (T := "list") (U := "int") (by decide) ⟨_, hl, rfl⟩ (fun s' => typeIs_int s' x u) noFill_list_mul F.fills_int_mul F.slot_int_rmul repeat_list F.slot_int_index.lookup
    (call_meets F.slot_int_rmul (typeIs_int s x u) F.entry_int_rmul (F.args_int_rmul_2 _ _) (int___rmul___int_list x u l items k)
      ⟨hl, rfl, ⟨_, hl, rfl⟩, call_meets F.slot_list_mul ⟨_, hl, rfl⟩ F.entry_list_mul (F.args_list_mul_2 _ _)
        (AutoListH.list___mul___list_int_3 l items k x u (by simp [Builtin.List.listFitsIndex]; lia) (by lia) (by simp [Builtin.List.listTooLong, sizeLine]; lia)) ⟨hl, h⟩⟩)

theorem flat_one (n : Nat) (x : Value) : (List.foldl (fun x1 x2 => x1 ++ x2) #[] (List.replicate n #[x])).toList = List.replicate n x := by
  have : ∀ (n : Nat) (acc : Array Value), (List.foldl (fun x1 x2 => x1 ++ x2) acc (List.replicate n #[x])).toList = acc.toList ++ List.replicate n x := by
    intro n
    induction n with
    | zero => intro acc; simp
    | succ n ih => intro acc; rw [List.replicate_succ, List.foldl_cons, ih]; simp [List.replicate_succ]
  simpa using this n #[]
theorem all2_replicate {α β : Type} {R : α → β → Prop} {a : α} {b : β} (h : R a b) : ∀ n, All2 R (List.replicate n a) (List.replicate n b)
  | 0 => .nil
  | n + 1 => .cons h (all2_replicate h n)

theorem op_mul : OpOk .Mult oMul := by
  intro g f A B nb vs Λ μ s a b v va vb Λ' Q E I ra rb hx hQ
  unfold oMul at hx
  split at hx
  · rename_i i j
    obtain ⟨t, rfl⟩ := ra.intOf
    obtain ⟨u, rfl⟩ := rb.intOf
    split at hx
    · rename_i hi
      cases hx
      subst hi
      exact PyProof.Rows.mul_int (hQ _ _ μ Same.of (List.prefix_refl _) I ⟨s.toks, rfl⟩) (IntMulOk.of_left (by decide))
    · cases hx
  · rename_i j n
    obtain ⟨a, hka, rfl⟩ := ra.refOf
    obtain ⟨u, rfl⟩ := rb.intOf
    obtain ⟨xs, h1, h2⟩ := bE hx
    try dsimp only at h2
    split at h2
    · rename_i hc
      obtain ⟨i1, n1, e1, r1⟩ := I.list hka (asList_eq h1)
      obtain ⟨x, rfl⟩ := len1 hc.1
      obtain ⟨y, hy⟩ : ∃ y, i1 = #[y] := by
        have := r1.length
        obtain ⟨l⟩ := i1
        obtain ⟨y, rfl⟩ := len1 this.symm
        exact ⟨y, rfl⟩
      subst hy
      have rxy : VIs μ x y := by cases r1; assumption
      refine mul_list_ex e1 (by have := hc.2; lia) (by have := hc.2; lia) (by have := hc.2; simp; lia) (postList I h2 (items := _) ?_ hQ _ Same.of rfl)
      rw [if_neg (by simp), flat_one]
      have : (List.replicate n.toNat [x]).flatten = List.replicate n.toNat x := by
        induction n.toNat with
        | zero => rfl
        | succ k ih => simp [List.replicate_succ, ih]
      rw [this]
      exact all2_replicate rxy _
    · cases h2
  · cases hx
end
end Mine

/-! ## part A4 -/
set_option maxRecDepth 4000
set_option linter.unusedVariables false
namespace Mine
open PySem PySem.Calls PyProof.Rows PySem.SeqAt

section
variable {g : Gl} {d : Nat} {f : Fm}

/-! equality -/
def pairAt (f : V → V → Option Bool) (xs ys : List V) (j : Nat) : Bool := ((xs[j]?.bind fun x => ys[j]?.bind fun y => f x y)).getD true

theorem allEq_len {f : V → V → Option Bool} : ∀ {xs ys : List V} {b : Bool}, allEq f xs ys = some b → xs.length ≠ ys.length → b = false
  | [], [], _, h, n => absurd rfl n
  | [], _ :: _, _, h, n => by simp [allEq] at h; exact h
  | _ :: _, [], _, h, n => by simp [allEq] at h; exact h
  | x :: xs, y :: ys, b, h, n => by
    obtain ⟨c, _, h⟩ := bE h
    obtain ⟨r, h2, h3⟩ := bE h
    try dsimp only at h3
    have := allEq_len h2 (by simpa using n)
    subst this; simp at h3; exact h3
theorem allEq_def {f : V → V → Option Bool} : ∀ {xs ys : List V} {b : Bool}, allEq f xs ys = some b → ∀ (j : Nat) x y, xs[j]? = some x → ys[j]? = some y → f x y = some (pairAt f xs ys j)
  | [], _, _, h, j, x, y, e1, e2 => by simp at e1
  | _ :: _, [], _, h, j, x, y, e1, e2 => by simp at e2
  | a :: xs, c :: ys, b, h, j, x, y, e1, e2 => by
    obtain ⟨c, h1, h⟩ := bE h
    obtain ⟨r, h2, h3⟩ := bE h
    try dsimp only at h3
    cases j with
    | zero => simp at e1 e2; subst e1 e2; simp [pairAt, h1]
    | succ j =>
      simp at e1 e2
      have := allEq_def h2 j x y e1 e2
      simpa [pairAt] using this
theorem allEq_val {f : V → V → Option Bool} : ∀ {xs ys : List V} {b : Bool}, allEq f xs ys = some b → xs.length = ys.length → b = (List.range xs.length).all (pairAt f xs ys)
  | [], [], b, h, n => by simp [allEq] at h; subst h; rfl
  | [], _ :: _, _, h, n => by simp at n
  | _ :: _, [], _, h, n => by simp at n
  | x :: xs, y :: ys, b, h, n => by
    obtain ⟨c, h1, h⟩ := bE h
    obtain ⟨r, h2, h3⟩ := bE h
    try dsimp only at h3
    have := allEq_val h2 (by simpa using n)
    simp at h3; subst h3
    rw [List.length_cons, List.range_succ_eq_map, List.all_cons, List.all_map, this]
    congr 1
    simp [pairAt, h1]

theorem eqV_refs {Λ : Led} {n j k : Nat} {b : Bool} (h : eqV Λ n (.ref j) (.ref k) = some b) : ∃ m, n = m + 1 ∧ ((∃ xs ys, Λ[j]? = some (.list xs) ∧ Λ[k]? = some (.list ys) ∧ allEq (eqV Λ m) xs ys = some b) ∨
    (∃ xs ys, Λ[j]? = some (.tup xs) ∧ Λ[k]? = some (.tup ys) ∧ allEq (eqV Λ m) xs ys = some b)) := by
  cases n with
  | zero => simp [eqV] at h
  | succ m =>
    refine ⟨m, rfl, ?_⟩
    simp only [eqV] at h
    split at h
    · exact .inl ⟨_, _, by assumption, by assumption, h⟩
    · exact .inr ⟨_, _, by assumption, by assumption, h⟩
    · cases h

variable {A : Around} {B : Addr → Option Obj} {nb : Nat} {vs : Vars} {Λ : Led} {μ : List Addr} {s : Shared} {h : Heap} {Q : Value → Shared → Prop} {E : Value → Shared → Prop}

theorem IsL.val {h : Heap} {a : Addr} {i1 i2 : Array Value} {n1 n2 : Nat} (x : IsL h a i1 n1) (y : IsL h a i2 n2) : i1 = i2 := by
  have := x.symm.trans y; cases this; rfl
theorem IsT.val {h : Heap} {a : Addr} {i1 i2 : Array Value} {n1 n2 : Nat} (x : IsT h a i1 n1) (y : IsT h a i2 n2) : i1 = i2 := by
  have := x.symm.trans y; cases this; rfl

theorem allEq_same {f : V → V → Option Bool} {R : V → Value → Prop} (hf : ∀ x y u b, R x u → R y u → f x y = some b → b = true) : ∀ {xs ys : List V} {us : List Value} {b : Bool}, All2 R xs us → All2 R ys us → allEq f xs ys = some b → b = true
  | _, _, _, b, .nil, .nil, h => by simp [allEq] at h; exact h
  | _, _, _, b, .cons r1 t1, .cons r2 t2, h => by
    obtain ⟨c, h1, h⟩ := bE h
    obtain ⟨r, h2, h3⟩ := bE h
    try dsimp only at h3
    have e1 := hf _ _ _ _ r1 r2 h1
    have e2 := allEq_same hf t1 t2 h2
    subst e1 e2; simpa using h3.symm

theorem eqV_same (I : In g B f nb vs Λ μ h) : ∀ (n : Nat) (v v' : V) (x : Value) (b : Bool), VIs μ v x → VIs μ v' x → eqV Λ n v v' = some b → b = true := by
  intro n
  induction n with
  | zero =>
    intro v v' x b r1 r2 e
    cases v <;> cases v' <;> simp [eqV] at e
    · cases r1; cases r2; simpa using e.symm
    · obtain ⟨t, rfl⟩ := r1; obtain ⟨u, r2⟩ := r2; cases r2; simpa using e.symm
  | succ n ih =>
    intro v v' x b r1 r2 e
    cases v <;> cases v' <;> try (simp [eqV] at e)
    · cases r1; cases r2; simpa using e.symm
    · obtain ⟨t, rfl⟩ := r1; obtain ⟨u, r2⟩ := r2; cases r2; simpa using e.symm
    · rename_i j k
      obtain ⟨a, ha, rfl⟩ := r1; obtain ⟨a', ha', r2⟩ := r2; cases r2
      obtain ⟨m, hm, hh⟩ := eqV_refs (show eqV Λ (n + 1) (.ref j) (.ref k) = some b from by simp only [eqV]; exact e)
      cases hm
      rcases hh with ⟨xs, ys, h1, h2, h3⟩ | ⟨xs, ys, h1, h2, h3⟩
      · obtain ⟨i1, n1, q1, a1⟩ := I.list ha h1
        obtain ⟨i2, n2, q2, a2⟩ := I.list ha' h2
        cases IsL.val q1 q2
        exact allEq_same ih a1 a2 h3
      · obtain ⟨i1, n1, q1, a1⟩ := I.tup ha h1
        obtain ⟨i2, n2, q2, a2⟩ := I.tup ha' h2
        cases IsT.val q1 q2
        exact allEq_same ih a1 a2 h3

theorem All2.at {α β : Type} {R : α → β → Prop} {as : List α} {bs : Array β} (h : All2 R as bs.toList) {j : Nat} (hj : j < bs.size) : ∃ a, as[j]? = some a ∧ R a bs[j] := by
  have : bs.toList[j]? = some bs[j] := by simp [hj]
  exact h.getR this

theorem eqAt (I : In g B f nb vs Λ μ s.heap) : ∀ (n : Nat) (A : Around) (v v' : V) (x y : Value) (b : Bool), A.units + n < cLine → VIs μ v x → VIs μ v' y → eqV Λ n v v' = some b → EqAt A s x y b := by
  intro n
  induction n with
  | zero =>
    intro A v v' x y b hu r1 r2 e
    cases v <;> cases v' <;> simp [eqV] at e
    · cases r1; cases r2; subst e; exact EqAt.bool_bool _ _
    · obtain ⟨t, rfl⟩ := r1; obtain ⟨u, rfl⟩ := r2; subst e; exact EqAt.int_int _ _ _ _
  | succ n ih =>
    intro A v v' x y b hu r1 r2 e
    cases v <;> cases v' <;> try (simp [eqV] at e)
    · cases r1; cases r2; subst e; exact EqAt.bool_bool _ _
    · obtain ⟨t, rfl⟩ := r1; obtain ⟨u, rfl⟩ := r2; subst e; exact EqAt.int_int _ _ _ _
    · rename_i j k
      have e' : eqV Λ (n + 1) (.ref j) (.ref k) = some b := by simp only [eqV]; exact e
      obtain ⟨a, ha, rfl⟩ := r1; obtain ⟨a', ha', rfl⟩ := r2
      by_cases haa : a = a'
      · subst haa
        have := eqV_same I (n + 1) (.ref j) (.ref k) (.ref a) b ⟨a, ha, rfl⟩ ⟨a, ha', rfl⟩ e'
        subst this
        exact EqAt.same _
      · refine EqAt.of_refs haa ?_
        obtain ⟨m, hm, hh⟩ := eqV_refs e'
        cases hm
        rcases hh with ⟨xs, ys, h1, h2, h3⟩ | ⟨xs, ys, h1, h2, h3⟩
        · obtain ⟨i1, n1, q1, a1⟩ := I.list ha h1
          obtain ⟨i2, n2, q2, a2⟩ := I.list ha' h2
          have l1 : xs.length = i1.size := a1.length
          have l2 : ys.length = i2.size := a2.length
          by_cases hl : xs.length = ys.length
          · have hb := allEq_val h3 hl
            rw [hb, l1]
            refine RcAt.lists q1.isList q2.isList (by lia) (by lia) fun j p1 p2 => ?_
            obtain ⟨u, hu1, ru⟩ := a1.at p1
            obtain ⟨v, hv1, rv⟩ := a2.at p2
            exact ih A.in1 u v _ _ _ (by show A.units + 1 + _ < _; lia) ru rv (allEq_def h3 j u v hu1 hv1)
          · cases allEq_len h3 hl
            exact RcAt.lists_lengths q1.isList q2.isList (by simp; lia) (by lia)
        · obtain ⟨i1, n1, q1, a1⟩ := I.tup ha h1
          obtain ⟨i2, n2, q2, a2⟩ := I.tup ha' h2
          have l1 : xs.length = i1.size := a1.length
          have l2 : ys.length = i2.size := a2.length
          have key := RcAt.tuples (A := A) (s := s) (l := a) (b := a') (e := pairAt (eqV Λ n) xs ys) ⟨_, q1, rfl, _, rfl⟩ ⟨_, q2, rfl, _, rfl⟩ (by lia) fun j p1 p2 => by
            obtain ⟨u, hu1, ru⟩ := a1.at p1
            obtain ⟨v, hv1, rv⟩ := a2.at p2
            exact ih A.in1 u v _ _ _ (by show A.units + 1 + _ < _; lia) ru rv (allEq_def h3 j u v hu1 hv1)
          by_cases hl : xs.length = ys.length
          · rw [allEq_val h3 hl]
            have : i1.size = i2.size := by lia
            rw [show min i1.size i2.size = xs.length by lia, this] at key
            simpa using key
          · cases allEq_len h3 hl
            have : (i1.size == i2.size) = false := by simp; lia
            rw [this] at key
            simpa using key

/-- a comparison of two values -/
def CmpOk (op : CmpOp) (c : Cmp) : Prop :=
  ∀ (g : Gl) (f : Fm) (A : Around) (B : Addr → Option Obj) (nb : Nat) (vs : Vars) (Λ : Led) (μ : List Addr) (s : Shared) (a b : V) (va vb : Value) (r : Bool) (Q : Value → Shared → Prop) (E : Value → Shared → Prop),
    A.units + 10 < cLine → In g B f nb vs Λ μ s.heap → VIs μ a va → VIs μ b vb → c a b Λ = some r → (∀ tk, Q (.bool r) { s with toks := tk }) → wpAny (model g.prog g.w) A (compareOp op va vb) Q E s

theorem cmp_eq : CmpOk .Eq cEq := by
  intro g f A B nb vs Λ μ s a b va vb r Q E hu I ra rb hx hQ
  have hQ' : Q (.bool r) s := hQ s.toks
  unfold cEq at hx
  cases a <;> cases b <;> try (simp [eqV] at hx)
  · cases ra; cases rb; subst hx; exact PyProof.Rows.eq_bool hQ'
  · obtain ⟨t, rfl⟩ := ra; obtain ⟨u, rfl⟩ := rb; subst hx; exact PyProof.Rows.eq_int hQ'
  · rename_i j k
    have e' : eqV Λ 3 (.ref j) (.ref k) = some r := by simp only [eqV]; exact hx
    obtain ⟨a, ha, rfl⟩ := ra; obtain ⟨a', ha', rfl⟩ := rb
    obtain ⟨m, hm, hh⟩ := eqV_refs e'
    cases hm
    rcases hh with ⟨xs, ys, h1, h2, h3⟩ | ⟨xs, ys, h1, h2, h3⟩
    · obtain ⟨i1, n1, q1, a1⟩ := I.list ha h1
      obtain ⟨i2, n2, q2, a2⟩ := I.list ha' h2
      have l1 : xs.length = i1.size := a1.length
      have l2 : ys.length = i2.size := a2.length
      by_cases hl : xs.length = ys.length
      · have hb := allEq_val h3 hl
        rw [l1] at hb
        refine eq_listAt q1.isList q2.isList (by lia) (by lia) (fun j p1 p2 => ?_) (hb ▸ hQ')
        obtain ⟨u, hu1, ru⟩ := a1.at p1
        obtain ⟨v, hv1, rv⟩ := a2.at p2
        exact eqAt I 2 A.in1 u v _ _ _ (by show A.units + 1 + _ < _; lia) ru rv (allEq_def h3 j u v hu1 hv1)
      · cases allEq_len h3 hl
        exact eq_list_lengthsAt q1.isList q2.isList (by simp; lia) (by lia) hQ'
    · obtain ⟨i1, n1, q1, a1⟩ := I.tup ha h1
      obtain ⟨i2, n2, q2, a2⟩ := I.tup ha' h2
      have l1 : xs.length = i1.size := a1.length
      have l2 : ys.length = i2.size := a2.length
      refine eq_tupleAt (e := pairAt (eqV Λ 2) xs ys) ⟨_, q1, rfl, _, rfl⟩ ⟨_, q2, rfl, _, rfl⟩ (by lia) (fun j p1 p2 => ?_) ?_
      · obtain ⟨u, hu1, ru⟩ := a1.at p1
        obtain ⟨v, hv1, rv⟩ := a2.at p2
        exact eqAt I 2 A.in1 u v _ _ _ (by show A.units + 1 + _ < _; lia) ru rv (allEq_def h3 j u v hu1 hv1)
      · by_cases hl : xs.length = ys.length
        · have hb := allEq_val h3 hl
          have : i1.size = i2.size := by lia
          rw [show min i1.size i2.size = xs.length by lia, this, ← hb]
          simpa using hQ'
        · cases allEq_len h3 hl
          have : (i1.size == i2.size) = false := by simp; lia
          rw [this]
          simpa using hQ'

theorem cmp_ne : CmpOk .NotEq cNe := by
  intro g f A B nb vs Λ μ s a b va vb r Q E hu I ra rb hx hQ
  have hQ' : Q (.bool r) s := hQ s.toks
  unfold cNe at hx
  simp only [Option.map_eq_some_iff] at hx
  obtain ⟨r', hx, rfl⟩ := hx
  cases a <;> cases b <;> try (simp [eqV] at hx)
  · cases ra; cases rb; subst hx; exact PyProof.Rows.ne_bool hQ'
  · obtain ⟨t, rfl⟩ := ra; obtain ⟨u, rfl⟩ := rb; subst hx; exact PyProof.Rows.ne_int hQ'
  · rename_i j k
    have e' : eqV Λ 3 (.ref j) (.ref k) = some r' := by simp only [eqV]; exact hx
    obtain ⟨a, ha, rfl⟩ := ra; obtain ⟨a', ha', rfl⟩ := rb
    obtain ⟨m, hm, hh⟩ := eqV_refs e'
    cases hm
    rcases hh with ⟨xs, ys, h1, h2, h3⟩ | ⟨xs, ys, h1, h2, h3⟩
    · obtain ⟨i1, n1, q1, a1⟩ := I.list ha h1
      obtain ⟨i2, n2, q2, a2⟩ := I.list ha' h2
      have l1 : xs.length = i1.size := a1.length
      have l2 : ys.length = i2.size := a2.length
      by_cases hl : xs.length = ys.length
      · have hb := allEq_val h3 hl
        rw [l1] at hb
        refine RcNeAt.lists (e := pairAt (eqV Λ 2) xs ys) q1.isList q2.isList (by lia) (by lia) (fun j p1 p2 => ?_) g.prog g.w E Q (hb ▸ hQ')
        obtain ⟨u, hu1, ru⟩ := a1.at p1
        obtain ⟨v, hv1, rv⟩ := a2.at p2
        exact eqAt I 2 A.in1 u v _ _ _ (by show A.units + 1 + _ < _; lia) ru rv (allEq_def h3 j u v hu1 hv1)
      · cases allEq_len h3 hl
        exact RcNeAt.lists_lengths q1.isList q2.isList (by simp; lia) (by lia) g.prog g.w E Q hQ'
    · obtain ⟨i1, n1, q1, a1⟩ := I.tup ha h1
      obtain ⟨i2, n2, q2, a2⟩ := I.tup ha' h2
      have l1 : xs.length = i1.size := a1.length
      have l2 : ys.length = i2.size := a2.length
      refine RcNeAt.tuples (e := pairAt (eqV Λ 2) xs ys) ⟨_, q1, rfl, _, rfl⟩ ⟨_, q2, rfl, _, rfl⟩ (by lia) (fun j p1 p2 => ?_) g.prog g.w E Q ?_
      · obtain ⟨u, hu1, ru⟩ := a1.at p1
        obtain ⟨v, hv1, rv⟩ := a2.at p2
        exact eqAt I 2 A.in1 u v _ _ _ (by show A.units + 1 + _ < _; lia) ru rv (allEq_def h3 j u v hu1 hv1)
      · by_cases hl : xs.length = ys.length
        · have hb := allEq_val h3 hl
          have : i1.size = i2.size := by lia
          rw [show min i1.size i2.size = xs.length by lia, this, ← hb]
          simpa using hQ'
        · cases allEq_len h3 hl
          have : (i1.size == i2.size) = false := by simp; lia
          rw [this]
          simpa using hQ'

theorem cmp_lt : CmpOk .Lt cLt := by
  intro g f A B nb vs Λ μ s a b va vb r Q E hu I ra rb hx hQ
  have hQ' : Q (.bool r) s := hQ s.toks
  obtain ⟨i, h1, hx⟩ := bE hx
  obtain ⟨j, h2, h3⟩ := bE hx
  try dsimp only at h3
  cases asInt_eq h1; cases asInt_eq h2; cases h3
  obtain ⟨t, rfl⟩ := ra; obtain ⟨u, rfl⟩ := rb
  exact PyProof.Rows.lt_int hQ'
theorem cmp_gt : CmpOk .Gt cGt := by
  intro g f A B nb vs Λ μ s a b va vb r Q E hu I ra rb hx hQ
  have hQ' : Q (.bool r) s := hQ s.toks
  obtain ⟨i, h1, hx⟩ := bE hx
  obtain ⟨j, h2, h3⟩ := bE hx
  try dsimp only at h3
  cases asInt_eq h1; cases asInt_eq h2; cases h3
  obtain ⟨t, rfl⟩ := ra; obtain ⟨u, rfl⟩ := rb
  exact PyProof.Rows.gt_int hQ'
theorem cmp_ge : CmpOk .GtE cGe := by
  intro g f A B nb vs Λ μ s a b va vb r Q E hu I ra rb hx hQ
  have hQ' : Q (.bool r) s := hQ s.toks
  obtain ⟨i, h1, hx⟩ := bE hx
  obtain ⟨j, h2, h3⟩ := bE hx
  try dsimp only at h3
  cases asInt_eq h1; cases asInt_eq h2; cases h3
  obtain ⟨t, rfl⟩ := ra; obtain ⟨u, rfl⟩ := rb
  exact PyProof.Rows.ge_int hQ'

/-! membership -/
def isI (i : Int) : Value → Bool
  | .int j _ => j == i
  | _ => false
theorem ints_all : ∀ {xs : List V} {l : List Int} {us : List Value}, allInts xs = some l → All2 (VIs μ) xs us → (∀ u ∈ us, ∃ j t, u = Value.int j t) ∧ ∀ i : Int, us.any (isI i) = decide (i ∈ l)
  | _, l, _, h, .nil => by simp [allInts] at h; subst h; exact ⟨fun _ h => (nomatch h), fun i => by simp⟩
  | a :: _, l, _ :: _, h, .cons r t => by
    cases a <;> simp [allInts] at h
    rename_i i0
    obtain ⟨l', h1, rfl⟩ := h
    obtain ⟨tk, rfl⟩ := r
    obtain ⟨p, q⟩ := ints_all h1 t
    refine ⟨fun u hu => ?_, fun i => ?_⟩
    · rcases List.mem_cons.mp hu with rfl | hu
      · exact ⟨_, _, rfl⟩
      · exact p u hu
    · rw [List.any_cons, q i]
      simp only [isI, List.mem_cons, eq_comm (a := i)]
      by_cases hh : i0 = i <;> simp [hh]

theorem lookup_dict {es : List (Int × V)} {kvs : List (Int × Value)} (r : All2 (fun e kv => e.1 = kv.1 ∧ VIs μ e.2 kv.2) es kvs) (i : Int) :
    (∀ v, es.lookup i = some v → ∃ x, valueAt kvs i = some x ∧ VIs μ v x) ∧ (es.lookup i = none → valueAt kvs i = none) ∧ (decide (i ∈ es.map (·.1)) = (valueAt kvs i).isSome) := by
  induction r with
  | nil => simp [valueAt]
  | @cons e kv es kvs h t ih =>
    obtain ⟨k, v⟩ := e
    obtain ⟨k', x⟩ := kv
    obtain ⟨e1, e2⟩ := h
    simp only at e1 e2
    subst e1
    by_cases hk : k = i
    · subst hk
      refine ⟨fun w hw => ?_, fun hw => ?_, ?_⟩
      · simp at hw; subst hw; exact ⟨x, by simp [valueAt], e2⟩
      · simp at hw
      · simp [valueAt]
    · have hb : (i == k) = false := by simp; exact fun e => hk e.symm
      have hv : valueAt ((k, x) :: kvs) i = valueAt kvs i := by simp [valueAt, hk]
      rw [hv, List.lookup_cons, hb]
      refine ⟨ih.1, ih.2.1, ?_⟩
      rw [← ih.2.2]
      simp [Ne.symm hk]

theorem mem_spec (I : In g B f nb vs Λ μ s.heap) {a b : V} {va vb : Value} {r : Bool} (ra : VIs μ a va) (rb : VIs μ b vb) (hx : mem? a b Λ = some r) :
    (∀ Q' : Value → Shared → Prop, (∀ tk, Q' (.bool r) { s with toks := tk }) → wpAny (model g.prog g.w) A (compareOp .In va vb) Q' E s) ∧
    (∀ Q' : Value → Shared → Prop, (∀ tk, Q' (.bool (!r)) { s with toks := tk }) → wpAny (model g.prog g.w) A (compareOp .NotIn va vb) Q' E s) := by
  unfold mem? at hx
  split at hx
  · rename_i i k
    obtain ⟨t, rfl⟩ := ra; obtain ⟨a, ha, rfl⟩ := rb
    split at hx
    · rename_i xs hl
      simp only [Option.map_eq_some_iff] at hx
      obtain ⟨l, h1, rfl⟩ := hx
      obtain ⟨i1, n1, q1, a1⟩ := I.list ha hl
      obtain ⟨p, q⟩ := ints_all h1 a1
      have he : ∀ y, y ∈ i1 → EqAt A.in1 s y (.int i t) (isI i y) := fun y hy => by
        obtain ⟨j, u, rfl⟩ := p y (by simpa using hy)
        exact EqAt.int_int _ _ _ _
      have hq : i1.any (isI i) = decide (i ∈ l) := by rw [← q i]; simp
      exact ⟨fun Q' hQ => in_listAt (isI i) q1.isList he (by rw [hq]; exact hQ s.toks), fun Q' hQ => notIn_listAt (isI i) q1.isList he (by rw [hq]; exact hQ s.toks)⟩
    · rename_i xs hl
      simp only [Option.map_eq_some_iff] at hx
      obtain ⟨l, h1, rfl⟩ := hx
      obtain ⟨i1, n1, q1, a1⟩ := I.tup ha hl
      obtain ⟨p, q⟩ := ints_all h1 a1
      have he : ∀ y, y ∈ i1 → EqAt A.in1 s y (.int i t) (isI i y) := fun y hy => by
        obtain ⟨j, u, rfl⟩ := p y (by simpa using hy)
        exact EqAt.int_int _ _ _ _
      have hq : i1.any (isI i) = decide (i ∈ l) := by rw [← q i]; simp
      exact ⟨fun Q' hQ => in_tupleAt (isI i) ⟨_, q1, rfl, _, rfl⟩ he (by rw [hq]; exact hQ s.toks), fun Q' hQ => notIn_tupleAt (isI i) ⟨_, q1, rfl, _, rfl⟩ he (by rw [hq]; exact hQ s.toks)⟩
    · rename_i es hl
      cases hx
      obtain ⟨hs, kvs, hd, r⟩ := I.dict ha hl
      have hq := (lookup_dict r i).2.2
      rw [hq]
      exact ⟨fun Q' hQ => wpAny_in_of (intKind_is _ _ i t) hs hd.mapOf (hQ _), fun Q' hQ => wpAny_notIn_of (intKind_is _ _ i t) hs hd.mapOf (hQ _)⟩
    · cases hx
  · cases hx

theorem cmp_in : CmpOk .In cIn := by
  intro g f A B nb vs Λ μ s a b va vb r Q E hu I ra rb hx hQ
  exact (mem_spec I ra rb hx).1 Q hQ
theorem cmp_notIn : CmpOk .NotIn cNotIn := by
  intro g f A B nb vs Λ μ s a b va vb r Q E hu I ra rb hx hQ
  simp only [cNotIn, Option.map_eq_some_iff] at hx
  obtain ⟨r', hx, rfl⟩ := hx
  exact (mem_spec I ra rb hx).2 Q hQ
theorem cmp_is : CmpOk .Is cIs := by
  intro g f A B nb vs Λ μ s a b va vb r Q E hu I ra rb hx hQ
  cases b <;> simp [cIs] at hx
  subst hx
  cases rb
  refine is_none ?_
  have : (va == Value.none) = decide (a = V.none) := by
    cases a with
    | none => cases ra; simp
    | bool b => cases ra; simp
    | int i => obtain ⟨t, rfl⟩ := ra; simp
    | ref k => obtain ⟨a, _, rfl⟩ := ra; simp
  rw [this]; exact hQ s.toks

theorem SE.cmp {l r : Expr} {op : CmpOp} {pos : Pos} {c : Cmp} {x y : Ex} (hd : 1 ≤ d) (ho : CmpOk op c) (hl : SE g d f l x) (hr : SE g d f r y) (hm : behindInMarks op r = false := by with_unfolding_all rfl) :
    SE g d f (.Compare l [op] [r] pos) (xCmp c x y) := by
  intro A B nb vs Λ μ s v Λ' Q E hA I hx hQ
  obtain ⟨⟨a, Λ1⟩, h1, hx⟩ := bE hx
  obtain ⟨⟨b, Λ2⟩, h2, hx⟩ := bE hx
  obtain ⟨c', h3, h4⟩ := bE hx
  try dsimp only at h4
  cases h4
  refine wpAny_Compare1 (hl A B nb vs Λ μ s a Λ1 _ _ hA I h1 fun va s1 μ1 S1 p1 I1 r1 => ?_) hm
  refine hr A B nb vs Λ1 μ1 s1 b _ _ _ hA I1 h2 fun vb s2 μ2 S2 p2 I2 r2 => ?_
  exact ho g f A B nb vs _ μ2 s2 a b va vb c' Q E (by have := hA.2.2; lia) I2 (VIs.mono p2 _ _ r1) r2 h3 fun tk => hQ _ _ μ2 ((S1.trans S2).trans Same.of) (pre_trans p1 p2) I2 rfl

theorem ST.cmp {l r : Expr} {op : CmpOp} {pos : Pos} {c : Cmp} {x y : Ex} (hd : 1 ≤ d) (ho : CmpOk op c) (hl : SE g d f l x) (hr : SE g d f r y) (hm : behindInMarks op r = false := by with_unfolding_all rfl) :
    ST g d f (.Compare l [op] [r] pos) (tOf (xCmp c x y)) := by
  intro A B nb vs Λ μ s v Λ' Q E hA I hx hQ
  simp only [tOf, xCmp, Option.bind_eq_bind, Option.bind_eq_some_iff, Prod.exists] at hx
  obtain ⟨v', Λ3, ⟨a, Λ1, h1, b, Λ2, h2, c', h3, h4⟩, b', h5, h6⟩ := hx
  cases h4; cases h6
  simp [asBool] at h5; subst h5
  refine wpAny_isTrue_Compare1 (hl A B nb vs Λ μ s a Λ1 _ _ hA I h1 fun va s1 μ1 S1 p1 I1 r1 => ?_) hm
  refine hr A B nb vs Λ1 μ1 s1 b _ _ _ hA I1 h2 fun vb s2 μ2 S2 p2 I2 r2 => ?_
  exact ho g f A B nb vs _ μ2 s2 a b va vb _ _ E (by have := hA.2.2; lia) I2 (VIs.mono p2 _ _ r1) r2 h3 fun tk => wpAny_truthy_bool (hQ _ μ2 ((S1.trans S2).trans Same.of) (pre_trans p1 p2) I2)

/-- a test that is a plain value -/
theorem ST.of {e : Expr} {x : Ex} (he : SE g d f e x) (hp : ∀ whole, isTrue e f.env whole = (do let v ← whole; standAt e.pos; holding [v] (truthy v)) := by intro _; rfl) : ST g d f e (tOf x) := by
  intro A B nb vs Λ μ s b Λ' Q E hA I hx hQ
  obtain ⟨⟨a, Λ1⟩, h1, hx⟩ := bE hx
  obtain ⟨b', h2, h3⟩ := bE hx
  try dsimp only at h3
  cases h3
  cases asBool_eq h2
  refine wpAny_isTrue_value (he A B nb vs Λ μ s _ _ _ _ hA I h1 fun va s1 μ1 S1 p1 I1 r1 => ?_) (hp _)
  cases r1
  exact wpAny_truthy_bool (hQ _ μ1 S1 p1 I1)
theorem ST.not {e : Expr} {pos : Pos} {t : Te} (he : ST g d f e t) : ST g d f (.UnaryOp .Not e pos) (tNot t) := by
  intro A B nb vs Λ μ s b Λ' Q E hA I hx hQ
  obtain ⟨⟨a, Λ1⟩, h1, h3⟩ := bE hx
  try dsimp only at h3
  cases h3
  exact wpAny_isTrue_Not (he A B nb vs Λ μ s _ _ _ _ hA I h1 hQ)

/-- a row of «and» -/
def SAnd (g : Gl) (d : Nat) (f : Fm) (es : List Expr) (x : Te) : Prop :=
  ∀ (A : Around) (B : Addr → Option Obj) (nb : Nat) (vs : Vars) (Λ : Led) (μ : List Addr) (s : Shared) (b : Bool) (Λ' : Led) (Q : Bool → Shared → Prop) (E : Value → Shared → Prop),
    Rm d A → In g B f nb vs Λ μ s.heap → x vs Λ = some (b, Λ') → (∀ s' μ', Same s s' → μ <+: μ' → In g B f nb vs Λ' μ' s'.heap → Q b s') →
    wpAny (model g.prog g.w) A (allTrue .And es f.env) Q E s
theorem SAnd.nil : SAnd g d f [] tTrue := by
  intro A B nb vs Λ μ s b Λ' Q E hA I hx hQ
  cases hx
  exact wpAny_allTrue_And_nil (hQ _ μ (Same.refl _) (List.prefix_refl _) I)
theorem SAnd.cons {e : Expr} {es : List Expr} {t u : Te} (he : ST g d f e t) (hes : SAnd g d f es u) : SAnd g d f (e :: es) (tAnd t u) := by
  intro A B nb vs Λ μ s b Λ' Q E hA I hx hQ
  obtain ⟨⟨a, Λ1⟩, h1, h3⟩ := bE hx
  try dsimp only at h3
  refine wpAny_allTrue_And_cons (he A B nb vs Λ μ s a Λ1 _ _ hA I h1 fun s1 μ1 S1 p1 I1 => ?_)
  cases a with
  | true =>
    simp only [if_true] at h3 ⊢
    exact hes A B nb vs Λ1 μ1 s1 b Λ' _ _ hA I1 h3 fun s2 μ2 S2 p2 I2 => hQ s2 μ2 (S1.trans S2) (pre_trans p1 p2) I2
  | false =>
    simp only [Bool.false_eq_true, if_false] at h3 ⊢
    cases h3
    exact hQ s1 μ1 S1 p1 I1
theorem ST.and {es : List Expr} {pos : Pos} {t : Te} (he : SAnd g d f es t) : ST g d f (.BoolOp .And es pos) t := by
  intro A B nb vs Λ μ s b Λ' Q E hA I hx hQ
  exact wpAny_isTrue_BoolOp (he A B nb vs Λ μ s b Λ' Q E hA I hx hQ)

theorem SE.ifx {t a b : Expr} {pos : Pos} {x : Te} {y z : Ex} (ht : ST g d f t x) (ha : SE g d f a y) (hb : SE g d f b z) : SE g d f (.IfExp t a b pos) (xIf x y z) := by
  intro A B nb vs Λ μ s v Λ' Q E hA I hx hQ
  obtain ⟨⟨c, Λ1⟩, h1, h3⟩ := bE hx
  try dsimp only at h3
  refine wpAny_IfExp (ht A B nb vs Λ μ s c Λ1 _ _ hA I h1 fun s1 μ1 S1 p1 I1 => ?_)
  cases c with
  | true =>
    simp only [if_true] at h3 ⊢
    exact ha A B nb vs Λ1 μ1 s1 v Λ' _ _ hA I1 h3 fun val s2 μ2 S2 p2 I2 r => hQ val s2 μ2 (S1.trans S2) (pre_trans p1 p2) I2 r
  | false =>
    simp only [Bool.false_eq_true, if_false] at h3 ⊢
    exact hb A B nb vs Λ1 μ1 s1 v Λ' _ _ hA I1 h3 fun val s2 μ2 S2 p2 I2 r => hQ val s2 μ2 (S1.trans S2) (pre_trans p1 p2) I2 r

theorem SE.neg {e : Expr} {pos : Pos} {x : Ex} (he : SE g d f e x) : SE g d f (.UnaryOp .USub e pos) (xNeg x) := by
  intro A B nb vs Λ μ s v Λ' Q E hA I hx hQ
  obtain ⟨⟨a, Λ1⟩, h1, hx⟩ := bE hx
  obtain ⟨i, h2, h3⟩ := bE hx
  try dsimp only at h3
  cases h3
  cases asInt_eq h2
  refine wpAny_UnaryOp (he A B nb vs Λ μ s _ _ _ _ hA I h1 fun va s1 μ1 S1 p1 I1 r1 => ?_)
  obtain ⟨t, rfl⟩ := r1
  exact PyProof.Rows.neg_int (hQ _ _ μ1 (S1.trans Same.of) p1 I1 ⟨_, rfl⟩)

/-! several expressions; displays -/
theorem SEs.nil : SEs g d f [] [] := by
  intro pos A B nb vs Λ μ s l Λ' Q E hA I hx hQ
  cases hx
  exact wpAny_items_nil (hQ _ _ μ (Same.refl _) (List.prefix_refl _) I .nil)
theorem SEs.cons {e : Expr} {es : List Expr} {x : Ex} {xs : List Ex} (he : SE g d f e x) (hes : SEs g d f es xs) (hst : starEach (e :: es) f.env = (false, eval e f.env) :: starEach es f.env := by rfl) : SEs g d f (e :: es) (x :: xs) := by
  intro pos A B nb vs Λ μ s l Λ' Q E hA I hx hQ
  obtain ⟨⟨a, Λ1⟩, h1, hx⟩ := bE hx
  obtain ⟨⟨as, Λ2⟩, h2, h3⟩ := bE hx
  try dsimp only at h3
  cases h3
  refine wpAny_items_cons (he A B nb vs Λ μ s _ _ _ _ hA I h1 fun va s1 μ1 S1 p1 I1 r1 => ?_) hst
  refine hes pos A B nb vs Λ1 μ1 s1 _ _ _ _ hA I1 h2 fun vals s2 μ2 S2 p2 I2 r2 => ?_
  exact hQ _ s2 μ2 (S1.trans S2) (pre_trans p1 p2) I2 (.cons (VIs.mono p2 _ _ r1) r2)

theorem SE.list {es : List Expr} {pos : Pos} {xs : List Ex} (he : SEs g d f es xs) : SE g d f (.List es pos) (xList xs) := by
  intro A B nb vs Λ μ s v Λ' Q E hA I hx hQ
  obtain ⟨⟨l, Λ1⟩, h1, h3⟩ := bE hx
  try dsimp only at h3
  refine wpAny_List (he pos A B nb vs Λ μ s l Λ1 _ _ hA I h1 fun vals s1 μ1 S1 p1 I1 r1 => ?_)
  have hb := newList_big h3
  have := r1.length
  have := big_line
  refine ⟨by lia, ?_⟩
  exact postList I1 h3 (items := vals.toArray) (by simpa using r1) (fun val s2 μ2 S2 p2 I2 r2 => hQ val s2 μ2 (S1.trans S2) (pre_trans p1 p2) I2 r2) _ Same.of rfl

theorem SE.tup {es : List Expr} {k : Nat} {pos : Pos} {xs : List Ex} (he : SEs g d f es xs) : SE g d f (.Tuple es k pos) (xTup xs) := by
  intro A B nb vs Λ μ s v Λ' Q E hA I hx hQ
  obtain ⟨⟨l, Λ1⟩, h1, h3⟩ := bE hx
  try dsimp only at h3
  split at h3
  · rename_i hb
    simp only [Mine.alloc, Option.some.injEq, Prod.mk.injEq] at h3
    obtain ⟨rfl, rfl⟩ := h3
    refine wpAny_Tuple (he pos A B nb vs Λ μ s l Λ1 _ _ hA I h1 fun vals s1 μ1 S1 p1 I1 r1 => ?_)
    have := r1.length
    have := big_line
    refine ⟨by lia, ?_⟩
    refine hQ _ _ (μ1 ++ [s1.heap.objs.size]) (S1.trans Same.of) (pre_trans p1 (List.prefix_append _ _)) ?_ ⟨_, by rw [← I1.len]; exact pick_last, rfl⟩
    exact I1.push _ ⟨vals.toArray, 0, Heap.get?_push_size _ rfl, by simpa using r1.mono (VIs.mono (List.prefix_append _ _))⟩
  · cases h3
end
end Mine

/-! ## part A5 -/
set_option maxRecDepth 4000
set_option linter.unusedVariables false
namespace Mine
open PySem PySem.Calls PyProof.Rows PySem.SeqAt

section
variable {g : Gl} {d : Nat} {f : Fm}
variable {A : Around} {B : Addr → Option Obj} {nb : Nat} {vs : Vars} {Λ : Led} {μ : List Addr} {s : Shared} {h : Heap} {Q : Value → Shared → Prop} {E : Value → Shared → Prop}

theorem get_size (h : Heap) : h.get? h.objs.size = none := by
  cases q : h.get? h.objs.size with
  | none => rfl
  | some o => exact absurd (Heap.lt_size q) (Nat.lt_irrefl _)
theorem get_above {h : Heap} {a : Addr} (ha : h.objs.size ≤ a) : h.get? a = none := by
  cases q : h.get? a with
  | none => rfl
  | some o => exact absurd (Heap.lt_size q) (Nat.not_lt.mpr ha)

/-- a new list somewhere -/
theorem postListAt (I : In g B f nb vs Λ μ s.heap) {xs : List V} {v : V} {Λ' : Led} (hx : newList xs Λ = some (v, Λ')) {items : Array Value} (r : All2 (VIs μ) xs items.toList) (hQ : PostV g B f nb vs μ s v Λ' Q)
    {a : Addr} {n : Nat} (s' : Shared) (hs : Same s s') (hk : ∀ b o, s.heap.get? b = some o → s'.heap.get? b = some o) (hn : s.heap.get? a = none) (he : IsL s'.heap a items n) : Q (.ref a) s' := by
  unfold newList at hx
  split at hx
  · simp only [Mine.alloc, Option.some.injEq, Prod.mk.injEq] at hx
    obtain ⟨rfl, rfl⟩ := hx
    refine hQ _ _ (μ ++ [a]) hs (List.prefix_append _ _) ?_ ⟨_, by rw [← I.len]; exact pick_last, rfl⟩
    exact I.alloc hk hn ⟨items, n, he, r.mono (VIs.mono (List.prefix_append _ _))⟩
  · cases hx

theorem PostV.after {s1 : Shared} {μ1 : List Addr} {v : V} {Λ' : Led} (hQ : PostV g B f nb vs μ s v Λ' Q) (S : Same s s1) (p : μ <+: μ1) : PostV g B f nb vs μ1 s1 v Λ' Q :=
  fun val s2 μ2 S2 p2 I2 r2 => hQ val s2 μ2 (S.trans S2) (pre_trans p p2) I2 r2

theorem idx_spec (I : In g B f nb vs Λ μ s.heap) {a b v : V} {va vb : Value} (ra : VIs μ a va) (rb : VIs μ b vb) (hx : idxV Λ a b = some v) {value slice : Expr} (hQ : ∀ val tk, VIs μ v val → Q val { s with toks := tk })
    (hs : ∀ o i, subscripted slice false o i = operate [o, i] (getItem o i)) : wpAny (model g.prog g.w) A (subscriptTail value slice va vb) Q E s := by
  unfold idxV at hx
  split at hx
  · rename_i k i
    obtain ⟨a, ha, rfl⟩ := ra; obtain ⟨t, rfl⟩ := rb
    split at hx
    · rename_i xs hl
      split at hx
      · rename_i hi
        obtain ⟨i1, n1, q1, a1⟩ := I.list ha hl
        obtain ⟨val, hv, r⟩ := a1.get hx
        exact tail_any q1.isList.typeIs slot_list_getitem.lookup (wpAny_getItem_list q1.isList hi.1 (by lia) (by simpa using hv) (hQ val s.toks r)) (hs _ _)
      · cases hx
    · rename_i xs hl
      split at hx
      · rename_i hi
        obtain ⟨i1, n1, q1, a1⟩ := I.tup ha hl
        obtain ⟨val, hv, r⟩ := a1.get hx
        have hlt : i.toNat < i1.size := by have := (List.getElem?_eq_some_iff.mp hv).1; simpa using this
        exact tail_any (T := "tuple") ⟨_, q1, rfl⟩ F.slot_tuple_getitem.lookup (P.getItem_tuple q1 (by lia) (by lia) (seqIndex_of hi.1 (by lia)) (by simpa using hv) (hQ val s.toks r)) (hs _ _)
      · cases hx
    · rename_i es hl
      obtain ⟨hsm, kvs, hd, r⟩ := I.dict ha hl
      obtain ⟨val, hv, rv⟩ := (lookup_dict r i).1 v hx
      exact tail_any hd.typeIs slot_dict_getitem.lookup (wpAny_getItem_of (intKind_is _ _ i t) hd.mapOf hv (hQ val _ rv)) (hs _ _)
    · cases hx
  · cases hx

theorem SE.idx {a i : Expr} {pos : Pos} {x y : Ex} (ha : SE g d f a x) (hi : SE g d f i y) (hs : ∀ o j, subscripted i false o j = operate [o, j] (getItem o j) := by intro _ _; rfl) : SE g d f (.Subscript a i pos) (xIdx x y) := by
  intro A B nb vs Λ μ s v Λ' Q E hA I hx hQ
  simp only [xIdx, Option.bind_eq_bind, Option.bind_eq_some_iff, Prod.exists] at hx
  obtain ⟨u, Λ1, h1, j, Λ2, h2, v', h3, h4⟩ := hx
  cases h4
  refine Subscript_ (ha A B nb vs Λ μ s _ _ _ _ hA I h1 fun va s1 μ1 S1 p1 I1 r1 => ?_)
  refine hi A B nb vs Λ1 μ1 s1 _ _ _ _ hA I1 h2 fun vb s2 μ2 S2 p2 I2 r2 => ?_
  exact idx_spec I2 (VIs.mono p2 _ _ r1) r2 h3 (fun val tk r => hQ val _ μ2 ((S1.trans S2).trans Same.of) (pre_trans p1 p2) I2 r) hs

/-- a slice's bound -/
def SPart (g : Gl) (d : Nat) (f : Fm) (e : Option Expr) (x : Option Ex) : Prop := match e, x with
  | some e, some x => SE g d f e x
  | none, none => True
  | _, _ => False

theorem part_spec {e : Option Expr} {x : Option Ex} (h : SPart g d f e x) (hA : Rm d A) (I : In g B f nb vs Λ μ s.heap) {l : Option Nat} {Λ' : Led}
    (hx : partV x vs Λ = some (l, Λ')) (hQ : ∀ val s' μ', Same s s' → μ <+: μ' → In g B f nb vs Λ' μ' s'.heap → IsPart val (l.map Int.ofNat) → Q val s') : wpAny (model g.prog g.w) A (evalPart e f.env) Q E s := by
  cases x with
  | none =>
    cases e with
    | none => cases hx; exact wpAny_evalPart_none (hQ _ s μ (Same.refl _) (List.prefix_refl _) I .none)
    | some e => exact h.elim
  | some x =>
    cases e with
    | none => exact h.elim
    | some e =>
      simp only [partV, Option.bind_eq_bind, Option.bind_eq_some_iff, Prod.exists] at hx
      obtain ⟨v, Λ1, h1, n, h2, h3⟩ := hx
      cases h3
      refine wpAny_evalPart_some (h A B nb vs Λ μ s _ _ _ _ hA I h1 fun val s1 μ1 S1 p1 I1 r1 => ?_)
      cases v <;> simp [natOf] at h2
      obtain ⟨h2, rfl⟩ := h2
      obtain ⟨t, rfl⟩ := r1
      refine hQ _ s1 μ1 S1 p1 I1 ?_
      simp only [Option.map_some]
      rw [show Int.ofNat _ = _ from Int.toNat_of_nonneg h2]
      exact .int _ _

theorem pick_spec (items : Array Value) (l hi : Option Nat) : (slicePick items (l.map Int.ofNat) (hi.map Int.ofNat) none).toList = ((match hi with | some k => items.toList.take k | none => items.toList).drop (l.getD 0)) := by
  rw [slicePick_plain]
  have cn : ∀ n a : Nat, clipAt n (Int.ofNat a) = min a n := fun n a => clipAt_nat n a
  have e1 : ((l.map Int.ofNat).elim 0 (clipAt items.size)) = min (l.getD 0) items.size := by
    cases l with
    | none => simp
    | some a => simp [-Int.ofNat_eq_natCast, cn]
  rw [e1]
  cases hi with
  | none =>
    simp only [Option.map_none, Option.elim_none]
    rw [List.take_of_length_le (by simp)]
    rcases Nat.le_total (l.getD 0) items.size with hl | hl
    · rw [Nat.min_eq_left hl]
    · rw [Nat.min_eq_right hl, List.drop_of_length_le (by simp), List.drop_of_length_le (by simpa using hl)]
  | some b =>
    simp only [Option.map_some, Option.elim_some, cn]
    rw [← List.drop_take]
    have e2 : List.take (min b items.size) items.toList = List.take b items.toList := by
      rcases Nat.le_total b items.size with hb | hb
      · rw [Nat.min_eq_left hb]
      · rw [Nat.min_eq_right hb, List.take_of_length_le (by simp), List.take_of_length_le (by simpa using hb)]
    rw [e2]
    rcases Nat.le_total (l.getD 0) items.size with hl | hl
    · rw [Nat.min_eq_left hl]
    · rw [Nat.min_eq_right hl, List.drop_of_length_le (by simp; lia), List.drop_of_length_le (by simp; lia)]

theorem SE.slice {a : Expr} {lo hi : Option Expr} {p pos : Pos} {x : Ex} {l u : Option Ex} (ha : SE g d f a x) (hl : SPart g d f lo l) (hu : SPart g d f hi u)
    (ht : ∀ o r, letTemporaryGo a o r = pure () := by intro _ _; rfl) : SE g d f (.Subscript a (.Slice lo hi Option.none p) pos) (xSlice x l u) := by
  intro A B nb vs Λ μ s v Λ' Q E hA I hx hQ
  simp only [xSlice, Option.bind_eq_bind, Option.bind_eq_some_iff, Prod.exists] at hx
  obtain ⟨w, Λ1, h1, l', Λ2, h2, u', Λ3, h3, xs, h4, h5⟩ := hx
  split at h5
  · rename_i hbig
    refine wpAny_Subscript_list_slice (ha A B nb vs Λ μ s _ _ _ _ hA I h1 fun va s1 μ1 S1 p1 I1 r1 => ?_) ht
    refine part_spec hl hA I1 h2 fun vl s2 μ2 S2 p2 I2 q2 => ?_
    refine part_spec hu hA I2 h3 fun vu s3 μ3 S3 p3 I3 q3 => ?_
    obtain ⟨k, rfl, h6⟩ := asList_eq' h4
    obtain ⟨b, hb, rfl⟩ := VIs.mono (pre_trans p2 p3) _ _ r1
    obtain ⟨items, n, e1, r⟩ := I3.list hb h6
    have l1 : xs.length = items.size := r.length
    have := big_line
    refine ⟨b, items, _, _, rfl, e1.isList, by lia, q2, q3, ?_⟩
    refine postListAt (n := 0) I3 h5 (items := slicePick items (l'.map Int.ofNat) (u'.map Int.ofNat) Option.none) ?_ ((hQ.after S1 p1).after (S2.trans S3) (pre_trans p2 p3)) _ Same.of
      (fun b o e => Heap.get?_push_of_some _ (Heap.get?_push_of_some _ e)) (get_above (Nat.le_succ _)) ?_
    · rw [pick_spec]
      unfold cut
      cases u' with
      | none => exact r.drop _
      | some b => exact (r.take _).drop _
    · have := Heap.get?_push_size (s3.heap.push { cls := .type "slice", data := .fields #[vl, vu, .none] }) (o := { cls := .type "list", data := .seq (slicePick items (l'.map Int.ofNat) (u'.map Int.ofNat) Option.none) }) rfl
      rw [Heap.size_push] at this
      exact this
  · cases h5

/-! names of the ground -/
def Named (g : Gl) (f : Fm) (x : Str) (v : Value) : Prop :=
  f.env.kindOf x = some .globalImplicit ∧ (x == ("__debug__" : Str)) = false ∧ (g.mg x = some v ∨ (g.mg x = Option.none ∧ g.mb x = some v))

theorem name_glob (ok : FmOk f) (gk : GlOk g) {x : Str} {v : Value} {pos : Pos} (hn : Named g f x v) (I : In g B f nb vs Λ μ s.heap) (hQ : Q v s) : wpAny (model g.prog g.w) A (eval (.Name x pos) f.env) Q E s := by
  obtain ⟨h1, h2, h3⟩ := hn
  have hk : ∀ b o, g.hG.get? b = some o → s.heap.get? b = some o := fun b o e => I.keep b o (I.glob b o e)
  refine Name_function_global ok.kind h1 ?_ h2
  rcases h3 with h3 | ⟨h3, h4⟩
  · exact loadGlobal_global (by rw [ok.glb]; exact gk.glb.keeps hk) h3 hQ
  · exact loadGlobal_builtin (by rw [ok.glb]; exact gk.glb.keeps hk) h3 (by rw [ok.blt]; exact gk.blt.keeps hk) h4 hQ

theorem xs_one {e : Ex} {vs : Vars} {Λ : Led} : xs_ [e] vs Λ = (e vs Λ).map fun r => ([r.1], r.2) := by
  simp only [xs_, Option.bind_eq_bind]
  cases e vs Λ <;> rfl

theorem SE.len (ok : FmOk f) (gk : GlOk g) {e : Expr} {x : Ex} {np pos : Pos} (hn : Named g f "len" (.builtin "len")) (he : SE g d f e x)
    (hst : starEach [e] f.env = [(false, eval e f.env)] := by rfl) : SE g d f (.Call (.Name "len" np) [e] [] pos) (xLen x) := by
  intro A B nb vs Λ μ s v Λ' Q E hA I hx hQ
  simp only [xLen, Option.bind_eq_bind, Option.bind_eq_some_iff, Prod.exists] at hx
  obtain ⟨u, Λ1, h1, n, h2, h3⟩ := hx
  split at h3
  · rename_i hbig
    cases h3
    refine Call_ (name_glob ok gk hn I (callWith_builtin1 ?_ (by rw [hst]; rfl) rfl))
    refine args_cons (he A B nb vs Λ μ s _ _ _ _ hA I h1 fun va s1 μ1 S1 p1 I1 r1 => args_nil ?_) (by rw [hst]; rfl)
    have fin : ∀ n' : Nat, n' = n → Q (.int n' (s1.toks + 1)) { s1 with toks := s1.toks + 1 + 1 } := fun n' e => hQ _ _ μ1 (S1.trans Same.of) p1 I1 ⟨s1.toks + 1, by rw [e]⟩
    have := big_line
    have hb : big = 100000 := rfl
    cases u <;> simp [lenV] at h2
    rename_i k
    obtain ⟨a, ha, rfl⟩ := r1
    split at h2
    · rename_i xs hl
      cases h2
      obtain ⟨i1, n1, q1, a1⟩ := I1.list ha hl
      have := a1.length
      have l1 : xs.length = i1.size := a1.length
      exact PyProof.Rows.len_list q1.isList (by lia) (fin _ l1.symm)
    · rename_i xs hl
      cases h2
      obtain ⟨i1, n1, q1, a1⟩ := I1.tup ha hl
      have l1 : xs.length = i1.size := a1.length
      exact P.len_tuple q1 (by lia) (fin _ l1.symm)
    · cases h2
  · cases h3

theorem SE.abs (ok : FmOk f) (gk : GlOk g) {e : Expr} {x : Ex} {np pos : Pos} (hn : Named g f "abs" (.builtin "abs")) (he : SE g d f e x)
    (hst : starEach [e] f.env = [(false, eval e f.env)] := by rfl) : SE g d f (.Call (.Name "abs" np) [e] [] pos) (xAbs x) := by
  intro A B nb vs Λ μ s v Λ' Q E hA I hx hQ
  simp only [xAbs, Option.bind_eq_bind, Option.bind_eq_some_iff, Prod.exists] at hx
  obtain ⟨u, Λ1, h1, n, h2, h3⟩ := hx
  cases h3
  cases asInt_eq h2
  refine Call_ (name_glob ok gk hn I (callWith_builtin1 ?_ (by rw [hst]; rfl) rfl))
  refine args_cons (he A B nb vs Λ μ s _ _ _ _ hA I h1 fun va s1 μ1 S1 p1 I1 r1 => args_nil ?_) (by rw [hst]; rfl)
  obtain ⟨t, rfl⟩ := r1
  refine PyProof.Rows.call_abs_int fun u tk => hQ _ _ μ1 (S1.trans Same.of) p1 I1 ⟨u, ?_⟩
  congr 1
  split <;> lia

theorem SE.listOf (ok : FmOk f) (gk : GlOk g) {e : Expr} {x : Ex} {np pos : Pos} (hn : Named g f "list" (.type "list")) (he : SE g d f e x)
    (hst : starEach [e] f.env = [(false, eval e f.env)] := by rfl) : SE g d f (.Call (.Name "list" np) [e] [] pos) (xListOf x) := by
  intro A B nb vs Λ μ s v Λ' Q E hA I hx hQ
  simp only [xListOf, Option.bind_eq_bind, Option.bind_eq_some_iff, Prod.exists] at hx
  obtain ⟨u, Λ1, h1, xs, h2, h3⟩ := hx
  refine Call_ (name_glob ok gk hn I (Pv.callWith_type1 ?_ (by rw [hst]; rfl) rfl))
  refine args_cons (he A B nb vs Λ μ s _ _ _ _ hA I h1 fun va s1 μ1 S1 p1 I1 r1 => args_nil ?_) (by rw [hst]; rfl)
  obtain ⟨k, rfl, h4⟩ := asList_eq' h2
  obtain ⟨a, ha, rfl⟩ := r1
  obtain ⟨i1, n1, q1, a1⟩ := I1.list ha h4
  have hb := newList_big h3
  have l1 : xs.length = i1.size := a1.length
  have := big_line
  refine call_list_seq (hsz := by lia) a (.inl rfl) q1 rfl rfl fun h' c' hk hD => ?_
  exact postListAt I1 h3 a1 (hQ.after S1 p1) _ Same.of hk (get_size _) hD

/-! calls of the text's own defs -/
def CallOk (g : Gl) (d : Nat) (a : Addr) (Φ : Fn) : Prop :=
  ∀ (A : Around) (B : Addr → Option Obj) (f : Fm) (nb : Nat) (vs : Vars) (Λ : Led) (μ : List Addr) (s : Shared) (args : List V) (vals : List Value) (v : V) (Λ' : Led) (Q : Value → Shared → Prop) (E : Value → Shared → Prop),
    Rm d A → In g B f nb vs Λ μ s.heap → All2 (VIs μ) args vals → Φ args Λ = some (v, Λ') → PostV g B f nb vs μ s v Λ' Q → wpAny (model g.prog g.w) A (call (.ref a) vals) Q E s
theorem CallOk.le {d d' : Nat} {a : Addr} {Φ : Fn} (h : CallOk g d a Φ) (hd : d ≤ d') : CallOk g d' a Φ :=
  fun A B f nb vs Λ μ s args vals v Λ' Q E hA => h A B f nb vs Λ μ s args vals v Λ' Q E (hA.le hd)

/-- a def of the text at its name -/
structure FnOk (g : Gl) (d : Nat) (x : Str) (Φ : Fn) : Prop where
  at_ : ∃ a o fd, g.mg x = some (.ref a) ∧ g.hG.get? a = some o ∧ o.data = .func fd ∧ CallOk g d a Φ
theorem FnOk.le {d d' : Nat} {x : Str} {Φ : Fn} (h : FnOk g d x Φ) (hd : d ≤ d') : FnOk g d' x Φ :=
  let ⟨a, o, fd, h1, h2, h3, h4⟩ := h.at_; ⟨a, o, fd, h1, h2, h3, h4.le hd⟩

theorem SE.call (ok : FmOk f) (gk : GlOk g) {x : Str} {Φ : Fn} {e : Expr} {es : List Expr} {ys : List Ex} {np pos : Pos} (hf : FnOk g d x Φ) (hn : f.env.kindOf x = some .globalImplicit ∧ (x == ("__debug__" : Str)) = false) (he : SEs g d f (e :: es) ys)
    (hst : starEach (e :: es) f.env = (false, eval e f.env) :: starEach es f.env := by rfl) : SE g d f (.Call (.Name x np) (e :: es) [] pos) (xCall Φ ys) := by
  intro A B nb vs Λ μ s v Λ' Q E hA I hx hQ
  simp only [xCall, Option.bind_eq_bind, Option.bind_eq_some_iff, Prod.exists] at hx
  obtain ⟨l, Λ1, h1, h2⟩ := hx
  obtain ⟨a, o, fd, k1, k2, k3, k4⟩ := hf.at_
  refine Call_ (name_glob ok gk ⟨hn.1, hn.2, .inl k1⟩ I (callWith_def k3 ?_ hst))
  refine he pos A B nb vs Λ μ s _ _ _ _ hA I h1 fun vals s1 μ1 S1 p1 I1 r1 => ?_
  exact ⟨I1.keep _ _ (I1.glob _ _ k2), k4 A B f nb vs Λ1 μ1 s1 l vals v Λ' Q E hA I1 r1 h2 (hQ.after S1 p1)⟩
end
end Mine

/-! ## part A6 -/
set_option maxRecDepth 4000
set_option linter.unusedVariables false
namespace Mine
open PySem PySem.Calls PyProof.Rows PySem.SeqAt

def FlIs (μ : List Addr) : Fl → Flow → Prop
  | .next, .next => True
  | .ret v, .ret x => VIs μ v x
  | _, _ => False

theorem FlIs.nextOf {μ : List Addr} {fl : Flow} (h : FlIs μ .next fl) : fl = .next := by cases fl <;> first | rfl | exact h.elim
theorem FlIs.retOf {μ : List Addr} {v : V} {fl : Flow} (h : FlIs μ (.ret v) fl) : ∃ x, fl = .ret x ∧ VIs μ v x := by cases fl <;> first | exact ⟨_, rfl, h⟩ | exact h.elim

def PostS (g : Gl) (B : Addr → Option Obj) (f : Fm) (nb : Nat) (μ : List Addr) (s : Shared) (fl : Fl) (vs' : Vars) (Λ' : Led) (Q : Flow → Shared → Prop) : Prop :=
  ∀ flow s' μ', Same s s' → μ <+: μ' → In g B f nb vs' Λ' μ' s'.heap → FlIs μ' fl flow → Q flow s'

/-- statements -/
def SS (g : Gl) (d : Nat) (f : Fm) (st : List Stmt) (x : Stm) : Prop :=
  ∀ (A : Around) (B : Addr → Option Obj) (nb : Nat) (vs : Vars) (Λ : Led) (μ : List Addr) (s : Shared) (fl : Fl) (vs' : Vars) (Λ' : Led) (Q : Flow → Shared → Prop) (E : Value → Shared → Prop),
    Rm d A → In g B f nb vs Λ μ s.heap → x nb vs Λ = some (fl, vs', Λ') → PostS g B f nb μ s fl vs' Λ' Q → wpAny (model g.prog g.w) A (execs st f.env) Q E s
/-- one statement -/
def S1 (g : Gl) (d : Nat) (f : Fm) (st : Stmt) (x : Stm) : Prop :=
  ∀ (A : Around) (B : Addr → Option Obj) (nb : Nat) (vs : Vars) (Λ : Led) (μ : List Addr) (s : Shared) (fl : Fl) (vs' : Vars) (Λ' : Led) (Q : Flow → Shared → Prop) (E : Value → Shared → Prop),
    Rm d A → In g B f nb vs Λ μ s.heap → x nb vs Λ = some (fl, vs', Λ') → PostS g B f nb μ s fl vs' Λ' Q → wpAny (model g.prog g.w) A (exec st f.env) Q E s

section
variable {g : Gl} {d : Nat} {f : Fm}

theorem SS.nil : SS g d f [] sPass := by
  intro A B nb vs Λ μ s fl vs' Λ' Q E hA I hx hQ
  cases hx
  exact wpAny_execs_nil (hQ _ s μ (Same.refl _) (List.prefix_refl _) I trivial)
theorem SS.cons {st : Stmt} {rest : List Stmt} {a b : Stm} (ha : S1 g d f st a) (hb : SS g d f rest b) : SS g d f (st :: rest) (sSeq a b) := by
  intro A B nb vs Λ μ s fl vs' Λ' Q E hA I hx hQ
  simp only [sSeq, Option.bind_eq_bind, Option.bind_eq_some_iff] at hx
  obtain ⟨⟨fl1, vs1, Λ1⟩, h1, h2⟩ := hx
  refine wpAny_execs_cons (ha A B nb vs Λ μ s fl1 vs1 Λ1 _ _ hA I h1 fun flow s1 μ1 S1 p1 I1 r1 => ?_)
  cases fl1 with
  | next =>
    cases r1.nextOf
    exact hb A B nb vs1 Λ1 μ1 s1 fl vs' Λ' _ _ hA I1 h2 fun flow s2 μ2 S2 p2 I2 r2 => hQ flow s2 μ2 (S1.trans S2) (pre_trans p1 p2) I2 r2
  | ret v =>
    obtain ⟨x, rfl, r⟩ := r1.retOf
    cases h2
    exact hQ _ s1 μ1 S1 p1 I1 r

theorem S1.ret {e : Expr} {pos : Pos} {x : Ex} (he : SE g d f e x) : S1 g d f (.Return (some e) pos) (sRet x) := by
  intro A B nb vs Λ μ s fl vs' Λ' Q E hA I hx hQ
  simp only [sRet, Option.bind_eq_bind, Option.bind_eq_some_iff, Prod.exists] at hx
  obtain ⟨v, Λ1, h1, h2⟩ := hx
  cases h2
  exact wpAny_Return_some (he A B nb vs Λ μ s v _ _ _ hA I h1 fun val s1 μ1 S1 p1 I1 r1 => hQ _ s1 μ1 S1 p1 I1 r1)

theorem S1.ite {t : Expr} {a b : List Stmt} {pos : Pos} {x : Te} {y z : Stm} (ht : ST g d f t x) (ha : SS g d f a y) (hb : SS g d f b z) : S1 g d f (.If t a b pos) (sIf x y z) := by
  intro A B nb vs Λ μ s fl vs' Λ' Q E hA I hx hQ
  simp only [sIf, Option.bind_eq_bind, Option.bind_eq_some_iff, Prod.exists] at hx
  obtain ⟨c, Λ1, h1, h2⟩ := hx
  refine wpAny_If (ht A B nb vs Λ μ s c Λ1 _ _ hA I h1 fun s1 μ1 S1 p1 I1 => ?_)
  cases c with
  | true =>
    simp only [if_true] at h2 ⊢
    exact ha A B nb vs Λ1 μ1 s1 fl vs' Λ' _ _ hA I1 h2 fun flow s2 μ2 S2 p2 I2 r => hQ flow s2 μ2 (S1.trans S2) (pre_trans p1 p2) I2 r
  | false =>
    simp only [Bool.false_eq_true, if_false] at h2 ⊢
    exact hb A B nb vs Λ1 μ1 s1 fl vs' Λ' _ _ hA I1 h2 fun flow s2 μ2 S2 p2 I2 r => hQ flow s2 μ2 (S1.trans S2) (pre_trans p1 p2) I2 r

/-! stores into names -/
theorem Ns.det {h : Heap} {a : Addr} {m m' : Str → Option Value} (x : h.Ns a m) (y : h.Ns a m') (k : Str) : m k = m' k := by
  obtain ⟨o, es, ep, e1, e2, _, e3⟩ := x
  obtain ⟨o', es', ep', e1', e2', _, e3'⟩ := y
  rw [e1] at e1'; cases e1'
  rw [e2] at e2'; cases e2'
  rw [← e3, ← e3']

theorem getV_set {vs : Vars} {i j : Nat} {v u : V} (h : getV (vs.set i (some v)) j = some u) : (j = i ∧ u = v) ∨ (j ≠ i ∧ getV vs j = some u) := by
  unfold getV at h ⊢
  by_cases hj : j = i
  · subst hj
    rw [List.getElem?_set] at h
    simp at h
    by_cases hl : j < vs.length
    · rw [if_pos hl] at h; simp at h; exact .inl ⟨rfl, h.symm⟩
    · rw [if_neg hl] at h; simp at h
  · rw [List.getElem?_set_ne (Ne.symm hj)] at h; exact .inr ⟨hj, h⟩

variable {A : Around} {B : Addr → Option Obj} {nb : Nat} {vs : Vars} {Λ : Led} {μ : List Addr} {s : Shared} {h : Heap} {Q : Value → Shared → Prop} {E : Value → Shared → Prop}

theorem names_inj (ok : FmOk f) {i j : Nat} {x : Str} (hi : f.names[i]? = some x) (hj : f.names[j]? = some x) : i = j := by
  obtain ⟨l1, e1⟩ := List.getElem?_eq_some_iff.mp hi
  obtain ⟨l2, e2⟩ := List.getElem?_eq_some_iff.mp hj
  exact (List.getElem_inj ok.nodup (h₀ := l1) (h₁ := l2)).mp (e1.trans e2.symm)

/-- x may be stored -/
def Stores (f : Fm) (x : Str) : Prop := f.env.kindOf x = some .local ∨ (f.env.kindOf x = some .cell ∧ x ∈ f.own)

theorem store (ok : FmOk f) {i : Nat} {x : Str} {v : V} {val : Value} {Q : Unit → Shared → Prop} (hi : f.names[i]? = some x) (hst : Stores f x) (I : In g B f nb vs Λ μ s.heap) (r : VIs μ v val)
    (hQ : ∀ s', Same s s' → In g B f nb (vs.set i (some v)) Λ μ s'.heap → Q () s') : wpAny (model g.prog g.w) A (storeName f.env x val) Q E s := by
  rcases hst with hl | ⟨hc, hown⟩
  · obtain ⟨m, hm⟩ := I.bloc.2
    refine wpAny_storeName_local hl hm (fun h' hn hs => hQ _ Same.of ?_) (by rw [ok.kind]; rfl)
    have hk : ∀ b, b ≠ f.env.locals → h'.get? b = s.heap.get? b := hs.2
    refine ⟨I.len, I.nbl, ?_, ?_, I.glob, I.fresh, I.nodup, I.nloc, ⟨I.bloc.1, _, hn⟩, ?_, I.acel, ?_⟩
    · intro k a o e1 e2
      exact (I.obj k a o e1 e2).keep (List.prefix_refl _) (hk a (I.nloc k a e1).1)
    · intro b o e
      rw [hk b (by rintro rfl; rw [I.bloc.1] at e; cases e)]
      exact I.keep b o e
    · intro y hy
      obtain ⟨c, v, e1, ⟨q, e2, e3⟩, e4, e5⟩ := I.bcel y hy
      exact ⟨c, v, e1, ⟨q, (hk c e5).trans e2, e3⟩, e4, e5⟩
    · intro j y u e1 e2
      rcases getV_set e2 with ⟨rfl, rfl⟩ | ⟨hne, e2⟩
      · rw [hi] at e1; cases e1
        exact ⟨val, r, .inl ⟨hl, _, hn, by simp⟩⟩
      · obtain ⟨val', r', l'⟩ := I.vars j y u e1 e2
        refine ⟨val', r', ?_⟩
        rcases l' with ⟨kd, m', hm', em⟩ | ⟨kd, c, ec, q, eq, ed⟩
        · refine .inl ⟨kd, _, hn, ?_⟩
          rw [if_neg (by rintro rfl; exact hne (names_inj ok e1 hi)), Ns.det hm hm']
          exact em
        · refine .inr ⟨kd, c, ec, q, (hk c ?_).trans eq, ed⟩
          rintro rfl
          obtain ⟨o, es, ep, e, hd, _⟩ := hm
          rw [e] at eq; cases eq; rw [hd] at ed; cases ed
  · obtain ⟨c, v₀, e1, hcell, e4, e5⟩ := I.bcel x hown
    refine wpAny_storeName_cell ok.kind hc e1 hcell fun h' hn hs => hQ _ Same.of ?_
    have hk : ∀ b, b ≠ c → h'.get? b = s.heap.get? b := hs.2
    refine ⟨I.len, I.nbl, ?_, ?_, I.glob, I.fresh, I.nodup, I.nloc, ⟨I.bloc.1, ?_⟩, ?_, I.acel, ?_⟩
    · intro k a o e1' e2
      exact (I.obj k a o e1' e2).keep (List.prefix_refl _) (hk a ((I.nloc k a e1').2 x c hown e1))
    · intro b o e
      rw [hk b (by rintro rfl; rw [e4] at e; cases e)]
      exact I.keep b o e
    · obtain ⟨m, o, es, ep, e, q⟩ := I.bloc.2
      exact ⟨m, o, es, ep, (hk _ (Ne.symm e5)).trans e, q⟩
    · intro y hy
      by_cases hxy : y = x
      · subst hxy; exact ⟨c, _, e1, hn, e4, e5⟩
      · obtain ⟨c', v', e1', ⟨q, e2, e3⟩, e4', e5'⟩ := I.bcel y hy
        exact ⟨c', v', e1', ⟨q, (hk c' (by rintro rfl; exact hxy (I.acel y x _ hy e1' e1))).trans e2, e3⟩, e4', e5'⟩
    · intro j y u e1' e2
      rcases getV_set e2 with ⟨rfl, rfl⟩ | ⟨hne, e2⟩
      · rw [hi] at e1'; cases e1'
        exact ⟨val, r, .inr ⟨.inl hc, c, e1, hn⟩⟩
      · obtain ⟨val', r', l'⟩ := I.vars j y u e1' e2
        refine ⟨val', r', ?_⟩
        rcases l' with ⟨kd, m', ⟨o, es, ep, e, q⟩, em⟩ | ⟨kd, c', ec, q, eq, ed⟩
        · exact .inl ⟨kd, m', ⟨o, es, ep, (hk _ (Ne.symm e5)).trans e, q⟩, em⟩
        · refine .inr ⟨kd, c', ec, q, (hk c' ?_).trans eq, ed⟩
          rintro rfl
          have := I.acel x y _ hown e1 ec
          subst this
          exact hne (names_inj ok e1' hi)

theorem S1.assign (ok : FmOk f) {i : Nat} {x : Str} {p pos : Pos} {e : Expr} {y : Ex} (hi : f.names[i]? = some x) (hst : Stores f x) (he : SE g d f e y)
    (hs : swapsWith e (some (.Name x p)) pos.line f.env = pure false := by rfl) : S1 g d f (.Assign [.Name x p] e pos) (sAssign i y) := by
  intro A B nb vs Λ μ s fl vs' Λ' Q E hA I hx hQ
  simp only [sAssign, Option.bind_eq_bind, Option.bind_eq_some_iff, Prod.exists] at hx
  obtain ⟨v, Λ1, h1, h2⟩ := hx
  cases h2
  refine wpAny_Assign_Name (he A B nb vs Λ μ s v _ _ _ hA I h1 fun val s1 μ1 S1 p1 I1 r1 => ?_) hs
  exact store ok hi hst I1 r1 fun s2 S2 I2 => hQ _ s2 μ1 (S1.trans S2) p1 I2 trivial

theorem getV_name (ok : FmOk f) {i : Nat} {x : Str} {pos : Pos} {v : V} (hi : f.names[i]? = some x) (hv : getV vs i = some v) (hA : Rm d A) (I : In g B f nb vs Λ μ s.heap) (hQ : ∀ val, VIs μ v val → Q val s) :
    wpAny (model g.prog g.w) A (eval (.Name x pos) f.env) Q E s := by
  obtain ⟨val, r, l⟩ := I.vars i x v hi hv
  have hd := ok.dbg x (List.mem_of_getElem? hi)
  refine wpAny_Name ?_ hd.1
  rcases l with ⟨kd, m, hn, em⟩ | ⟨kd | kd, c, ec, hc⟩
  · exact wpAny_loadName_local ok.kind kd hn em (hQ _ r)
  · exact wpAny_loadName_cell ok.kind kd ec hc (hQ _ r)
  · exact wpAny_loadName_free ok.kind kd ec hc (hQ _ r) hd.2

theorem S1.append (ok : FmOk f) {i : Nat} {x : Str} {p apos cpos pos : Pos} {e : Expr} {y : Ex} (hi : f.names[i]? = some x) (he : SE g d f e y)
    (hline : (apos.endLine == cpos.line) = true) (htrees : backTo cpos (starEach [e] f.env) = [(false, eval e f.env)] := by rfl) (hint : interactive f.env = false := by rfl)
    (hs : swapsWith (.Call (.Attribute (.Name x p) "append" apos) [e] [] cpos) Option.none pos.line f.env = pure false := by rfl) :
    S1 g d f (.Expr (.Call (.Attribute (.Name x p) "append" apos) [e] [] cpos) pos) (sAppend i y) := by
  intro A B nb vs Λ μ s fl vs' Λ' Q E hA I hx hQ
  simp only [sAppend] at hx
  split at hx
  · rename_i k hv
    simp only [Option.bind_eq_bind, Option.bind_eq_some_iff, Prod.exists] at hx
    obtain ⟨ys, h0, v, Λ1, h1, xs, h2, h3⟩ := hx
    split at h3
    · rename_i hc
      cases h3
      refine wpAny_Expr (wpAny_Call_method1_late (Q := fun v s' => match v with | .ref _ => False | _ => Q .next s') rfl hline htrees ?_) hint hs
      refine getV_name ok hi hv hA I fun val r => ?_
      obtain ⟨a, ha, rfl⟩ := r
      obtain ⟨i0, n0, q0, _⟩ := I.list ha (asList_eq h0)
      refine ⟨"list", "list.append", PySem.F.plainAttrs_list, PySem.F.slot_list_append, PySem.F.type_list_append, ⟨_, q0, rfl⟩, fun b e => ?_, ?_⟩
      · cases e; exact ⟨_, q0, rfl⟩
      refine P.append_list (he A B nb vs Λ μ s v _ _ _ hA I h1 fun val s1 μ1 S1 p1 I1 r1 => ?_)
      have ha1 : μ1[k]? = some a := by
        obtain ⟨t, rfl⟩ := p1
        rw [List.getElem?_append_left (List.getElem?_eq_some_iff.mp ha).1]; exact ha
      obtain ⟨i1, n1, q1, a1⟩ := I1.list ha1 (asList_eq h2)
      have l1 : xs.length = i1.size := a1.length
      have := big_line
      refine ⟨i1, n1, by lia, q1, ?_⟩
      refine hQ _ _ μ1 (S1.trans Same.of) p1 ?_ trivial
      refine I1.update hc.1 ha1 (fun b hb => Heap.get?_update_other _ _ (Ne.symm hb)) ⟨_, _, IsL.update q1 _, ?_⟩
      rw [Array.toList_push]
      exact a1.append (.cons r1 .nil)
    · cases h3
  · cases hx

theorem S1.setIdx (ok : FmOk f) {i : Nat} {x : Str} {p tp pos : Pos} {ix e : Expr} {y z : Ex} (hi : f.names[i]? = some x) (hx' : SE g d f ix y) (he : SE g d f e z)
    (hs : swapsWith e (some (.Subscript (.Name x p) ix tp)) pos.line f.env = pure false := by rfl) : S1 g d f (.Assign [.Subscript (.Name x p) ix tp] e pos) (sSetIdx i y z) := by
  intro A B nb vs Λ μ s fl vs' Λ' Q E hA I hx hQ
  simp only [sSetIdx, Option.bind_eq_bind, Option.bind_eq_some_iff, Prod.exists] at hx
  obtain ⟨v, Λ1, h1, hx⟩ := hx
  split at hx
  · rename_i k hv
    simp only [Option.bind_eq_some_iff, Prod.exists] at hx
    obtain ⟨j, Λ2, h2, xs, h3, n, h4, h5⟩ := hx
    split at h5
    · rename_i hc
      cases h5
      refine wpAny_Assign_Subscript (he A B nb vs Λ μ s v _ _ _ hA I h1 fun val s1 μ1 S1 p1 I1 r1 => ?_) hs
      refine getV_name ok hi hv hA I1 fun va r => ?_
      refine hx' A B nb vs Λ1 μ1 s1 j _ _ _ hA I1 h2 fun vj s2 μ2 S2 p2 I2 r2 => ?_
      cases j <;> simp [natOf] at h4
      obtain ⟨h4, rfl⟩ := h4
      obtain ⟨t, rfl⟩ := r2
      obtain ⟨a, ha, rfl⟩ := VIs.mono p2 _ _ r
      obtain ⟨i1, n1, q1, a1⟩ := I2.list ha (asList_eq h3)
      have l1 : xs.length = i1.size := a1.length
      refine PySem.W.ki_setAt q1 h4 (by lia) (by lia) ?_
      refine hQ _ _ μ2 ((S1.trans S2).trans Same.of) (pre_trans p1 p2) ?_ trivial
      refine I2.update hc.1 ha (fun b hb => Heap.get?_update_other _ _ (Ne.symm hb)) ⟨_, _, IsL.update q1 _, ?_⟩
      rw [Array.toList_setIfInBounds]
      exact a1.set _ (VIs.mono p2 _ _ r1)
    · cases h5
  · cases hx
end
end Mine

/-! ## part A7 -/
set_option maxRecDepth 4000
set_option linter.unusedVariables false
namespace Mine
open PySem PySem.Calls PyProof.Rows PySem.SeqAt

section
variable {g : Gl} {d : Nat} {f : Fm}
variable {A : Around} {B : Addr → Option Obj} {nb : Nat} {vs : Vars} {Λ : Led} {μ : List Addr} {s : Shared} {h : Heap} {Q : Value → Shared → Prop} {E : Value → Shared → Prop}

theorem S1.while_ {t : Expr} {body : List Stmt} {pos : Pos} {x : Te} {y : Stm} {fuel : Nat} (ht : ST g d f t x) (hb : SS g d f body y) : S1 g d f (.While t body [] pos) (sWhile fuel x y) := by
  intro A B nb vs Λ μ s fl vs' Λ' Q E hA I hx hQ
  refine wpAny_While (codeAny_whileLoop (fun n s1 => ∃ vs1 Λ1 μ1, Same s s1 ∧ μ <+: μ1 ∧ In g B f nb vs1 Λ1 μ1 s1.heap ∧ whileGo x y nb n vs1 Λ1 = some (fl, vs', Λ')) ?_ fuel ⟨vs, Λ, μ, Same.refl _, List.prefix_refl _, I, hx⟩)
  rintro n s1 ⟨vs1, Λ1, μ1, S1, p1, I1, h1⟩
  cases n with
  | zero => cases h1
  | succ n =>
    simp only [whileGo, Option.bind_eq_bind, Option.bind_eq_some_iff, Prod.exists] at h1
    obtain ⟨c, Λ2, h2, h3⟩ := h1
    refine ht A B nb vs1 Λ1 μ1 s1 c Λ2 _ _ hA I1 h2 fun s2 μ2 S2 p2 I2 => ?_
    cases c with
    | false =>
      simp only [Bool.false_eq_true, if_false] at h3 ⊢
      cases h3
      exact wpAny_execs_nil (hQ _ s2 μ2 (S1.trans S2) (pre_trans p1 p2) I2 trivial)
    | true =>
      simp only [if_true, Option.bind_eq_some_iff] at h3 ⊢
      obtain ⟨⟨fl3, vs3, Λ3⟩, h4, h5⟩ := h3
      refine hb A B nb vs1 Λ2 μ2 s2 fl3 vs3 Λ3 _ _ hA I2 h4 fun flow s3 μ3 S3 p3 I3 r3 => ?_
      cases fl3 with
      | next =>
        cases r3.nextOf
        exact ⟨n, Nat.lt_succ_self n, vs3, Λ3, μ3, (S1.trans S2).trans S3, pre_trans (pre_trans p1 p2) p3, I3, h5⟩
      | ret v =>
        obtain ⟨u, rfl, r⟩ := r3.retOf
        cases h5
        exact hQ _ s3 μ3 ((S1.trans S2).trans S3) (pre_trans (pre_trans p1 p2) p3) I3 r

/-! iterators -/
structure Iter (g : Gl) (μ₀ : List Addr) (I : Addr) (items : List V) (k? : Option Nat) (At : Nat → Heap → Prop) : Prop where
  loc : ∀ i h h', At i h → h'.get? I = h.get? I → At i h'
  obj : ∀ i h, At i h → ∃ o, h.get? I = some o ∧ ∀ v, o.data ≠ .cell v
  item : ∀ (i : Nat) (v : V) (A : Around) (B : Addr → Option Obj) (f : Fm) (nb : Nat) (vs : Vars) (Λ : Led) (μ : List Addr) (s : Shared) (Q : Option Value → Shared → Prop) (E : Value → Shared → Prop),
    items[i]? = some v → In g B f nb vs Λ μ s.heap → μ₀ <+: μ → stands k? items Λ = true → At i s.heap →
    (∀ val h' tk, VIs μ v val → At (i + 1) h' → Heap.SameBut I s.heap h' → Q (some val) { s with heap := h', toks := tk }) → wpAny (model g.prog g.w) A (pyNext (.ref I)) Q E s
  done : ∀ (A : Around) (B : Addr → Option Obj) (f : Fm) (nb : Nat) (vs : Vars) (Λ : Led) (μ : List Addr) (s : Shared) (Q : Option Value → Shared → Prop) (E : Value → Shared → Prop),
    A.handled = none → In g B f nb vs Λ μ s.heap → μ₀ <+: μ → stands k? items Λ = true → At items.length s.heap →
    (∀ h' tk, Heap.ExtBut I s.heap h' → Q none { s with heap := h', toks := tk }) → wpAny (model g.prog g.w) A (pyNext (.ref I)) Q E s
  self : ∀ (i : Nat) (A : Around) (s : Shared) (Q : Value → Shared → Prop) (E : Value → Shared → Prop), At i s.heap → Q (.ref I) s → wpAny (model g.prog g.w) A (pyIter (.ref I)) Q E s
  lett : ∀ (i : Nat) (A : Around) (s : Shared) (elts : List Expr) (x1 : Nat) (pos : Pos) (T : Addr) (Q : Unit → Shared → Prop) (E : Value → Shared → Prop), k?.isSome = true → At i s.heap → Q () s →
    wpAny (model g.prog g.w) A (letOwnedTupleGo (.Tuple elts x1 pos) (.ref I) (.ref T)) Q E s

theorem stands_eq {k : Nat} {xs : List V} {Λ : Led} (h : stands (some k) xs Λ = true) : Λ[k]? = some (.list xs) := by simpa [stands] using h

theorem iter_list {μ₀ : List Addr} {I a : Addr} {k : Nat} {xs : List V} (hk : μ₀[k]? = some a) : Iter g μ₀ I xs (some k) (fun i h => h.IsListIter I a i) where
  loc := fun i h h' ⟨o, e, q⟩ hh => ⟨o, hh.trans e, q⟩
  obj := fun i h ⟨o, e, _, q⟩ => ⟨o, e, fun v e' => by rw [q] at e'; cases e'⟩
  item := fun i v A B f nb vs Λ μ s Q E hv IN hp hs hat hQ => by
    have ha : μ[k]? = some a := by
      obtain ⟨t, rfl⟩ := hp
      rw [List.getElem?_append_left (List.getElem?_eq_some_iff.mp hk).1]; exact hk
    obtain ⟨i1, n1, q1, a1⟩ := IN.list ha (stands_eq hs)
    obtain ⟨val, hval, r⟩ := a1.get hv
    exact wpAny_pyNext_list_item hat q1.isList (by simpa using hval) fun h' h1 h2 => hQ val h' s.toks r h1 h2
  done := fun A B f nb vs Λ μ s Q E hh IN hp hs hat hQ => by
    have ha : μ[k]? = some a := by
      obtain ⟨t, rfl⟩ := hp
      rw [List.getElem?_append_left (List.getElem?_eq_some_iff.mp hk).1]; exact hk
    obtain ⟨i1, n1, q1, a1⟩ := IN.list ha (stands_eq hs)
    have l1 : xs.length = i1.size := a1.length
    exact wpAny_pyNext_list_end hh hat q1.isList (by rw [l1]; simp) fun h' h1 => hQ h' s.toks h1
  self := fun i A s Q E hat hQ => wpAny_pyIter_listiter hat hQ
  lett := fun i A s elts x1 pos T Q E _ hat hQ => wpAny_letOwnedTupleGo_listiter hat hQ

theorem iter_range {μ₀ : List Addr} {I : Addr} {n : Nat} : Iter g μ₀ I ((List.range n).map fun (i : Nat) => V.int (i : Int)) none (fun i h => IsRangeIter h I (0 + (i : Nat) * 1) ((n : Int) - (i : Nat)) 1) where
  loc := fun i h h' e hh => hh.trans e
  obj := fun i h e => ⟨_, e, fun v e' => by cases e'⟩
  item := fun i v A B f nb vs Λ μ s Q E hv IN hp hs hat hQ => by
    have hlt : i < n := by
      have := (List.getElem?_eq_some_iff.mp hv).1; simpa using this
    have hvi : v = .int i := by
      rw [List.getElem?_map, List.getElem?_range hlt] at hv; simpa using hv.symm
    subst hvi
    refine wpAny_pyNext_range_item hat (by lia) fun h' hit' hs' => ?_
    refine hQ _ h' _ ⟨s.toks, by congr 1; lia⟩ ?_ hs'
    · have e1 : (0 : Int) + ((i + 1 : Nat) : Int) * 1 = 0 + (i : Int) * 1 + 1 := by lia
      have e2 : (n : Int) - ((i + 1 : Nat) : Int) = (n : Int) - (i : Int) - 1 := by lia
      show IsRangeIter h' I (0 + ((i + 1 : Nat) : Int) * 1) ((n : Int) - ((i + 1 : Nat) : Int)) 1
      rw [e1, e2]; exact hit'
  done := fun A B f nb vs Λ μ s Q E hh IN hp hs hat hQ => by
    refine wpAny_pyNext_range_end hh hat (by simp) fun h' he' => ?_
    exact hQ h' s.toks he'
  self := fun i A s Q E hat hQ => wpAny_pyIter_rangeiter hat hQ
  lett := fun i A s elts x1 pos T Q E hk => by cases hk

/-- what is iterated -/
def SSrc (g : Gl) (d : Nat) (f : Fm) (e : Expr) (x : Src) : Prop :=
  ∀ (A : Around) (B : Addr → Option Obj) (nb : Nat) (vs : Vars) (Λ : Led) (μ : List Addr) (s : Shared) (items : List V) (k? : Option Nat) (Λ' : Led) (Q : Value → Shared → Prop) (E : Value → Shared → Prop),
    Rm d A → In g B f nb vs Λ μ s.heap → x vs Λ = some (items, k?, Λ') →
    (∀ I At s' μ' h₁, Same s s' → μ <+: μ' → In g B f nb vs Λ' μ' h₁ → h₁.get? I = none → (∀ b o, h₁.get? b = some o → s'.heap.get? b = some o) → stands k? items Λ' = true → Iter g μ' I items k? At → At 0 s'.heap → Q (.ref I) s') →
    wpAny (model g.prog g.w) A (eval e f.env) (fun x s₁ => wpAny (model g.prog g.w) A (pyIter x) Q E s₁) E s

theorem SSrc.list {e : Expr} {x : Ex} (he : SE g d f e x) : SSrc g d f e (sList x) := by
  intro A B nb vs Λ μ s items k? Λ' Q E hA I hx hQ
  obtain ⟨⟨v, Λ1⟩, h1, h2⟩ := bE hx
  try dsimp only at h2
  obtain ⟨k, rfl⟩ : ∃ k, v = .ref k := by
    cases v with
    | ref k => exact ⟨k, rfl⟩
    | _ => cases h2
  obtain ⟨xs, h3, h4⟩ := bE h2
  try dsimp only at h4
  split at h4
  rotate_left
  · cases h4
  cases h4
  refine he A B nb vs Λ μ s _ _ _ _ hA I h1 fun val s1 μ1 S1 p1 I1 r1 => ?_
  obtain ⟨a, ha, rfl⟩ := r1
  obtain ⟨i1, n1, q1, a1⟩ := I1.list ha (asList_eq h3)
  refine wpAny_pyIter_list q1.isList ?_
  exact hQ _ _ _ μ1 s1.heap (S1.trans Same.of) p1 I1 (get_size _) (fun b o e => Heap.get?_push_of_some _ e) (by simpa [stands] using asList_eq h3) (iter_list ha) ⟨_, Heap.get?_push_size _ rfl, rfl, rfl⟩

theorem SSrc.range (ok : FmOk f) (gk : GlOk g) {e : Expr} {x : Ex} {np pos : Pos} (hn : Named g f "range" (.type "range")) (he : SE g d f e x)
    (hst : starEach [e] f.env = [(false, eval e f.env)] := by rfl) : SSrc g d f (.Call (.Name "range" np) [e] [] pos) (sRange x) := by
  intro A B nb vs Λ μ s items k? Λ' Q E hA I hx hQ
  obtain ⟨⟨v, Λ1⟩, h1, hx⟩ := bE hx
  obtain ⟨n, h2, h3⟩ := bE hx
  try dsimp only at h3
  split at h3
  · rename_i hc
    cases h3
    cases asInt_eq h2
    have hb : big = 100000 := rfl
    refine Call_ (name_glob ok gk hn I (Pv.callWith_type1 ?_ (by rw [hst]; rfl) rfl))
    refine args_cons (he A B nb vs Λ μ s _ _ _ _ hA I h1 fun val s1 μ1 S1 p1 I1 r1 => args_nil ?_) (by rw [hst]; rfl)
    obtain ⟨t, rfl⟩ := r1
    refine call_range_1 (wpAny_pyIter_range (IsRange.new ..) (small_one (by decide) (by decide) (by lia) (by lia)) ?_)
    have hsz : Builtin.Range.rangeSize 0 n 1 = (n.toNat : Int) := by rw [rangeSize_one]; split <;> lia
    refine hQ _ _ _ μ1 (s1.heap.push _) (S1.trans Same.of) p1 (I1.grow fun b o e => Heap.get?_push_of_some _ e) (get_size _) (fun b o e => Heap.get?_push_of_some _ e) rfl (iter_range (n := n.toNat)) ?_
    show IsRangeIter _ _ (0 + ((0 : Nat) : Int) * 1) ((n.toNat : Int) - ((0 : Nat) : Int)) 1
    rw [hsz]
    have := Heap.get?_push_size (s1.heap.push { cls := .type "range", data := .fields #[.int 0 s1.toks, .int n t, .int 1 (s1.toks + 1)] }) (o := { cls := .type "range_iterator", data := .fields #[rawInt 0, rawInt (n.toNat : Int), rawInt 1] }) rfl
    simpa [IsRangeIter] using this
  · cases h3

/-! an object off the ledger that must stand -/
def withObj (B : Addr → Option Obj) (I : Addr) (o : Obj) : Addr → Option Obj := fun b => if b = I then some o else B b
theorem Inv.hide {prog : Program} {w : World} {hG : Heap} (J : Inv prog w hG B f nb vs Λ μ h) {I : Addr} {o : Obj} (ho : h.get? I = some o) (hμ : ∀ k : Nat, μ[k]? ≠ some I) (hL : I ≠ f.env.locals) (hc : ∀ x c, x ∈ f.own → f.env.cells.lookup x = some c → c ≠ I)
    (hB : B I = none) : Inv prog w hG (withObj B I o) f nb vs Λ μ h := by
  refine ⟨J.len, J.nbl, J.obj, ?_, ?_, ?_, J.nodup, J.nloc, ⟨?_, J.bloc.2⟩, ?_, J.acel, J.vars⟩
  · intro b ob e
    unfold withObj at e
    split at e
    · rename_i hb; subst hb; cases e; exact ho
    · exact J.keep b ob e
  · intro b ob e
    unfold withObj
    split
    · rename_i hb; subst hb
      rw [J.glob _ _ e] at hB; cases hB
    · exact J.glob b ob e
  · intro k a hk e
    unfold withObj
    rw [if_neg (by rintro rfl; exact hμ k e)]
    exact J.fresh k a hk e
  · unfold withObj; rw [if_neg (Ne.symm hL)]; exact J.bloc.1
  · intro x hx
    obtain ⟨c, v, e1, e2, e3, e4⟩ := J.bcel x hx
    refine ⟨c, v, e1, e2, ?_, e4⟩
    unfold withObj; rw [if_neg (hc x c hx e1)]; exact e3
theorem Inv.unhide {prog : Program} {w : World} {hG : Heap} {I : Addr} {o : Obj} (J : Inv prog w hG (withObj B I o) f nb vs Λ μ h) (hB : B I = none) (hg : ∀ b o, hG.get? b = some o → B b = some o) :
    Inv prog w hG B f nb vs Λ μ h ∧ h.get? I = some o ∧ (∀ k : Nat, nb ≤ k → μ[k]? ≠ some I) := by
  have up : ∀ b ob, B b = some ob → withObj B I o b = some ob := fun b ob e => by
    unfold withObj; rw [if_neg (by rintro rfl; rw [hB] at e; cases e)]; exact e
  have dn : ∀ b, withObj B I o b = none → B b = none := fun b e => by
    cases q : B b with
    | none => rfl
    | some ob => rw [up b ob q] at e; cases e
  have self : withObj B I o I = some o := by simp [withObj]
  refine ⟨⟨J.len, J.nbl, J.obj, fun b ob e => J.keep b ob (up b ob e), hg, fun k a hk e => dn _ (J.fresh k a hk e), J.nodup, J.nloc, ⟨dn _ J.bloc.1, J.bloc.2⟩, ?_, J.acel, J.vars⟩, J.keep I o self, ?_⟩
  · intro x hx
    obtain ⟨c, v, e1, e2, e3, e4⟩ := J.bcel x hx
    exact ⟨c, v, e1, e2, dn _ e3, e4⟩
  · intro k hk e
    have := J.fresh k I hk e
    rw [self] at this; cases this

/-- an object off the ledger is turned -/
theorem Inv.other {prog : Program} {w : World} {hG : Heap} (J : Inv prog w hG B f nb vs Λ μ h) {h' : Heap} {a : Addr} (hs : Heap.ExtBut a h h') (hμ : ∀ k : Nat, μ[k]? ≠ some a) (hL : a ≠ f.env.locals) (hB : B a = none)
    (hc : ∀ o v, h.get? a = some o → o.data ≠ .cell v) : Inv prog w hG B f nb vs Λ μ h' := by
  have cell : ∀ c v, h.IsCell c v → h'.IsCell c v := fun c v ⟨o, e, q⟩ => ⟨o, hs c o (by rintro rfl; exact hc o v e q) e, q⟩
  refine ⟨J.len, J.nbl, ?_, ?_, J.glob, J.fresh, J.nodup, J.nloc, ⟨J.bloc.1, ?_⟩, ?_, J.acel, ?_⟩
  · intro k b o e1 e2
    have := J.obj k b o e1 e2
    obtain ⟨x, hx⟩ := this.get
    exact this.keep (List.prefix_refl _) ((hs b x (by rintro rfl; exact hμ k e1) hx).trans hx.symm)
  · intro b o e
    exact hs b o (by rintro rfl; rw [hB] at e; cases e) (J.keep b o e)
  · obtain ⟨m, o, es, ep, e, q⟩ := J.bloc.2
    exact ⟨m, o, es, ep, hs _ _ (Ne.symm hL) e, q⟩
  · intro x hx
    obtain ⟨c, v, e1, e2, e3⟩ := J.bcel x hx
    exact ⟨c, v, e1, cell c v e2, e3⟩
  · intro i x v e1 e2
    obtain ⟨val, r, l⟩ := J.vars i x v e1 e2
    refine ⟨val, r, ?_⟩
    rcases l with ⟨kd, m, ⟨o, es, ep, e, q⟩, em⟩ | ⟨kd, c, ec, hcl⟩
    · exact .inl ⟨kd, m, ⟨o, es, ep, hs _ _ (Ne.symm hL) e, q⟩, em⟩
    · exact .inr ⟨kd, c, ec, cell c _ hcl⟩

/-- an assignment to a loop's target -/
def SAsg (g : Gl) (f : Fm) (target : Expr) (asg : Asg) : Prop :=
  ∀ (A : Around) (B : Addr → Option Obj) (nb : Nat) (vs : Vars) (Λ : Led) (μ : List Addr) (s : Shared) (v : V) (val : Value) (vs' : Vars) (Q : Unit → Shared → Prop) (E : Value → Shared → Prop),
    A.handled = none → In g B f nb vs Λ μ s.heap → VIs μ v val → asg v vs Λ = some vs' → (∀ s', Same s s' → In g B f nb vs' Λ μ s'.heap → Q () s') → wpAny (model g.prog g.w) A (assign target f.env val) Q E s
def SLet (g : Gl) (f : Fm) (target : Expr) (asg : Asg) (k? : Option Nat) : Prop :=
  ∀ (μ₀ : List Addr) (I : Addr) (items : List V) (At : Nat → Heap → Prop), Iter g μ₀ I items k? At → ∀ (i : Nat) (A : Around) (B : Addr → Option Obj) (nb : Nat) (vs : Vars) (Λ : Led) (μ : List Addr) (s : Shared) (v : V) (val : Value) (vs' : Vars) (Q : Unit → Shared → Prop) (E : Value → Shared → Prop),
    At i s.heap → VIs μ v val → asg v vs Λ = some vs' → Q () s → wpAny (model g.prog g.w) A (letOwnedTupleGo target (.ref I) val) Q E s

theorem forGo_drop {ok : Led → Bool} {asg : Asg} {body : Stm} {nb : Nat} {items : List V} {i : Nat} {vs : Vars} {Λ : Led} {r : Fl × Vars × Led} (h : forGo ok asg body nb (items.drop i) vs Λ = some r) :
    (items.length ≤ i ∧ ok Λ = true ∧ r = (.next, vs, Λ)) ∨ (∃ v vs1 fl vs2 Λ2, items[i]? = some v ∧ ok Λ = true ∧ asg v vs Λ = some vs1 ∧ body nb vs1 Λ = some (fl, vs2, Λ2) ∧
      ((fl = .next ∧ forGo ok asg body nb (items.drop (i + 1)) vs2 Λ2 = some r) ∨ (∃ x, fl = .ret x ∧ r = (.ret x, vs2, Λ2)))) := by
  rcases Nat.lt_or_ge i items.length with hi | hi
  · right
    rw [List.drop_eq_getElem_cons hi] at h
    simp only [forGo] at h
    split at h
    · rename_i hok
      simp only [Option.bind_eq_bind, Option.bind_eq_some_iff] at h
      obtain ⟨vs1, h1, ⟨fl, vs2, Λ2⟩, h2, h3⟩ := h
      refine ⟨items[i], vs1, fl, vs2, Λ2, List.getElem?_eq_getElem hi, hok, h1, h2, ?_⟩
      cases fl with
      | next => exact .inl ⟨rfl, h3⟩
      | ret x => exact .inr ⟨x, rfl, by cases h3; rfl⟩
    · cases h
  · left
    rw [List.drop_of_length_le hi] at h
    simp only [forGo] at h
    split at h
    · rename_i hok; exact ⟨hi, hok, by cases h; rfl⟩
    · cases h

set_option genSizeOf false in
set_option genInjectivity false in
inductive ForInv (g : Gl) (B : Addr → Option Obj) (f : Fm) (nb : Nat) (μ1 : List Addr) (s : Shared) (At : Nat → Heap → Prop) (N : Nat) (It : Addr) (go : Nat → Vars → Led → Option (Fl × Vars × Led)) (r : Fl × Vars × Led) (n : Nat) (s2 : Shared) : Prop
  | mk (i : Nat) (vs2 : Vars) (Λ2 : Led) (μ2 : List Addr) (hn : n = N + 1 - i) (hi : i ≤ N) (S2 : Same s s2) (p2 : μ1 <+: μ2) (I2 : In g B f nb vs2 Λ2 μ2 s2.heap) (hat2 : At i s2.heap) (hμ2 : ∀ k : Nat, μ2[k]? ≠ some It) (hgo : go i vs2 Λ2 = some r)
theorem S1.for_ {target iter : Expr} {body : List Stmt} {pos : Pos} {src : Src} {asg : Asg} {y : Stm} (hsrc : SSrc g d f iter src) (hasg : SAsg g f target asg) (hlet : ∀ vs Λ r, src vs Λ = some r → SLet g f target asg r.2.1) (hb : SS g d f body y)
    (hs : ∀ x, foldedSetIterable iter f.env x = pure x := by intro _; rfl) : S1 g d f (.For target iter body [] pos) (sFor src asg y) := by
  intro A B nb vs Λ μ s fl vs' Λ' Q E hA I hx hQ
  obtain ⟨⟨items, k?, Λ1⟩, h1, h2⟩ := bE hx
  try dsimp only at h2
  refine wpAny_For (hsrc A B nb vs Λ μ s items k? Λ1 _ _ hA I h1 fun It At s1 μ1 h₁ S1 p1 I1 hn hk hst hit hat => ?_) hs
  have hItμ : ∀ k : Nat, μ1[k]? ≠ some It := fun k e => by obtain ⟨x, q⟩ := I1.lt e; rw [hn] at q; cases q
  have hItL : It ≠ f.env.locals := by
    rintro rfl
    obtain ⟨m, o, _, _, q, _⟩ := I1.bloc.2
    rw [hn] at q; cases q
  have hItC : ∀ x c, x ∈ f.own → f.env.cells.lookup x = some c → c ≠ It := by
    rintro x c hx hc rfl
    obtain ⟨c', v, e1, ⟨o, q, _⟩, _⟩ := I1.bcel x hx
    rw [e1] at hc; cases hc
    rw [hn] at q; cases q
  have hItB : B It = none := by
    cases q : B It with
    | none => rfl
    | some o => have := I1.keep _ _ q; rw [hn] at this; cases this
  have hItμ' : ∀ μ2, μ1 <+: μ2 → (∀ k : Nat, nb ≤ k → μ2[k]? ≠ some It) → ∀ k : Nat, μ2[k]? ≠ some It := by
    intro μ2 hp hh k
    rcases Nat.lt_or_ge k nb with hlt | hge
    · obtain ⟨t, rfl⟩ := hp
      rw [List.getElem?_append_left (Nat.lt_of_lt_of_le hlt I1.nbl)]
      exact hItμ k
    · exact hh k hge
  have J1 := I1.grow hk
  refine codeAny_forLoop_any (ForInv g B f nb μ1 s At items.length It (fun i vs2 Λ2 => forGo (stands k? items) asg y nb (items.drop i) vs2 Λ2) (fl, vs', Λ')) ?_ (items.length + 1) ⟨0, vs, Λ1, μ1, rfl, Nat.zero_le _, S1, List.prefix_refl _, J1, hat, hItμ, h2⟩
  rintro n s2 ⟨i, vs2, Λ2, μ2, rfl, hi, S2, p2, I2, hat2, hμ2, hgo⟩
  have hcell : ∀ o v, s2.heap.get? It = some o → o.data ≠ .cell v := fun o v e => by
    obtain ⟨o', e', q⟩ := hit.obj _ _ hat2
    rw [e'] at e; cases e; exact q v
  rcases forGo_drop hgo with ⟨hlen, hok, hr⟩ | ⟨v, vs3, fl3, vs4, Λ4, hv, hok, ha, hbody, hcase⟩
  · have : i = items.length := by lia
    subst this
    cases hr
    refine hit.done A B f nb _ _ μ2 s2 _ _ hA.1 I2 p2 hok hat2 fun h' tk hext => ?_
    refine wpAny_execs_nil (hQ _ _ μ2 (S2.trans Same.of) (pre_trans p1 p2) ?_ trivial)
    exact I2.other hext hμ2 hItL hItB hcell
  · refine hit.item i v A B f nb vs2 Λ2 μ2 s2 _ _ hv I2 p2 hok hat2 fun val h' tk r hat3 hsame => ?_
    have I3 : In g B f nb vs2 Λ2 μ2 h' := I2.other hsame.extBut hμ2 hItL hItB hcell
    refine hlet _ _ _ h1 _ _ _ _ hit (i + 1) A B nb vs2 Λ2 μ2 _ v val vs3 _ _ hat3 r ha ?_
    obtain ⟨o3, ho3, hoc⟩ := hit.obj _ _ hat3
    have H3 := Inv.hide (h := h') I3 ho3 hμ2 hItL hItC hItB
    refine hasg A (withObj B It o3) nb vs2 Λ2 μ2 _ v val vs3 _ _ hA.1 H3 r ha fun s4 S4 I4 => ?_
    refine hb A (withObj B It o3) nb vs3 Λ2 μ2 s4 fl3 vs4 Λ4 _ _ hA I4 hbody fun flow s5 μ5 S5 p5 I5 r5 => ?_
    obtain ⟨I6, q6, m6⟩ := I5.unhide hItB I.glob
    have m6' := hItμ' μ5 (pre_trans p2 p5) m6
    have S6 : Same s s5 := (S2.trans (Same.of.trans S4)).trans S5
    rcases hcase with ⟨rfl, hrest⟩ | ⟨x, rfl, hr⟩
    · cases r5.nextOf
      have hlt : i < items.length := (List.getElem?_eq_some_iff.mp hv).1
      exact ⟨items.length + 1 - (i + 1), by lia, i + 1, vs4, Λ4, μ5, rfl, by lia, S6, pre_trans p2 p5, I6, hit.loc _ _ _ hat3 (q6.trans ho3.symm), m6', hrest⟩
    · obtain ⟨u, rfl, ru⟩ := r5.retOf
      cases hr
      exact hQ _ s5 μ5 S6 (pre_trans p1 (pre_trans p2 p5)) I6 ru

theorem SAsg.name (ok : FmOk f) {i : Nat} {x : Str} {p : Pos} (hi : f.names[i]? = some x) (hst : Stores f x) : SAsg g f (.Name x p) (aName i) := by
  intro A B nb vs Λ μ s v val vs' Q E hA I r ha hQ
  cases ha
  exact wpAny_assign_Name (store ok hi hst I r hQ)
theorem SLet.name {x : Str} {p : Pos} {asg : Asg} {k? : Option Nat} : SLet g f (.Name x p) asg k? := by
  intro μ₀ I items At hit i A B nb vs Λ μ s v val vs' Q E hat r ha hQ
  exact wpAny_pure hQ
theorem SAsg.pair (ok : FmOk f) {i j : Nat} {x y : Str} {p q pos : Pos} {k : Nat} (hi : f.names[i]? = some x) (hst : Stores f x) (hj : f.names[j]? = some y) (hst' : Stores f y) : SAsg g f (.Tuple [.Name x p, .Name y q] k pos) (aPair i j) := by
  intro A B nb vs Λ μ s v val vs' Q E hA I r ha hQ
  unfold aPair at ha
  split at ha
  · rename_i a b hv
    cases ha
    obtain ⟨k, rfl, hl⟩ := asTup_eq hv
    obtain ⟨c, hc, rfl⟩ := r
    obtain ⟨i1, n1, q1, a1⟩ := I.tup hc hl
    obtain ⟨l⟩ := i1
    cases a1 with
    | cons ra t1 =>
      cases t1 with
      | cons rb t2 =>
        cases t2
        rename_i va vb
        refine wpAny_assign_Tuple (items := #[va, vb]) hA ⟨_, q1, rfl, n1, rfl⟩ rfl rfl fun h' hext => ?_
        have I' : In g B f nb vs Λ μ h' := I.grow fun b o e => hext b o (Nat.ne_of_lt (Heap.lt_size e)) e
        show wpAny _ _ (do holding [vb] (assign (.Name x p) f.env va); assignInOrder [fun v => assign (.Name y q) f.env v] [vb]) _ _ _
        refine wpAny_bind (wpAny_holding (wpAny_assign_Name (store ok hi hst I' ra fun s2 S2 I2 => ?_)))
        show wpAny _ _ (do holding [] (assign (.Name y q) f.env vb); assignInOrder [] []) _ _ _
        refine wpAny_bind (wpAny_holding (wpAny_assign_Name (store ok hj hst' I2 rb fun s3 S3 I3 => ?_)))
        exact wpAny_pure (hQ _ ((Same.of.trans S2).trans S3) I3)
  · cases ha
theorem SLet.pair {es : List Expr} {k : Nat} {pos : Pos} {i j : Nat} {k? : Option Nat} (hk : k?.isSome = true) : SLet g f (.Tuple es k pos) (aPair i j) k? := by
  intro μ₀ I items At hit n A B nb vs Λ μ s v val vs' Q E hat r ha hQ
  unfold aPair at ha
  split at ha
  · rename_i a b hv
    obtain ⟨k', rfl, hl⟩ := asTup_eq hv
    obtain ⟨c, hc, rfl⟩ := r
    exact hit.lett n A s es k pos c Q E hk hat hQ
  · cases ha
theorem sList_some {x : Ex} {vs : Vars} {Λ : Led} {r : List V × Option Nat × Led} (h : sList x vs Λ = some r) : r.2.1.isSome = true := by
  simp only [sList, Option.bind_eq_bind, Option.bind_eq_some_iff, Prod.exists] at h
  obtain ⟨v, Λ1, h1, h2⟩ := h
  cases v with
  | ref k =>
    obtain ⟨xs, _, h4⟩ := bE h2
    try dsimp only at h4
    split at h4
    · cases h4; rfl
    · cases h4
  | _ => cases h2
theorem sList_big {x : Ex} (vs : Vars) (Λ : Led) (r : List V × Option Nat × Led) (h : sList x vs Λ = some r) : r.1.length ≤ big := by
  simp only [sList, Option.bind_eq_bind, Option.bind_eq_some_iff, Prod.exists] at h
  obtain ⟨v, Λ1, h1, h2⟩ := h
  cases v with
  | ref k =>
    obtain ⟨xs, _, h4⟩ := bE h2
    try dsimp only at h4
    split at h4
    · rename_i hb; cases h4; exact hb
    · cases h4
  | _ => cases h2
theorem sRange_big {x : Ex} (vs : Vars) (Λ : Led) (r : List V × Option Nat × Led) (h : sRange x vs Λ = some r) : r.1.length ≤ big := by
  obtain ⟨⟨v, Λ1⟩, h1, h⟩ := bE h
  obtain ⟨n, h2, h3⟩ := bE h
  try dsimp only at h3
  split at h3
  · rename_i hb; cases h3; simp; lia
  · cases h3
end
end Mine

/-! ## part A8 -/
set_option maxRecDepth 4000
set_option linter.unusedVariables false
namespace Mine
open PySem PySem.Calls PyProof.Rows PySem.SeqAt

section
variable {g : Gl} {d : Nat} {f : Fm}
variable {A : Around} {B : Addr → Option Obj} {nb : Nat} {vs : Vars} {Λ : Led} {μ : List Addr} {s : Shared} {h : Heap} {Q : Value → Shared → Prop} {E : Value → Shared → Prop}

theorem pre_get {μ ν : List Addr} (p : μ <+: ν) {k : Nat} (hk : k < μ.length) : ν[k]? = μ[k]? := by
  obtain ⟨t, rfl⟩ := p; exact List.getElem?_append_left hk

/-- back from a frame that kept all that stood -/
theorem Inv.back {prog : Program} {w : World} {hG : Heap} {f' : Fm} {vs' : Vars} {Λ' : Led} {μ' : List Addr} {h' : Heap} (I : Inv prog w hG B f nb vs Λ μ h) (J : Inv prog w hG (fun b => h.get? b) f' Λ.length vs' Λ' μ' h') (p : μ <+: μ') :
    Inv prog w hG B f nb vs Λ' μ' h' := by
  have hk : ∀ b o, h.get? b = some o → h'.get? b = some o := J.keep
  have K := I.grow hk
  have cut : ∀ (k : Nat) a, μ'[k]? = some a → (k < μ.length ∧ μ[k]? = some a) ∨ (μ.length ≤ k ∧ h.get? a = none) := by
    intro k a e
    rcases Nat.lt_or_ge k μ.length with hlt | hge
    · rw [pre_get p hlt] at e; exact .inl ⟨hlt, e⟩
    · exact .inr ⟨hge, J.fresh k a (by rw [← I.len]; exact hge) e⟩
  have old : ∀ (k : Nat) a, μ[k]? = some a → h.get? a ≠ none := fun k a e q => by obtain ⟨x, hx⟩ := I.lt e; rw [hx] at q; cases q
  refine ⟨J.len, Nat.le_trans I.nbl (List.IsPrefix.length_le p), J.obj, K.keep, I.glob, ?_, ?_, ?_, K.bloc, K.bcel, I.acel, ?_⟩
  · intro k a hb e
    rcases cut k a e with ⟨_, e⟩ | ⟨_, hn⟩
    · exact I.fresh k a hb e
    · cases q : B a with
      | none => rfl
      | some o => rw [I.keep _ _ q] at hn; cases hn
  · intro j k a hb e1 e2
    rcases cut j a e1 with ⟨_, q1⟩ | ⟨h1, hn⟩ <;> rcases cut k a e2 with ⟨_, q2⟩ | ⟨h2, hn'⟩
    · exact I.nodup j k a hb q1 q2
    · exact absurd hn' (old _ _ q1)
    · exact absurd hn (old _ _ q2)
    · exact J.nodup j k a (by rw [← I.len]; exact h2) e1 e2
  · intro k a e
    rcases cut k a e with ⟨_, e⟩ | ⟨_, hn⟩
    · exact I.nloc k a e
    · refine ⟨?_, ?_⟩
      · rintro rfl
        obtain ⟨m, o, es, ep, q, _⟩ := I.bloc.2
        rw [q] at hn; cases hn
      · rintro x c hx hc rfl
        obtain ⟨c', v, hc', hcel, _⟩ := I.bcel x hx
        rw [hc'] at hc; cases hc
        obtain ⟨o, q, _⟩ := hcel
        rw [q] at hn; cases hn
  · intro i x v e1 e2
    obtain ⟨val, a, b⟩ := K.vars i x v e1 e2
    exact ⟨val, VIs.mono p _ _ a, b⟩

/-- into a new frame -/
theorem Inv.enter {prog : Program} {w : World} {hG : Heap} {f' : Fm} {vs' : Vars} {h' : Heap} (I : Inv prog w hG B f nb vs Λ μ h) (hk : ∀ b o, h.get? b = some o → h'.get? b = some o)
    (hL : h.get? f'.env.locals = none) (hns : ∃ m, h'.Ns f'.env.locals m)
    (hc : ∀ x, x ∈ f'.own → ∃ c v, f'.env.cells.lookup x = some c ∧ h'.IsCell c v ∧ h.get? c = none ∧ c ≠ f'.env.locals)
    (ha : ∀ x y c, x ∈ f'.own → f'.env.cells.lookup x = some c → f'.env.cells.lookup y = some c → x = y)
    (hv : ∀ (i : Nat) x v, f'.names[i]? = some x → getV vs' i = some v → ∃ val, VIs μ v val ∧ Loc f'.env x h' val) : Inv prog w hG (fun b => h.get? b) f' Λ.length vs' Λ μ h' := by
  have K := I.grow hk
  refine ⟨I.len, by rw [I.len]; exact Nat.le_refl _, K.obj, hk, fun b o e => I.keep b o (I.glob b o e), ?_, ?_, ?_, ⟨hL, hns⟩, hc, ha, hv⟩
  · intro k a hb e
    have := (List.getElem?_eq_some_iff.mp e).1
    rw [I.len] at this; lia
  · intro j k a hb e1 e2
    have := (List.getElem?_eq_some_iff.mp e2).1
    rw [I.len] at this; lia
  · intro k a e
    obtain ⟨o, ho⟩ := I.lt e
    refine ⟨?_, ?_⟩
    · rintro rfl; rw [hL] at ho; cases ho
    · rintro x c hx hcl rfl
      obtain ⟨c', v, e1, _, e3, _⟩ := hc x hx
      rw [e1] at hcl; cases hcl
      rw [e3] at ho; cases ho

theorem lookup_zip {ps : List Str} {vals : List Value} (hnd : ps.Nodup) (hl : vals.length = ps.length) {i : Nat} {x : Str} {v : Value} (hx : ps[i]? = some x) (hv : vals[i]? = some v) : (ps.zip vals).reverse.lookup x = some v := by
  have hm : (x, v) ∈ (ps.zip vals).reverse := by
    rw [List.mem_reverse]
    have : (ps.zip vals)[i]? = some (x, v) := by rw [List.getElem?_zip_eq_some]; exact ⟨hx, hv⟩
    exact List.mem_of_getElem? this
  have hn : ((ps.zip vals).reverse.map (·.1)).Nodup := by
    rw [List.map_reverse, List.map_fst_zip (by lia)]
    exact List.pairwise_reverse.mpr (hnd.imp fun h => Ne.symm h)
  revert hm hn
  generalize (ps.zip vals).reverse = l
  intro hm hn
  induction l with
  | nil => cases hm
  | cons p l ih =>
    obtain ⟨y, u⟩ := p
    rw [List.lookup_cons]
    rcases List.mem_cons.mp hm with e | hm'
    · cases e; simp
    · have hne : x ≠ y := by
        rintro rfl
        simp only [List.map_cons, List.nodup_cons] at hn
        exact hn.1 (List.mem_map_of_mem (f := (·.1)) hm')
      have : (x == y) = false := by simpa using hne
      rw [this]
      simp only [List.map_cons, List.nodup_cons] at hn
      exact ih hm' hn.2

theorem getV_args {args : List V} {m i : Nat} {v : V} (h : getV (args.map some ++ List.replicate m none) i = some v) : args[i]? = some v := by
  unfold getV at h
  rcases Nat.lt_or_ge i args.length with hi | hi
  · rw [List.getElem?_append_left (by simpa using hi), List.getElem?_map] at h
    cases q : args[i]? with
    | none => rw [q] at h; cases h
    | some u => rw [q] at h; exact h
  · rw [List.getElem?_append_right (by simpa using hi)] at h
    simp only [List.getElem?_replicate] at h
    split at h <;> simp at h

theorem Rm.deeper {A : Around} {env : Env} (h : Rm (d + 1) A) : Rm d (A.deeper env) := ⟨h.1, by have := h.2.1; show A.depth + 1 + d < _; lia, by have := h.2.2; show A.units + 3 + 30 * d < _; lia⟩

theorem callOk_plain {a : Addr} {o : Obj} {fd : FuncData} {body : List Stmt} {ps rest : List Str} {x : Stm} (gk : GlOk g) (ho : g.hG.get? a = some o) (hd : o.data = .func fd) (hcd : g.hG.CodeRec fd.code fd.qualname)
    (hbody : fd.body = .stmts body) (hbind : ∀ vals : List Value, vals.length = ps.length → bindArgs fd ⟨vals, []⟩ = pure (ps.zip vals)) (hcell : ∀ x ∈ fd.scope.names, x.2 ≠ .cell) (hloc : ∀ x ∈ ps, fd.scope.names.lookup x = some .local)
    (hnd : ps.Nodup) (hS : ∀ L, SS g d ⟨callEnv fd L a, ps ++ rest, []⟩ body x)
    (hco : fd.scope.isCoroutine = false := by rfl) (hgen : fd.scope.isGenerator = false := by rfl) (hk : fd.scope.kind = .function := by rfl) : CallOk g (d + 1) a (def_ ps.length (ps ++ rest).length x) := by
  intro A B f nb vs Λ μ s args vals v Λ' Q E hA I hargs hx hQ
  unfold def_ at hx
  split at hx
  · rename_i hlen
    simp only [Option.bind_eq_bind, Option.bind_eq_some_iff] at hx
    obtain ⟨⟨fl, vs1, Λ1⟩, h1, h2⟩ := hx
    have hvl : vals.length = ps.length := by rw [← hargs.length]; exact hlen
    have hkeep : ∀ b o, g.hG.get? b = some o → s.heap.get? b = some o := fun b o e => I.keep b o (I.glob b o e)
    refine wpAny_call (codeAny_call_def (by have := hA.2.1; lia) (hkeep _ _ ho) hd (gk.lim.keeps hkeep) (let ⟨c, oc, vs', t, q1, q2, q3⟩ := hcd; ⟨c, oc, vs', t, q1, hkeep _ _ q2, q3⟩) hbody (BindsTo.of_eq (hbind vals hvl)) hcell
      (fun y hy => hloc y.1 (List.of_mem_zip hy).1) (fun h₀ hns hk₀ => ?_) hco hgen hk)
    have J : In g (fun b => s.heap.get? b) ⟨callEnv fd s.heap.objs.size a, ps ++ rest, []⟩ Λ.length (args.map some ++ List.replicate ((ps ++ rest).length - ps.length) none) Λ μ h₀ := by
      refine I.enter hk₀ (get_size _) ⟨_, hns⟩ (fun x hx => (nomatch hx)) (fun x y c hx => (nomatch hx)) fun i y u e1 e2 => ?_
      have e3 := getV_args e2
      have hi : i < ps.length := by have := (List.getElem?_eq_some_iff.mp e3).1; lia
      simp only at e1
      rw [List.getElem?_append_left hi] at e1
      obtain ⟨val, e4, r⟩ := hargs.get e3
      exact ⟨val, r, .inl ⟨hloc y (List.mem_of_getElem? e1), _, hns, lookup_zip hnd hvl e1 e4⟩⟩
    refine hS s.heap.objs.size (A.deeper _) _ _ _ Λ μ _ fl vs1 Λ1 _ _ hA.deeper J h1 fun flow s2 μ2 S2 p2 J2 r2 => ?_
    have I2 := I.back J2 p2
    have S2' : Same s s2 := Same.of.trans S2
    cases fl with
    | next => cases r2.nextOf; cases h2; exact hQ _ _ μ2 S2' p2 I2 rfl
    | ret u =>
      obtain ⟨y, rfl, r⟩ := r2.retOf
      cases h2
      exact hQ _ _ μ2 S2' p2 I2 r
  · cases hx

theorem bindL_all {kindOf : Str → Option NameKind} : ∀ {l : List (Str × Value)} (m : Str → Option Value) (y : Str), (∀ p ∈ l, kindOf p.1 = some .local) → bindL kindOf l m y = (l.reverse.lookup y).or (m y)
  | [], m, y, _ => by simp [bindL]
  | (n, v) :: r, m, y, hl => by
    have h1 : kindOf n = some .local := hl (n, v) (.head _)
    rw [bindL, if_pos h1, bindL_all _ y (fun p hp => hl p (.tail _ hp)), List.reverse_cons, List.lookup_append]
    cases hr : r.reverse.lookup y with
    | some u => simp
    | none =>
      simp only [List.lookup_cons, List.lookup_nil, Option.none_or, Option.or_none]
      by_cases hy : y = n
      · subst hy; simp
      · have : (y == n) = false := by simpa using hy
        simp [hy, this]

theorem pair_mem {α β : Type} [BEq α] [LawfulBEq α] {x : α} {c : β} : ∀ {l : List (α × β)}, l.lookup x = some c → (x, c) ∈ l
  | [], h => by simp at h
  | (y, u) :: r, h => by
    rw [List.lookup_cons] at h
    split at h
    · rename_i e; cases h; rw [eq_of_beq e]; exact .head _
    · exact .tail _ (pair_mem h)

theorem callOk_cells {a : Addr} {o : Obj} {fd : FuncData} {body : List Stmt} {ps rest own : List Str} {x : Stm} (gk : GlOk g) (ho : g.hG.get? a = some o) (hd : o.data = .func fd) (hcd : g.hG.CodeRec fd.code fd.qualname)
    (hbody : fd.body = .stmts body) (hcl : fd.closure = []) (hbind : ∀ vals : List Value, vals.length = ps.length → bindArgs fd ⟨vals, []⟩ = pure (ps.zip vals)) (hloc : ∀ x ∈ ps, fd.scope.names.lookup x = some .local)
    (hown : ∀ n, ∀ x ∈ own, ((cellsFrom n fd.scope.names []).lookup x).isSome = true) (hnd : ps.Nodup) (hS : ∀ L, SS g d ⟨callEnvC fd L a, ps ++ rest, own⟩ body x)
    (hco : fd.scope.isCoroutine = false := by rfl) (hgen : fd.scope.isGenerator = false := by rfl) (hk : fd.scope.kind = .function := by rfl) : CallOk g (d + 1) a (def_ ps.length (ps ++ rest).length x) := by
  intro A B f nb vs Λ μ s args vals v Λ' Q E hA I hargs hx hQ
  unfold def_ at hx
  split at hx
  · rename_i hlen
    simp only [Option.bind_eq_bind, Option.bind_eq_some_iff] at hx
    obtain ⟨⟨fl, vs1, Λ1⟩, h1, h2⟩ := hx
    have hvl : vals.length = ps.length := by rw [← hargs.length]; exact hlen
    have hkeep : ∀ b o, g.hG.get? b = some o → s.heap.get? b = some o := fun b o e => I.keep b o (I.glob b o e)
    have hcd' : s.heap.CodeRec fd.code fd.qualname := let ⟨c, oc, vs', t, q1, q2, q3⟩ := hcd; ⟨c, oc, vs', t, q1, hkeep _ _ q2, q3⟩
    refine wpAny_call (codeAny_call_function (by have := hA.2.1; lia) (hkeep _ _ ho) hd hco hgen hbody hcd' ?_)
    rw [hbind vals hvl, hcl]
    refine wpAny_pure (wpAny_newFunctionEnv_cells hk (fun y hy => .inl (hloc y.1 (List.of_mem_zip hy).1)) fun env he s' hin => ?_)
    have he' : env = callEnvC fd s.heap.objs.size a := he
    subst he'
    obtain ⟨h₀, tk, rfl, _⟩ := hin.done
    have hk₀ : ∀ b o, s.heap.get? b = some o → h₀.get? b = some o := hin.toInCall.keep
    refine ⟨(gk.lim.keeps hkeep).keeps hk₀, codeAny_func ?_⟩
    have J : In g (fun b => s.heap.get? b) ⟨callEnvC fd s.heap.objs.size a, ps ++ rest, own⟩ Λ.length (args.map some ++ List.replicate ((ps ++ rest).length - ps.length) none) Λ μ h₀ := by
      refine I.enter hk₀ (get_size _) ⟨_, hin.toInCall.ns⟩ (fun y hy => ?_) (fun y z c hy e1 e2 => ?_) fun i y u e1 e2 => ?_
      · have hsome := hown (s.heap.objs.size + 1) y hy
        cases hq : (cellsFrom (s.heap.objs.size + 1) fd.scope.names []).lookup y with
        | none => rw [hq] at hsome; cases hsome
        | some c =>
          have hlt : s.heap.objs.size < c := hin.above y c (pair_mem hq)
          exact ⟨c, _, hq, hin.cell y c hq, get_above (Nat.le_of_lt hlt), Nat.ne_of_gt hlt⟩
      · have m1 := pair_mem e1
        have m2 := pair_mem e2
        have hp := hin.apart
        by_cases hyz : y = z
        · exact hyz
        · exfalso
          have : ∀ (l : List (Str × Addr)), l.Pairwise (fun x y => x.2 ≠ y.2) → (y, c) ∈ l → (z, c) ∈ l → False := by
            intro l hl q1 q2
            induction hl with
            | nil => cases q1
            | cons hh _ ih =>
              rcases List.mem_cons.mp q1 with e | q1 <;> rcases List.mem_cons.mp q2 with e' | q2
              · rw [← e] at e'; cases e'; exact hyz rfl
              · exact hh _ q2 (by rw [← e])
              · exact hh _ q1 (by rw [← e'])
              · exact ih q1 q2
          exact this _ hp m1 m2
      · have e3 := getV_args e2
        have hi : i < ps.length := by have := (List.getElem?_eq_some_iff.mp e3).1; lia
        simp only at e1
        rw [List.getElem?_append_left hi] at e1
        obtain ⟨val, e4, r⟩ := hargs.get e3
        refine ⟨val, r, .inl ⟨hloc y (List.mem_of_getElem? e1), _, hin.toInCall.ns, ?_⟩⟩
        rw [bindL_all _ _ (fun p hp => hloc p.1 (List.of_mem_zip hp).1), lookup_zip hnd hvl e1 e4]
        rfl
    refine hS s.heap.objs.size (A.deeper _) _ _ _ Λ μ _ fl vs1 Λ1 _ _ hA.deeper J h1 fun flow s2 μ2 S2 p2 J2 r2 => ?_
    have I2 := I.back J2 p2
    have S2' : Same s s2 := Same.of.trans S2
    cases fl with
    | next => cases r2.nextOf; cases h2; exact hQ _ _ μ2 S2' p2 I2 rfl
    | ret u =>
      obtain ⟨y, rfl, r⟩ := r2.retOf
      cases h2
      exact hQ _ _ μ2 S2' p2 I2 r
  · cases hx
end
end Mine

/-! ## part A9 -/
set_option maxRecDepth 4000
set_option linter.unusedVariables false
namespace Mine
open PySem PySem.Calls PyProof.Rows PySem.SeqAt

section
variable {g : Gl} {d : Nat} {f : Fm}
variable {A : Around} {B : Addr → Option Obj} {nb : Nat} {vs : Vars} {Λ : Led} {μ : List Addr} {s : Shared} {h : Heap} {Q : Value → Shared → Prop} {E : Value → Shared → Prop}

/-- an object that stands comes onto the ledger -/
theorem Inv.adopt {prog : Program} {w : World} {hG : Heap} (I : Inv prog w hG B f nb vs Λ μ h) {a : Addr} {o : O} (hB : B a = none) (hμ : ∀ k : Nat, μ[k]? ≠ some a) (hL : a ≠ f.env.locals) (hC : ∀ x c, x ∈ f.own → f.env.cells.lookup x = some c → a ≠ c)
    (ho : ObjIs prog w (μ ++ [a]) h a o) : Inv prog w hG B f nb vs (Λ ++ [o]) (μ ++ [a]) h := by
  have cut : ∀ (k : Nat) b, (μ ++ [a])[k]? = some b → (k < μ.length ∧ μ[k]? = some b) ∨ (k = μ.length ∧ b = a) := by
    intro k b e
    rcases Nat.lt_or_ge k μ.length with hlt | hge
    · rw [List.getElem?_append_left hlt] at e; exact .inl ⟨hlt, e⟩
    · rw [List.getElem?_append_right hge] at e
      match hk : k - μ.length, e with
      | 0, e => simp at e; exact .inr ⟨by lia, e.symm⟩
      | n + 1, e => simp at e
  refine ⟨by simp [I.len], by have := I.nbl; simp; lia, ?_, I.keep, I.glob, ?_, ?_, ?_, I.bloc, I.bcel, I.acel, ?_⟩
  · intro k b q e1 e2
    rcases cut k b e1 with ⟨hlt, e⟩ | ⟨rfl, rfl⟩
    · rw [List.getElem?_append_left (by rw [← I.len]; exact hlt)] at e2
      exact (I.obj k b q e e2).keep ⟨[a], rfl⟩ rfl
    · rw [I.len] at e2; simp at e2; subst e2; exact ho
  · intro k b hb e
    rcases cut k b e with ⟨_, e⟩ | ⟨_, rfl⟩
    · exact I.fresh k b hb e
    · exact hB
  · intro j k b hb e1 e2
    rcases cut j b e1 with ⟨_, q1⟩ | ⟨k1, q1⟩ <;> rcases cut k b e2 with ⟨_, q2⟩ | ⟨k2, q2⟩
    · exact I.nodup j k b hb q1 q2
    · rw [q2] at q1; exact absurd q1 (hμ j)
    · rw [q1] at q2; exact absurd q2 (hμ k)
    · lia
  · intro k b e
    rcases cut k b e with ⟨_, e⟩ | ⟨_, rfl⟩
    · exact I.nloc k b e
    · exact ⟨hL, hC⟩
  · intro i x v e1 e2
    obtain ⟨val, r, l⟩ := I.vars i x v e1 e2
    exact ⟨val, VIs.mono ⟨[a], rfl⟩ _ _ r, l⟩

/-- a comprehension's tests -/
def STests (g : Gl) (d : Nat) (f : Fm) (ifs : List Expr) (x : Te) : Prop :=
  ∀ (A : Around) (B : Addr → Option Obj) (nb : Nat) (vs : Vars) (Λ : Led) (μ : List Addr) (s : Shared) (b : Bool) (Λ' : Led) (Q : Bool → Shared → Prop) (E : Value → Shared → Prop),
    Rm d A → In g B f nb vs Λ μ s.heap → x vs Λ = some (b, Λ') → (∀ s' μ', Same s s' → μ <+: μ' → In g B f nb vs Λ' μ' s'.heap → Q b s') →
    wpAny (model g.prog g.w) A (forIn ifs true fun c r => if r = true then do let ok ← isTrue c f.env (eval c f.env); pure (ForInStep.yield ok) else pure (ForInStep.yield r)) Q E s
theorem STests.nil : STests g d f [] tTrue := by
  intro A B nb vs Λ μ s b Λ' Q E hA I hx hQ
  cases hx
  exact wpAny_tests_nil (hQ _ μ (Same.refl _) (List.prefix_refl _) I)
theorem STests.one {c : Expr} {t : Te} (hc : ST g d f c t) : STests g d f [c] (tAnd t tTrue) := by
  intro A B nb vs Λ μ s b Λ' Q E hA I hx hQ
  simp only [tAnd, Option.bind_eq_bind, Option.bind_eq_some_iff, Prod.exists] at hx
  obtain ⟨a, Λ1, h1, h3⟩ := hx
  refine wpAny_tests_one (hc A B nb vs Λ μ s a Λ1 _ _ hA I h1 fun s1 μ1 S1 p1 I1 => ?_)
  have : b = a ∧ Λ' = Λ1 := by
    cases a with
    | true => simp only [if_true] at h3; cases h3; exact ⟨rfl, rfl⟩
    | false => simp only [Bool.false_eq_true, if_false] at h3; cases h3; exact ⟨rfl, rfl⟩
  obtain ⟨rfl, rfl⟩ := this
  exact hQ s1 μ1 S1 p1 I1

/-- the frame of a block -/
abbrev blockFm (f : Fm) (sc : Scope) (cl : List (Str × Addr)) (bn : List Str) (C : Addr) : Fm := ⟨compEnvC sc cl C f.env, bn, []⟩

/-- the block sees the frame's cells -/
def Caps (f : Fm) (sc : Scope) (cl : List (Str × Addr)) (bn : List Str) (caps : List Nat) (off : Nat) : Prop :=
  ∀ (j i : Nat), caps[j]? = some i → ∃ y, f.names[i]? = some y ∧ bn[j + off]? = some y ∧ f.env.kindOf y = some .cell ∧ (relabel sc f.env).names.lookup y = some .cell ∧ cl.lookup y = f.env.cells.lookup y

theorem caps_loc {sc : Scope} {cl : List (Str × Addr)} {bn : List Str} {caps : List Nat} {off : Nat} (hc : Caps f sc cl bn caps off) (hbn : bn.Nodup) {C : Addr} {h₁ h' : Heap} (I : In g B f nb vs Λ μ h₁) (hk : ∀ b o, h₁.get? b = some o → h'.get? b = some o)
    {j : Nat} {x : Str} {v : V} (e1 : bn[j + off]? = some x) (e2 : getV (capsOf caps vs) j = some v) : ∃ val, VIs μ v val ∧ Loc (compEnvC sc cl C f.env) x h' val := by
  have e3 : (capsOf caps vs)[j]? = some (some v) := by
    unfold getV at e2
    cases q : (capsOf caps vs)[j]? with
    | none => rw [q] at e2; cases e2
    | some u => rw [q] at e2; simp at e2; rw [e2]
  unfold capsOf at e3
  rw [List.getElem?_map] at e3
  cases q : caps[j]? with
  | none => rw [q] at e3; cases e3
  | some i =>
    rw [q] at e3
    simp only [Option.map_some, Option.some.injEq] at e3
    obtain ⟨y, h1, h2, h3, h4, h5⟩ := hc j i q
    rw [h2] at e1; cases e1
    obtain ⟨val, r, l⟩ := I.vars i _ v h1 e3
    refine ⟨val, r, .inr ⟨.inl h4, ?_⟩⟩
    rcases l with ⟨kd, _⟩ | ⟨_, c, ec, hcl⟩
    · rw [h3] at kd; cases kd
    · exact ⟨c, h5.trans ec, hcl.keeps hk⟩

theorem compGo_drop {ok : Led → Bool} {t : Te} {elt : Ex} {mk : V → Vars} {items : List V} {i : Nat} {Λ : Led} {r : List V × Led} (h : compGo ok t elt mk (items.drop i) Λ = some r) :
    (items.length ≤ i ∧ ok Λ = true ∧ r = ([], Λ)) ∨ (∃ v b Λ1, items[i]? = some v ∧ ok Λ = true ∧ t (mk v) Λ = some (b, Λ1) ∧
      ((b = true ∧ ∃ x Λ2 xs Λ3, elt (mk v) Λ1 = some (x, Λ2) ∧ compGo ok t elt mk (items.drop (i + 1)) Λ2 = some (xs, Λ3) ∧ r = (x :: xs, Λ3)) ∨
       (b = false ∧ compGo ok t elt mk (items.drop (i + 1)) Λ1 = some r))) := by
  rcases Nat.lt_or_ge i items.length with hi | hi
  · right
    rw [List.drop_eq_getElem_cons hi] at h
    simp only [compGo] at h
    split at h
    · rename_i hok
      simp only [Option.bind_eq_bind, Option.bind_eq_some_iff, Prod.exists] at h
      obtain ⟨b, Λ1, h1, h2⟩ := h
      refine ⟨items[i], b, Λ1, List.getElem?_eq_getElem hi, hok, h1, ?_⟩
      cases b with
      | true =>
        simp only [if_true, Option.bind_eq_some_iff, Prod.exists] at h2
        obtain ⟨x, Λ2, h3, xs, Λ3, h4, h5⟩ := h2
        exact .inl ⟨rfl, x, Λ2, xs, Λ3, h3, h4, by cases h5; rfl⟩
      | false =>
        simp only [Bool.false_eq_true, if_false] at h2
        exact .inr ⟨rfl, h2⟩
    · cases h
  · left
    rw [List.drop_of_length_le hi] at h
    simp only [compGo] at h
    split at h
    · rename_i hok; exact ⟨hi, hok, by cases h; rfl⟩
    · cases h

theorem compGo_len {ok : Led → Bool} {t : Te} {elt : Ex} {mk : V → Vars} : ∀ {items : List V} {Λ : Led} {r : List V × Led}, compGo ok t elt mk items Λ = some r → r.1.length ≤ items.length
  | [], Λ, r, h => by
    simp only [compGo] at h
    split at h
    · cases h; simp
    · cases h
  | v :: rest, Λ, r, h => by
    simp only [compGo] at h
    split at h
    · simp only [Option.bind_eq_bind, Option.bind_eq_some_iff, Prod.exists] at h
      obtain ⟨b, Λ1, h1, h2⟩ := h
      cases b with
      | true =>
        simp only [if_true, Option.bind_eq_some_iff, Prod.exists] at h2
        obtain ⟨x, Λ2, h3, xs, Λ3, h4, h5⟩ := h2
        cases h5
        have := compGo_len h4
        simpa using this
      | false =>
        simp only [Bool.false_eq_true, if_false] at h2
        have := compGo_len h2
        simp; lia
    · cases h

/-- an object that is off the ledger, off the frame -/
structure Off (f : Fm) (h₁ : Heap) (μ : List Addr) (a : Addr) : Prop where
  new : h₁.get? a = none
  mu : ∀ k : Nat, μ[k]? ≠ some a
  loc : a ≠ f.env.locals

set_option genSizeOf false in
set_option genInjectivity false in
/-- what holds at the head of a comprehension's loop -/
inductive LoopInv (g : Gl) (B : Addr → Option Obj) (fb : Fm) (nb : Nat) (mkv : Option V → Option V → Vars) (μ : List Addr) (s : Shared) (At : Nat → Heap → Prop) (N : Nat) (It D : Addr) (pre xs : List V) (go : Nat → Led → Option (List V × Led)) (Λ' : Led) (P : Nat → List V → Prop) (n : Nat) (s2 : Shared) : Prop
  | mk (i : Nat) (u2 u2' : Option V) (Λ2 : Led) (μ2 : List Addr) (done rest : List V) (ys : Array Value) (m : Nat) (hn : n = N + 1 - i) (hi : i ≤ N) (S2 : Same s s2) (p2 : μ <+: μ2) (I2 : In g B fb nb (mkv u2 u2') Λ2 μ2 s2.heap) (hat2 : At i s2.heap)
    (hD2 : IsL s2.heap D ys m) (hys : All2 (VIs μ2) (pre ++ done) ys.toList) (hdl : P i done) (hI2 : ∀ k : Nat, μ2[k]? ≠ some It) (hDm2 : ∀ k : Nat, μ2[k]? ≠ some D) (hxs : xs = done ++ rest) (hgo2 : go i Λ2 = some (rest, Λ'))
theorem comp_loop {sc : Scope} {cl : List (Str × Addr)} {x : Str} {bn : List Str} {caps : List Nat} {elt iter : Expr} {px pos : Pos} {ifs : List Expr} {src : Src} {t : Te} {y : Ex} {C It D : Addr} {At : Nat → Heap → Prop} {μ₀ : List Addr} {items : List V} {k? : Option Nat}
    {h₁ : Heap} {Λ₁ Λ' : Led} {xs : List V} {R : Result → Shared → Prop}
    (okb : FmOk (blockFm f sc cl (x :: bn) C)) (hx : (compEnvC sc cl C f.env).kindOf x = some .local)
    (ht : STests g d (blockFm f sc cl (x :: bn) C) ifs t) (hy : SE g d (blockFm f sc cl (x :: bn) C) elt y)
    (hA : Rm d A) (hit : Iter g μ₀ It items k? At) (hbig : items.length ≤ sizeLine)
    {u : Option V} {cs : Vars} (J : In g (fun b => h₁.get? b) (blockFm f sc cl (x :: bn) C) Λ₁.length (u :: cs) Λ₁ μ s.heap) (hp : μ₀ <+: μ) (hat : At 0 s.heap) {n0 : Nat} (hD : IsL s.heap D #[] n0)
    (oI : Off (blockFm f sc cl (x :: bn) C) h₁ μ It) (oD : Off (blockFm f sc cl (x :: bn) C) h₁ μ D) (hID : It ≠ D)
    (hgo : compGo (stands k? items) t y (fun v => some v :: cs) items Λ₁ = some (xs, Λ'))
    (hR : ∀ s' μ' u' ys n, Same s s' → μ <+: μ' → In g (fun b => h₁.get? b) (blockFm f sc cl (x :: bn) C) Λ₁.length (u' :: cs) Λ' μ' s'.heap → IsL s'.heap D ys n → All2 (VIs μ') xs ys.toList → (∀ k : Nat, μ'[k]? ≠ some D) → R (.ok .next) s') :
    codeAny (model g.prog g.w) A (.compLoop (.ListComp elt [⟨.Name x px, iter, ifs, 0⟩] sc pos) 0 (.ref It) (.ref D) (compEnvC sc cl C f.env)) R s := by
  have hmu : ∀ (a : Addr) μ2, (∀ k : Nat, μ[k]? ≠ some a) → μ <+: μ2 → (∀ k : Nat, Λ₁.length ≤ k → μ2[k]? ≠ some a) → ∀ k : Nat, μ2[k]? ≠ some a := by
    intro a μ2 h0 hp hh k
    rcases Nat.lt_or_ge k Λ₁.length with hlt | hge
    · rw [pre_get hp (by rw [J.len]; exact hlt)]; exact h0 k
    · exact hh k hge
  refine codeAny_compLoop_tests (LoopInv g (fun b => h₁.get? b) (blockFm f sc cl (x :: bn) C) Λ₁.length (fun u _ => u :: cs) μ s At items.length It D [] xs (fun i Λ2 => compGo (stands k? items) t y (fun v => some v :: cs) (items.drop i) Λ2) Λ' (fun i l => l.length ≤ i)) ?_ (items.length + 1)
    ⟨0, u, none, Λ₁, μ, [], xs, #[], n0, rfl, Nat.zero_le _, Same.refl _, List.prefix_refl _, J, hat, hD, .nil, Nat.le_refl _, oI.mu, oD.mu, rfl, hgo⟩
  rintro n s2 ⟨i, u2, u2', Λ2, μ2, done, rest, ys, m, rfl, hi, S2, p2, I2, hat2, hD2, hys, hdl, hI2, hDm2, hxs, hgo2⟩
  dsimp only [List.nil_append] at I2 hys hdl hgo2
  obtain ⟨oi, hoi, hoic⟩ := hit.obj _ _ hat2
  have hcI : ∀ o v, s2.heap.get? It = some o → o.data ≠ .cell v := fun o v e => by rw [hoi] at e; cases e; exact hoic v
  rcases compGo_drop hgo2 with ⟨hlen, hok, hr⟩ | ⟨v, b, Λ3, hv, hok, htest, hcase⟩
  · have hie : i = items.length := by lia
    subst hie
    cases hr
    refine hit.done A _ _ _ _ _ μ2 s2 _ _ hA.1 I2 (pre_trans hp p2) hok hat2 fun h' tk hext => ?_
    have I3 : In g (fun b => h₁.get? b) (blockFm f sc cl (x :: bn) C) Λ₁.length (u2 :: cs) _ μ2 h' := I2.other hext hI2 oI.loc oI.new hcI
    exact hR _ μ2 u2 ys m (S2.trans Same.of) p2 I3 (hext D _ (Ne.symm hID) hD2) (by rw [hxs, List.append_nil]; exact hys) hDm2
  · refine hit.item i v A _ _ _ _ _ μ2 s2 _ _ hv I2 (pre_trans hp p2) hok hat2 fun val h' tk r hat3 hsame => ?_
    have I3 : In g (fun b => h₁.get? b) (blockFm f sc cl (x :: bn) C) Λ₁.length (u2 :: cs) Λ2 μ2 h' := I2.other hsame.extBut hI2 oI.loc oI.new hcI
    have hD3 : IsL h' D ys m := hsame.extBut D _ (Ne.symm hID) hD2
    obtain ⟨o3, ho3, hoc3⟩ := hit.obj _ _ hat3
    have H3 := Inv.hide (Inv.hide (h := h') I3 ho3 hI2 oI.loc (fun x c hx => (nomatch hx)) oI.new) hD3 hDm2 oD.loc (fun x c hx => (nomatch hx)) (by show withObj _ _ _ D = none; unfold withObj; rw [if_neg (Ne.symm hID)]; exact oD.new)
    -- back out of the two hidden objects
    have out : ∀ {vs' : Vars} {Λ4 : Led} {μ4 : List Addr} {h4 : Heap}, μ2 <+: μ4 → In g (withObj (withObj (fun b => h₁.get? b) It o3) D { cls := .type "list", dict := none, data := .seq ys m, slots := #[] }) (blockFm f sc cl (x :: bn) C) Λ₁.length vs' Λ4 μ4 h4 →
        In g (fun b => h₁.get? b) (blockFm f sc cl (x :: bn) C) Λ₁.length vs' Λ4 μ4 h4 ∧ At (i + 1) h4 ∧ IsL h4 D ys m ∧ (∀ k : Nat, μ4[k]? ≠ some It) ∧ (∀ k : Nat, μ4[k]? ≠ some D) := by
      intro vs' Λ4 μ4 h4 p4 I4
      have hDB : withObj (fun b => h₁.get? b) It o3 D = none := by unfold withObj; rw [if_neg (Ne.symm hID)]; exact oD.new
      have hgl : ∀ b o, g.hG.get? b = some o → withObj (fun b => h₁.get? b) It o3 b = some o := fun b o e => by
        have e' := I3.glob b o e
        unfold withObj
        rw [if_neg (fun hb => by have q := oI.new; rw [← hb, show h₁.get? b = some o from e'] at q; cases q)]
        exact e'
      obtain ⟨K1, q1, m1⟩ := I4.unhide hDB hgl
      obtain ⟨K2, q2, m2⟩ := K1.unhide oI.new I3.glob
      exact ⟨K2, hit.loc _ _ _ hat3 (q2.trans ho3.symm), q1, hmu It μ4 oI.mu (pre_trans p2 p4) m2, hmu D μ4 oD.mu (pre_trans p2 p4) m1⟩
    refine wpAny_assign_Name (store (i := 0) okb rfl (.inl hx) H3 r fun s4 S4 I4 => ?_)
    have I4' : In g _ (blockFm f sc cl (x :: bn) C) Λ₁.length (some v :: cs) Λ2 μ2 s4.heap := I4
    refine ht A _ _ _ Λ2 μ2 s4 b Λ3 _ _ hA I4' htest fun s5 μ5 S5 p5 I5 => ?_
    have S5' : Same s s5 := (S2.trans (Same.of.trans S4)).trans S5
    have hlt : i < items.length := (List.getElem?_eq_some_iff.mp hv).1
    rcases hcase with ⟨rfl, z, Λ6, zs, Λ7, helt, hrest, hr⟩ | ⟨rfl, hrest⟩
    · cases hr
      simp only [if_true]
      refine hy A _ _ _ Λ3 μ5 s5 z Λ6 _ _ hA I5 helt fun vz s6 μ6 S6 p6 I6 r6 => ?_
      obtain ⟨K6, hat6, hD6, hI6, hDm6⟩ := out (pre_trans p5 p6) I6
      have hsz : ys.size ≤ sizeLine := by
        have := hys.length
        have e4 : ys.toList.length = ys.size := by simp
        lia
      refine wpAny_list_append_plain (hsz := hsz) ⟨m, hD6⟩ fun h7 hl7 hs7 => ?_
      obtain ⟨m7, hl7⟩ := hl7
      have hcD : ∀ o v, s6.heap.get? D = some o → o.data ≠ .cell v := fun o v e q => by rw [hD6] at e; cases e; cases q
      have K7 : In g (fun b => h₁.get? b) (blockFm f sc cl (x :: bn) C) Λ₁.length (some v :: cs) Λ6 μ6 h7 := K6.other hs7.extBut hDm6 oD.loc oD.new hcD
      refine ⟨items.length + 1 - (i + 1), by lia, i + 1, some v, none, Λ6, μ6, done ++ [z], zs, ys.push vz, m7, rfl, by lia, (S5'.trans S6).trans Same.of, pre_trans p2 (pre_trans p5 p6), K7, hit.loc _ _ _ hat6 (hs7.2 It hID), hl7, ?_, by simp; lia, hI6, hDm6, by simp [hxs], hrest⟩
      rw [Array.toList_push]
      exact (hys.mono (VIs.mono (pre_trans p5 p6))).append (.cons r6 .nil)
    · simp only [Bool.false_eq_true, if_false]
      obtain ⟨K5, hat5, hD5, hI5, hDm5⟩ := out p5 I5
      exact ⟨items.length + 1 - (i + 1), by lia, i + 1, some v, none, Λ3, μ5, done, rest, ys, m, rfl, by lia, S5', pre_trans p2 p5, K5, hat5, hD5, hys.mono (VIs.mono p5), Nat.le_succ_of_le hdl, hI5, hDm5, hxs, hrest⟩

/-- what a comprehension hands on -/
def CompEnd (g : Gl) (f : Fm) (h₁ : Heap) (Λ₁ : Led) (μ : List Addr) (s : Shared) (Λ' : Led) (xs : List V) (D C : Addr) (s' : Shared) : Prop :=
  ∃ f' vs' μ' ys n, f'.env.locals = C ∧ Same s s' ∧ μ <+: μ' ∧ In g (fun b => h₁.get? b) f' Λ₁.length vs' Λ' μ' s'.heap ∧ IsL s'.heap D ys n ∧ All2 (VIs μ') xs ys.toList ∧ (∀ k : Nat, μ'[k]? ≠ some D) ∧ h₁.get? D = none ∧ D ≠ C ∧ h₁.get? C = none

/-- the block, behind its iterator -/
theorem comp_block {sc : Scope} {cl : List (Str × Addr)} {x : Str} {bn : List Str} {caps : List Nat} {elt iter : Expr} {px pos : Pos} {ifs : List Expr} {t : Te} {y : Ex} {It : Addr} {At : Nat → Heap → Prop} {items : List V} {k? : Option Nat}
    {h₁ : Heap} {Λ₁ Λ' : Led} {xs : List V} {RR : Value → Addr → Result → Shared → Prop}
    (okb : ∀ C, FmOk (blockFm f sc cl (x :: bn) C)) (hx : (relabel sc f.env).names.lookup x = some .local) (hcaps : Caps f sc cl (x :: bn) caps 1) (hkind : sc.kind = .function) (hcell : ∀ z ∈ sc.names, z.2 ≠ .cell)
    (ht : ∀ C, STests g d (blockFm f sc cl (x :: bn) C) ifs t) (hy : ∀ C, SE g d (blockFm f sc cl (x :: bn) C) elt y)
    (hA : Rm d A) (I1 : In g B f nb vs Λ₁ μ h₁) (hn : h₁.get? It = none) (hk : ∀ b o, h₁.get? b = some o → s.heap.get? b = some o) (hit : Iter g μ It items k? At) (hat : At 0 s.heap) (hbig : items.length ≤ big)
    (hgo : compGo (stands k? items) t y (fun v => some v :: capsOf caps vs) items Λ₁ = some (xs, Λ'))
    (hR : ∀ D C s', CompEnd g f h₁ Λ₁ μ s Λ' xs D C s' → RR (.ref D) C (.ok .next) s') :
    wpAny (model g.prog g.w) A (PySem.newList []) (fun acc s₃ => wpAny (model g.prog g.w) A (newFunctionEnv sc f.env.globals cl [] f.env.qual Option.none .none (some f.env)) (fun cenv s₄ =>
      codeAny (model g.prog g.w) A (.compStart (.ListComp elt [⟨.Name x px, iter, ifs, 0⟩] sc pos) 0 (.ref It) acc { cenv with scope := relabel sc f.env }) (RR acc cenv.locals) s₄) E s₃) E s := by
  refine wpAny_newObj_type (wpAny_newFunctionEnv hcell (by intro y hy; simp at hy) (fun h₂ hns hsb => ?_) hkind)
  dsimp only at hns hsb ⊢
  have hItS : It < s.heap.objs.size := by obtain ⟨o, e, _⟩ := hit.obj _ _ hat; exact Heap.lt_size e
  have szD : (s.heap.push { cls := .type "list", dict := Option.none, data := .seq ([] : List Value).toArray }).objs.size = s.heap.objs.size + 1 := Heap.size_push _ _
  generalize hH : s.heap.push { cls := .type "list", dict := Option.none, data := .seq ([] : List Value).toArray } = H at hns hsb szD ⊢
  have keepH : ∀ b o, s.heap.get? b = some o → h₂.get? b = some o := fun b o e => hsb.extBut b o (Nat.ne_of_lt (Nat.lt_of_lt_of_le (Heap.lt_size e) (by lia))) (Heap.get?_push_of_some _ (hH ▸ Heap.get?_push_of_some _ e))
  have hD : IsL h₂ s.heap.objs.size #[] 0 := hsb.extBut _ _ (Nat.ne_of_lt (by lia)) (Heap.get?_push_of_some _ (hH ▸ Heap.get?_push_size _ rfl))
  have new1 : ∀ a, s.heap.objs.size ≤ a → h₁.get? a = Option.none := fun a ha => by
    cases q : h₁.get? a with
    | none => rfl
    | some o => exact absurd (Heap.lt_size (hk _ _ q)) (Nat.not_lt.mpr ha)
  have hC1 : h₁.get? H.objs.size = Option.none := new1 _ (by lia)
  have hD1 : h₁.get? s.heap.objs.size = Option.none := new1 _ (Nat.le_refl _)
  have mu1 : ∀ a, h₁.get? a = Option.none → ∀ k : Nat, μ[k]? ≠ some a := fun a ha k e => by obtain ⟨o, ho⟩ := I1.lt e; rw [ha] at ho; cases ho
  have hbn : (x :: bn).Nodup := (okb 0).nodup
  have J : In g (fun b => h₁.get? b) (blockFm f sc cl (x :: bn) H.objs.size) Λ₁.length (Option.none :: capsOf caps vs) Λ₁ μ h₂ := by
    refine I1.enter (fun b o e => keepH b o (hk b o e)) hC1 ⟨_, hns⟩ (fun x hx => (nomatch hx)) (fun x y c hx => (nomatch hx)) fun i z v e1 e2 => ?_
    cases i with
    | zero => simp [getV] at e2
    | succ j => exact caps_loc hcaps hbn I1 (fun b o e => keepH b o (hk b o e)) (off := 1) e1 (by simpa [getV] using e2)
  have hat2 : At 0 h₂ := hit.loc _ _ _ hat (by obtain ⟨o, e, _⟩ := hit.obj _ _ hat; rw [e]; exact keepH _ _ e)
  have loop : codeAny (model g.prog g.w) A (.compLoop (.ListComp elt [⟨.Name x px, iter, ifs, 0⟩] sc pos) 0 (.ref It) (.ref s.heap.objs.size) (compEnvC sc cl H.objs.size f.env)) (RR (.ref s.heap.objs.size) H.objs.size) { s with heap := h₂, toks := s.toks + ([] : List (Str × Value)).length } := by
    refine comp_loop (caps := caps) (src := fun _ _ => Option.none) (okb _) hx (ht _) (hy _) hA hit (Nat.le_trans hbig big_line) J (List.prefix_refl _) hat2 hD ⟨hn, mu1 _ hn, ?_⟩ ⟨hD1, mu1 _ hD1, ?_⟩ (Nat.ne_of_lt hItS) hgo fun s' μ' u' ys n S p K hl r hm => ?_
    · exact Nat.ne_of_lt (Nat.lt_of_lt_of_le hItS (show s.heap.objs.size ≤ H.objs.size by lia))
    · exact Nat.ne_of_lt (show s.heap.objs.size < H.objs.size by lia)
    · exact hR _ _ s' ⟨_, _, μ', ys, n, rfl, Same.of.trans S, p, K, hl, r, hm, hD1, Nat.ne_of_lt (by lia), hC1⟩
  exact codeAny_compStart_list loop (hit.self 0 _ _ _ _ hat2 loop)

/-- the outer frame behind a comprehension -/
theorem comp_end {h₁ : Heap} {Λ₁ Λ' : Led} {xs : List V} {D C : Addr} {s' : Shared} (I1 : In g B f nb vs Λ₁ μ h₁) (hend : CompEnd g f h₁ Λ₁ μ s Λ' xs D C s') :
    ∃ μ' ys n, Same s s' ∧ μ <+: μ' ∧ In g B f nb vs Λ' μ' s'.heap ∧ IsL s'.heap D ys n ∧ All2 (VIs μ') xs ys.toList ∧ (∀ k : Nat, μ'[k]? ≠ some D) ∧ (∀ k : Nat, μ'[k]? ≠ some C) ∧ h₁.get? D = Option.none ∧ D ≠ C ∧ h₁.get? C = Option.none ∧ ∃ m, s'.heap.Ns C m := by
  obtain ⟨f', vs', μ', ys, n, hC, S, p, K, hl, r, hm, hD, hDC, hC1⟩ := hend
  refine ⟨μ', ys, n, S, p, I1.back K p, hl, r, hm, fun k e => (K.nloc k C e).1 hC.symm, hD, hDC, hC1, ?_⟩
  rw [← hC]; exact K.bloc.2

theorem Inv.offBlock {prog : Program} {w : World} {hG : Heap} {h₁ h' : Heap} {Λ₁ : Led} {μ₁ : List Addr} {vs₁ : Vars} (I1 : Inv prog w hG B f nb vs₁ Λ₁ μ₁ h₁) (J : Inv prog w hG B f nb vs Λ μ h) {C : Addr} (hC1 : h₁.get? C = Option.none) (hμ : ∀ k : Nat, μ[k]? ≠ some C) (hns : ∃ m, h.Ns C m) (hs : Heap.SameBut C h h') :
    Inv prog w hG B f nb vs Λ μ h' := by
  refine J.other hs.extBut hμ ?_ ?_ ?_
  · rintro rfl
    obtain ⟨m, o, _, _, q, _⟩ := I1.bloc.2
    rw [hC1] at q; cases q
  · cases q : B C with
    | none => rfl
    | some o => have := I1.keep _ _ q; rw [hC1] at this; cases this
  · intro o v e q
    obtain ⟨m, o', es, ep, e', q', _⟩ := hns
    rw [e'] at e; cases e; rw [q'] at q; cases q

theorem Inv.adoptList {prog : Program} {w : World} {hG : Heap} {h₁ : Heap} {Λ₁ : Led} {μ₁ : List Addr} {vs₁ : Vars} (I1 : Inv prog w hG B f nb vs₁ Λ₁ μ₁ h₁) (J : Inv prog w hG B f nb vs Λ μ h) {D : Addr} {xs : List V} {ys : Array Value} {n : Nat} (hD1 : h₁.get? D = Option.none) (hμ : ∀ k : Nat, μ[k]? ≠ some D)
    (hl : IsL h D ys n) (r : All2 (VIs μ) xs ys.toList) : Inv prog w hG B f nb vs (Λ ++ [.list xs]) (μ ++ [D]) h := by
  refine J.adopt ?_ hμ ?_ ?_ ⟨ys, n, hl, r.mono (VIs.mono ⟨[D], rfl⟩)⟩
  · cases q : B D with
    | none => rfl
    | some o => have := I1.keep _ _ q; rw [hD1] at this; cases this
  · rintro rfl
    obtain ⟨m, o, _, _, q, _⟩ := I1.bloc.2
    rw [hD1] at q; cases q
  · rintro x c hx hc rfl
    obtain ⟨c', v, e1, ⟨o, q, _⟩, _⟩ := I1.bcel x hx
    rw [e1] at hc; cases hc
    rw [hD1] at q; cases q

/-- the static side of a block -/
structure BlockOk (f : Fm) (sc : Scope) (cl : List (Str × Addr)) (bn : List Str) (caps : List Nat) (off : Nat) : Prop where
  okb : ∀ C, FmOk (blockFm f sc cl bn C)
  caps : Caps f sc cl bn caps off
  kind : sc.kind = .function
  cell : ∀ z ∈ sc.names, z.2 ≠ .cell
  clos : closureFor sc f.env = pure cl
  names : ∀ z ∈ sc.names, z.2 = .local → sc.names.lookup z.1 = some .local

theorem SE.comp {sc : Scope} {cl : List (Str × Addr)} {x : Str} {bn : List Str} {caps : List Nat} {elt iter : Expr} {px pos : Pos} {ifs : List Expr} {src : Src} {t : Te} {y : Ex}
    (bk : BlockOk f sc cl (x :: bn) caps 1) (hx : (relabel sc f.env).names.lookup x = some .local) (hsrc : SSrc g d f iter src) (hsz : ∀ vs Λ r, src vs Λ = some r → r.1.length ≤ big)
    (ht : ∀ C, STests g d (blockFm f sc cl (x :: bn) C) ifs t) (hy : ∀ C, SE g d (blockFm f sc cl (x :: bn) C) elt y) (hs : ∀ x, foldedSetIterable iter f.env x = pure x := by intro _; rfl) :
    SE g d f (.ListComp elt [⟨.Name x px, iter, ifs, 0⟩] sc pos) (xComp caps src t y) := by
  intro A B nb vs Λ μ s v Λ' Q E hA I hx' hQ
  simp only [xComp, Option.bind_eq_bind, Option.bind_eq_some_iff, Prod.exists] at hx'
  obtain ⟨items, k?, Λ1, h1, xs, Λ2, h2, h3⟩ := hx'
  rw [eval_ListComp]
  refine wpAny_comprehension_free (use := Option.none) rfl hs bk.clos bk.kind bk.names ?_
  refine hsrc A B nb vs Λ μ s items k? Λ1 _ _ hA I h1 fun It At s1 μ1 h₁ S1 p1 I1 hn hk hst hit hat => ?_
  refine comp_block (RR := fun acc C => compPost (model g.prog g.w) A E Option.none Q acc C) bk.okb hx bk.caps bk.kind bk.cell ht hy hA I1 hn hk hit hat (hsz _ _ _ h1) h2 fun D C s' hend => ?_
  obtain ⟨μ', ys, n, S, p, J, hl, r, hm, hmC, hD1, hDC, hC1, m, hns⟩ := comp_end I1 hend
  refine ⟨m, hns, fun h' hs' => ?_⟩
  have J' : In g B f nb vs Λ2 μ' h' := Inv.offBlock I1 J hC1 hmC ⟨m, hns⟩ hs'
  have hl' : IsL h' D ys n := hs'.extBut D _ hDC hl
  unfold newList at h3
  split at h3
  · simp only [Mine.alloc, Option.some.injEq, Prod.mk.injEq] at h3
    obtain ⟨rfl, rfl⟩ := h3
    refine hQ _ _ (μ' ++ [D]) ((S1.trans S).trans Same.of) (pre_trans (pre_trans p1 p) (List.prefix_append _ _)) (Inv.adoptList I1 J' hD1 hm hl' r) ⟨D, by rw [← J'.len]; exact pick_last, rfl⟩
  · cases h3

theorem S1.assignComp (ok : FmOk f) {i : Nat} {z : Str} {pz spos : Pos} {sc : Scope} {cl : List (Str × Addr)} {x : Str} {bn : List Str} {caps : List Nat} {elt iter : Expr} {px pos : Pos} {ifs : List Expr} {src : Src} {t : Te} {y : Ex}
    (hi : f.names[i]? = some z) (hst : Stores f z)
    (bk : BlockOk f sc cl (x :: bn) caps 1) (hx : (relabel sc f.env).names.lookup x = some .local) (hsrc : SSrc g d f iter src) (hsz : ∀ vs Λ r, src vs Λ = some r → r.1.length ≤ big)
    (ht : ∀ C, STests g d (blockFm f sc cl (x :: bn) C) ifs t) (hy : ∀ C, SE g d (blockFm f sc cl (x :: bn) C) elt y)
    (hsw : swapsWith (.ListComp elt [⟨.Name x px, iter, ifs, 0⟩] sc pos) (some (.Name z pz)) spos.line f.env = pure true := by rfl) (hs : ∀ x, foldedSetIterable iter f.env x = pure x := by intro _; rfl) :
    S1 g d f (.Assign [.Name z pz] (.ListComp elt [⟨.Name x px, iter, ifs, 0⟩] sc pos) spos) (sAssign i (xComp caps src t y)) := by
  intro A B nb vs Λ μ s fl vs' Λ' Q E hA I hx' hQ
  simp only [sAssign, xComp, Option.bind_eq_bind, Option.bind_eq_some_iff, Prod.exists] at hx'
  obtain ⟨v, Λ3, ⟨items, k?, Λ1, h1, xs, Λ2, h2, h3⟩, h4⟩ := hx'
  cases h4
  rw [exec_Assign_Name_used _ _ _ _ hsw]
  refine wpAny_bind (wpAny_standAt (wpAny_bind ?_))
  show wpAny _ A (do let _ ← comprehension (.ListComp elt [⟨.Name x px, iter, ifs, 0⟩] sc pos) sc f.env _ (PySem.newList []) false (eval iter f.env) (some (PySem.assign (.Name z pz) f.env))) _ _ s
  refine wpAny_bind (wpAny_mono (wpAny_comprehension_free (use := some (PySem.assign (.Name z pz) f.env)) (Q := fun _ s' => Q .next s') rfl hs bk.clos bk.kind bk.names ?_) (fun _ s' hq => wpAny_pure (wpAny_pure hq)) fun _ _ e => e)
  refine hsrc A B nb vs Λ μ s items k? Λ1 _ _ hA I h1 fun It At s1 μ1 h₁ S1 p1 I1 hn hk hst' hit hat => ?_
  refine comp_block (RR := fun acc C => compPost (model g.prog g.w) A E (some (PySem.assign (.Name z pz) f.env)) (fun _ s' => Q .next s') acc C) bk.okb hx bk.caps bk.kind bk.cell ht hy hA I1 hn hk hit hat (hsz _ _ _ h1) h2 fun D C s' hend => ?_
  obtain ⟨μ', ys, n, S, p, J, hl, r, hm, hmC, hD1, hDC, hC1, m, hns⟩ := comp_end I1 hend
  unfold newList at h3
  split at h3
  · simp only [Mine.alloc, Option.some.injEq, Prod.mk.injEq] at h3
    obtain ⟨rfl, rfl⟩ := h3
    have J2 := Inv.adoptList I1 J hD1 hm hl r
    show wpAny _ A (PySem.assign (.Name z pz) f.env (.ref D)) _ _ _
    -- C stands behind a hidden name
    obtain ⟨oC, es, ep, hoC, q1, q2, q3⟩ := hns
    have hCμ : ∀ k : Nat, (μ' ++ [D])[k]? ≠ some C := fun k e => by
      rcases Nat.lt_or_ge k μ'.length with hlt | hge
      · rw [List.getElem?_append_left hlt] at e; exact hmC k e
      · rw [List.getElem?_append_right hge] at e
        have := List.mem_of_getElem? e
        simp at this; exact hDC this.symm
    have hCL : C ≠ f.env.locals := by
      rintro rfl
      obtain ⟨m, o, _, _, q, _⟩ := I1.bloc.2
      rw [hC1] at q; cases q
    have hCB : B C = Option.none := by
      cases q : B C with
      | none => rfl
      | some o => have := I1.keep _ _ q; rw [hC1] at this; cases this
    have hCc : ∀ x c, x ∈ f.own → f.env.cells.lookup x = some c → c ≠ C := by
      rintro x c hx hc rfl
      obtain ⟨c', v, e1, ⟨o, q, _⟩, _⟩ := I1.bcel x hx
      rw [e1] at hc; cases hc
      rw [hC1] at q; cases q
    have H := Inv.hide (h := s'.heap) J2 hoC hCμ hCL hCc hCB
    refine wpAny_assign_Name (store ok hi hst H (v := .ref Λ2.length) ⟨D, by rw [← J.len]; exact pick_last, rfl⟩ fun s5 S5 I5 => ?_)
    obtain ⟨K, qC, _⟩ := I5.unhide hCB I.glob
    refine ⟨m, ⟨oC, es, ep, qC, q1, q2, q3⟩, fun h' hs' => ?_⟩
    refine hQ _ _ (μ' ++ [D]) (((S1.trans S).trans S5).trans Same.of) (pre_trans (pre_trans p1 p) (List.prefix_append _ _)) ?_ trivial
    exact Inv.offBlock I1 K hC1 hCμ ⟨m, ⟨oC, es, ep, qC, q1, q2, q3⟩⟩ hs'
  · cases h3
end
end Mine

/-! ## part A10 -/
set_option maxRecDepth 100000
set_option linter.unusedVariables false
namespace Mine
open PySem PySem.Calls PyProof.Rows PySem.SeqAt

section
variable {prog : Program} {w : World} {A : Around} {E : Value → Shared → Prop} {s : Shared}

theorem keys_miss : typeLookup (.type "list") "keys" = pure none := am_miss_of_fast (by decide +kernel)
theorem getAttrQ_keys {a : Addr} {xs : Array Value} {k : Nat} {Q : Option Value → Shared → Prop}
    (hx : IsL s.heap a xs k) (hA : A.handled = none)
    (h : ∀ h' tk, (∀ b o, s.heap.get? b = some o → h'.get? b = some o) → Q none { s with heap := h', toks := tk }) :
    wpAny (model prog w) A (getAttr? (.ref a) "keys") Q E s := by
  have hmiss := keys_miss
  have hname : (["__module__", "__name__", "__qualname__", "__doc__", "__annotations__"] : List Str).contains "keys" = false := by decide
  have hsz : ("keys" : Str).length + 100 ≤ sizeLine := by decide
  obtain ⟨hp, g, d, tk, os⟩ := s
  have hT : ∀ tk', (⟨hp, g, d, tk', os⟩ : Shared).TypeIs (.ref a) "list" := fun _ => ⟨_, hx, rfl⟩
  have f1 := sub_AttributeError
  have f3 := F.slot_list_getattribute.lookup
  have f4 := F.slot_list_getattribute.bind (.ref a)
  have f5 := am_list_getattr_none
  unfold getAttr? getAttrBy? getAttrBy
  repeat (any_goals (first | assumption | exact hT _ | ((with_reducible show wpAny _ _ (call (Value.builtin "list.__getattribute__") _ _) _ _ _); refine call_meets F.slot_list_getattribute (hT _) am_entry_list_getattribute (F.args_list_getattribute_2 _ _) (meets_getattribute_miss_list a xs k #[] "keys" _ hmiss hname hsz) ⟨hx, hA, fun h' tk' e hx' => ?_⟩) | wp_step))
  obtain ⟨t', u', he⟩ := hx'.there
  show wpAny _ _ (getattributeRaised _ _ _ _ _ _ _) _ _ _
  unfold getattributeRaised
  repeat (any_goals (first | assumption | wp_step))
  exact h _ _ hx'.keeps

theorem plain_loop : plainId "dict.update.loop" = true := by decide +kernel
theorem entry_loop : entryFor table "dict.update.loop" = some Builtin.«dict.update.loop» := entryFor_of_tree (by kernel_rfl)

/-- item j of a list is a pair with an int key -/
def PairAt (h : Heap) (items : Array Value) (ps : List (Int × Value)) : Prop :=
  items.size = ps.length ∧ ∀ (j : Nat) k x, ps[j]? = some (k, x) → ∃ a t n, items[j]? = some (.ref a) ∧ IsT h a #[.int k t, x] n

theorem PairAt.keep {h h' : Heap} {items : Array Value} {ps : List (Int × Value)} {D : Addr} (x : PairAt h items ps) (hk : ∀ b o, b ≠ D → h.get? b = some o → h'.get? b = some o) (hD : ∀ (j : Nat) a, items[j]? = some (.ref a) → a ≠ D) : PairAt h' items ps :=
  ⟨x.1, fun j k v e => let ⟨a, t, n, e1, e2⟩ := x.2 j k v e; ⟨a, t, n, e1, hk a _ (hD j a e1) e2⟩⟩

def putAll (kvs : List (Int × Value)) (ps : List (Int × Value)) : List (Int × Value) := ps.foldl (fun d p => stored d p.1 p.2) kvs

theorem dict_loop {D It l : Addr} {items : Array Value} {n0 : Nat} {R : Result → Shared → Prop} (hh : A.handled = none) (hDl : D ≠ l) (hDI : D ≠ It) (hlI : l ≠ It) : ∀ (r : Nat) (i : Nat) (ps : List (Int × Value)) (kvs : List (Int × Value)) (s : Shared) (ti : Tok),
    ps.length = r → i + r = items.size → (∀ (j : Nat) k x, ps[j]? = some (k, x) → ∃ a t n, items[i + j]? = some (.ref a) ∧ IsT s.heap a #[.int k t, x] n) → (∀ (j : Nat) a, items[j]? = some (.ref a) → a ≠ D ∧ a ≠ It) →
    kvs.length + r ≤ 2000 → s.heap.IsListIter It l i → IsL s.heap l items n0 → s.heap.DictOf (intKind prog w) D kvs →
    (∀ h' tk, h'.DictOf (intKind prog w) D (putAll kvs ps) → (∀ b o, b ≠ D → b ≠ It → s.heap.get? b = some o → h'.get? b = some o) → R (.ok (.ret .none)) { s with heap := h', toks := tk }) →
    codeAny (model prog w) A (.builtin "dict.update.loop" ⟨[.ref D, .ref It, .int i ti, .none], []⟩) R s := by
  intro r
  induction r with
  | zero =>
    intro i ps kvs s ti hps hi hp hne hsz hit hl hd hR
    have hps' : ps = [] := List.length_eq_zero_iff.mp hps
    subst hps'
    refine codeAny_builtin entry_loop ?_
    rw [Around.under_plainId plain_loop _]
    unfold Builtin.«dict.update.loop»
    show wpAny _ _ (pyNext (.ref It) >>= _) _ _ _
    refine wpAny_bind (wpAny_pyNext_list_end (A := A.in1) hh hit hl.isList (by simp; lia) fun h' hext => ?_)
    show wpAny _ _ (Builtin.Dict.addKeywords D [] >>= _) _ _ _
    refine wpAny_bind (wpAny_pure (wpAny_pure (hR h' s.toks ?_ fun b o h1 h2 e => hext b o h2 e)))
    exact hd.extBut hext hDI
  | succ r ih =>
    intro i ps kvs s ti hps hi hp hne hsz hit hl hd hR
    obtain ⟨⟨k, x⟩, ps', rfl⟩ : ∃ p ps', ps = p :: ps' := by
      cases ps with
      | nil => cases hps
      | cons p ps' => exact ⟨p, ps', rfl⟩
    obtain ⟨a, t, n, e1, e2⟩ := hp 0 k x rfl
    have haD := hne _ a e1
    refine codeAny_builtin entry_loop ?_
    rw [Around.under_plainId plain_loop _]
    unfold Builtin.«dict.update.loop»
    show wpAny _ _ (pyNext (.ref It) >>= _) _ _ _
    refine wpAny_bind (wpAny_pyNext_list_item hit hl.isList (x := .ref a) (by simpa using e1) fun h1 hit1 hs1 => ?_)
    have e2' : IsT h1 a #[.int k t, x] n := hs1.extBut a _ haD.2 e2
    show wpAny _ _ (holding [.ref a] _ >>= _) _ _ _
    refine wpAny_bind (wpAny_holding (wpAny_bind (wpAny_tryCatch ?_)))
    unfold Builtin.Dict.pairItems
    refine wpAny_bind (wpAny_typeOf (T := "tuple") ⟨_, e2', rfl⟩ ?_)
    rw [if_pos (by decide)]
    refine wpAny_bind (wpAny_seqItems e2' rfl (wpAny_pure ?_))
    show wpAny _ _ (holding [.int k t, x] (dictSet D (.int k t) x)) _ _ _
    have hd1 : h1.DictOf (intKind prog w) D kvs := hd.extBut hs1.extBut hDI
    refine wpAny_holding (wpAny_dictSet_pairs (hsz := by have : (2000 : Nat) ≤ sizeLine := by decide
                                                         lia) (intKind_is prog w k t) hd1 fun h2 hd2 hs2 => ?_)
    refine wpAny_pure ⟨plainId_quiet plain_loop _, ?_⟩
    have hc : ((i : Int) + 1) = ((i + 1 : Nat) : Int) := by push_cast; rfl
    show codeAny _ _ (.builtin "dict.update.loop" ⟨[.ref D, .ref It, .int ((i : Int) + 1) 0, .none], []⟩) _ _
    rw [hc]
    have up : ∀ b o, b ≠ D → b ≠ It → s.heap.get? b = some o → h2.get? b = some o := fun b o q1 q2 e => hs2.extBut b o q1 (hs1.extBut b o q2 e)
    refine ih (i + 1) ps' (stored kvs k x) _ 0 (by simpa using hps) (by lia) (fun j k' x' e => ?_) hne ?_ (hit1.extBut hs2.extBut (Ne.symm hDI)) (up l _ (Ne.symm hDl) hlI hl) hd2 fun h' tk hdd hkk => ?_
    · obtain ⟨a', t', n', q1, q2⟩ := hp (j + 1) k' x' (by simpa using e)
      exact ⟨a', t', n', by rw [← q1]; congr 1; lia, up a' _ (hne _ a' q1).1 (hne _ a' q1).2 q2⟩
    · have := stored_length_le kvs k x
      lia
    · exact hR h' tk hdd fun b o q1 q2 e => hkk b o q1 q2 (up b o q1 q2 e)

theorem call_dict_pairs {l : Addr} {items : Array Value} {n0 : Nat} {ps : List (Int × Value)} {Q : Value → Shared → Prop} (hh : A.handled = none) (hl : IsL s.heap l items n0) (hp : PairAt s.heap items ps) (hin : ∀ (j : Nat) a, items[j]? = some (.ref a) → a < s.heap.objs.size) (hsz : ps.length ≤ 1000)
    (h : ∀ h' tk, h'.DictOf (intKind prog w) s.heap.objs.size (putAll [] ps) → (∀ b o, s.heap.get? b = some o → h'.get? b = some o) → Q (.ref s.heap.objs.size) { s with heap := h', toks := tk }) :
    wpAny (model prog w) A (call (.type "dict") [.ref l]) Q E s := by
  refine callType_codes (Q₁ := fun obj s₁ => obj = .ref s.heap.objs.size ∧ s₁ = { s with heap := s.heap.push { cls := .type "dict", data := .dict #[] } }) PySem.F.kt_called_dict (PySem.F.kt_typeCall_dict_1 _) PySem.F.entry_dict_init (kt_code_dict_new _ ⟨rfl, rfl⟩) ?_
  rintro obj s₁ ⟨rfl, rfl⟩
  have hnew : (s.heap.push { cls := .type "dict", data := .dict #[] }).DictOf (intKind prog w) s.heap.objs.size [] := Heap.DictOf.new s.heap
  have hl' : IsL (s.heap.push { cls := .type "dict", data := .dict #[] }) l items n0 := Heap.get?_push_of_some _ hl
  have hlt : l < s.heap.objs.size := Heap.lt_size hl
  refine ⟨hnew.typeIs, PySem.F.args_dict_init_2 _ _, ?_⟩
  unfold Builtin.«dict.__init__»
  refine wpAny_bind ?_
  unfold Builtin.Dict.selfAndRest
  refine wpAny_bind (wpAny_notOrdered_dict hnew.typeIs ?_)
  show wpAny _ _ (pure (s.heap.objs.size, [Value.ref l])) _ _ _
  refine wpAny_pure ?_
  show wpAny _ _ (Builtin.Dict.updateFrom "dict.__init__" s.heap.objs.size (.ref l) [] .none) _ _ _
  unfold Builtin.Dict.updateFrom
  refine wpAny_bind (wpAny_typeOf (T := "list") ⟨_, hl', rfl⟩ ?_)
  rw [if_pos (by decide)]
  refine wpAny_bind (getAttrQ_keys hl' (A := A.in1.in1) hh fun h2 tk2 hk2 => ?_)
  simp only [Option.isNone_none, if_true]
  refine wpAny_bind (wpAny_rule (wpAny_bind ?_))
  have hl2 : IsL h2 l items n0 := hk2 _ _ hl'
  refine wpAny_pyIter_list hl2.isList ?_
  refine wpAny_pure ⟨plainId_quiet plain_loop _, ?_⟩
  have hDs : s.heap.objs.size < h2.objs.size := by
    obtain ⟨o, es, ep, e, _⟩ := hnew
    exact Heap.lt_size (hk2 _ _ e)
  refine dict_loop (A := A.in1) (n0 := n0) (items := items) (l := l) hh (Nat.ne_of_gt hlt) (Nat.ne_of_lt hDs) (Nat.ne_of_lt (Nat.lt_trans hlt hDs)) ps.length 0 ps [] _ 0 rfl (by rw [hp.1]; simp) (fun j k x e => ?_) (fun j a e => ?_) (by simp; lia) ⟨_, Heap.get?_push_size _ rfl, rfl, rfl⟩ (Heap.get?_push_of_some _ hl2) ?_ fun h' tk hdd hkk => ?_
  · obtain ⟨a, t, n, q1, q2⟩ := hp.2 j k x e
    exact ⟨a, t, n, by simpa using q1, Heap.get?_push_of_some _ (hk2 _ _ (Heap.get?_push_of_some _ q2))⟩
  · have := hin j a e
    exact ⟨Nat.ne_of_lt this, Nat.ne_of_lt (Nat.lt_trans this hDs)⟩
  · exact (hnew.keep hk2).push _
  · exact ⟨rfl, h h' tk hdd fun b o e => hkk b o (Nat.ne_of_lt (Heap.lt_size e)) (Nat.ne_of_lt (Nat.lt_trans (Heap.lt_size e) hDs)) (Heap.get?_push_of_some _ (hk2 _ _ (Heap.get?_push_of_some _ e)))⟩
end

end Mine

/-! ## part A11 -/
set_option maxRecDepth 100000
set_option linter.unusedVariables false
namespace Mine
open PySem PySem.Calls PyProof.Rows PySem.SeqAt
section
variable {g : Gl} {d : Nat} {f : Fm}
variable {A : Around} {B : Addr → Option Obj} {nb : Nat} {vs : Vars} {Λ : Led} {μ : List Addr} {s : Shared} {h : Heap} {Q : Value → Shared → Prop} {E : Value → Shared → Prop}

abbrev EntIs (μ : List Addr) (e : Int × V) (kv : Int × Value) : Prop := e.1 = kv.1 ∧ VIs μ e.2 kv.2

theorem stored_ne {j k : Int} {u x : Value} {r : List (Int × Value)} (hne : j ≠ k) : stored ((j, u) :: r) k x = (j, u) :: stored r k x := by
  unfold stored
  simp only [List.any_cons, List.map_cons, hne, decide_false, Bool.false_or, if_false]
  split <;> simp
theorem stored_eq {k : Int} {u x : Value} {r : List (Int × Value)} (hn : k ∉ r.map (·.1)) : stored ((k, u) :: r) k x = (k, x) :: r := by
  unfold stored
  simp only [List.any_cons, decide_true, Bool.true_or, if_true, List.map_cons]
  rw [map_store_of_not_mem r k x hn]
theorem put_spec {es : List (Int × V)} {kvs : List (Int × Value)} (r : All2 (EntIs μ) es kvs) (hn : (kvs.map (·.1)).Nodup) {k : Int} {v : V} {x : Value} (hv : VIs μ v x) : All2 (EntIs μ) (putD k v es) (stored kvs k x) := by
  induction r with
  | nil => exact .cons ⟨rfl, hv⟩ .nil
  | @cons e kv es kvs h t ih =>
    obtain ⟨j, u⟩ := e
    obtain ⟨j', y⟩ := kv
    obtain ⟨e1, e2⟩ := h
    simp only at e1 e2
    subst e1
    simp only [List.map_cons, List.nodup_cons] at hn
    simp only [putD]
    split
    · rename_i hjk
      subst hjk
      rw [stored_eq hn.1]
      exact .cons ⟨rfl, hv⟩ t
    · rename_i hne
      rw [stored_ne hne]
      exact .cons ⟨rfl, e2⟩ (ih hn.2)
theorem stored_nodup {kvs : List (Int × Value)} {k : Int} {x : Value} (hn : (kvs.map (·.1)).Nodup) : ((stored kvs k x).map (·.1)).Nodup := by
  induction kvs with
  | nil => simp [stored]
  | cons p r ih =>
    obtain ⟨j, u⟩ := p
    simp only [List.map_cons, List.nodup_cons] at hn
    by_cases hjk : j = k
    · subst hjk; rw [stored_eq hn.1]; simpa using hn
    · rw [stored_ne hjk]
      simp only [List.map_cons, List.nodup_cons]
      refine ⟨?_, ih hn.2⟩
      intro hm
      obtain ⟨q, hq, e⟩ := List.mem_map.mp hm
      unfold stored at hq
      split at hq
      · obtain ⟨q', hq', e'⟩ := List.mem_map.mp hq
        apply hn.1
        refine List.mem_map.mpr ⟨q', hq', ?_⟩
        rw [← e, ← e']
        split <;> rfl
      · rcases List.mem_append.mp hq with hq | hq
        · exact hn.1 (List.mem_map.mpr ⟨q, hq, e⟩)
        · simp at hq; subst hq; exact hjk e.symm
theorem putAll_spec {ps : List (Int × V)} {qs : List (Int × Value)} (r : All2 (EntIs μ) ps qs) : ∀ {es : List (Int × V)} {kvs : List (Int × Value)}, All2 (EntIs μ) es kvs → (kvs.map (·.1)).Nodup → All2 (EntIs μ) (ps.foldl (fun d p => putD p.1 p.2 d) es) (putAll kvs qs) := by
  induction r with
  | nil => intro es kvs h _; exact h
  | @cons p q ps qs h t ih =>
    intro es kvs h' hn
    obtain ⟨e1, e2⟩ := h
    rw [List.foldl_cons]
    show All2 _ _ (putAll (stored kvs q.1 q.2) qs)
    rw [e1]
    exact ih (put_spec h' hn e2) (stored_nodup hn)

theorem pairs_spec (I : In g B f nb vs Λ μ h) : ∀ {xs : List V} {ps : List (Int × V)} {us : List Value}, asPairs Λ xs = some ps → All2 (VIs μ) xs us → ∃ qs, All2 (EntIs μ) ps qs ∧ us.length = qs.length ∧
    ∀ (j : Nat) k x, qs[j]? = some (k, x) → ∃ a t n, us[j]? = some (.ref a) ∧ IsT h a #[.int k t, x] n
  | _, ps, _, hx, .nil => by simp [asPairs] at hx; subst hx; exact ⟨[], .nil, rfl, fun j k x e => by simp at e⟩
  | y :: _, ps, _ :: _, hx, .cons r t => by
    simp only [asPairs, Option.bind_eq_bind, Option.bind_eq_some_iff] at hx
    obtain ⟨⟨k, v⟩, h1, ps', h2, h3⟩ := hx
    cases h3
    obtain ⟨qs, q1, q2, q3⟩ := pairs_spec I h2 t
    unfold asPair at h1
    split at h1
    · rename_i k' v' hv
      cases h1
      obtain ⟨kk, rfl, hl⟩ := asTup_eq hv
      obtain ⟨a, ha, rfl⟩ := r
      obtain ⟨i1, n1, e1, a1⟩ := I.tup ha hl
      obtain ⟨l⟩ := i1
      cases a1 with
      | cons ra t1 =>
        cases t1 with
        | cons rb t2 =>
          cases t2
          obtain ⟨tk, rfl⟩ := ra
          rename_i vb
          refine ⟨(k, vb) :: qs, .cons ⟨rfl, rb⟩ q1, by simp [q2], fun j k' x e => ?_⟩
          cases j with
          | zero => simp at e; obtain ⟨rfl, rfl⟩ := e; exact ⟨a, tk, n1, rfl, e1⟩
          | succ j => simpa using q3 j k' x (by simpa using e)
    · cases h1

theorem size_ne_sys (gk : GlOk g) (I : In g B f nb vs Λ μ h) {a : Addr} (ha : h.objs.size ≤ a) : (a == sysModules) = false := by
  obtain ⟨o, es, ep, e, _⟩ := gk.glb
  have := Heap.lt_size (I.keep _ _ (I.glob _ _ e))
  have h2 : sysModules < mainGlobals := by decide
  have : sysModules < a := Nat.lt_trans h2 (Nat.lt_of_lt_of_le this ha)
  simpa using (Nat.ne_of_gt this)

theorem SE.dictOf (ok : FmOk f) (gk : GlOk g) {e : Expr} {x : Ex} {np pos : Pos} (hn : Named g f "dict" (.type "dict")) (he : SE g d f e x)
    (hst : starEach [e] f.env = [(false, eval e f.env)] := by rfl) : SE g d f (.Call (.Name "dict" np) [e] [] pos) (xDictOf x) := by
  intro A B nb vs Λ μ s v Λ' Q E hA I hx hQ
  simp only [xDictOf, Option.bind_eq_bind, Option.bind_eq_some_iff, Prod.exists] at hx
  obtain ⟨u, Λ1, h1, xs, h2, ps, h3, h4⟩ := hx
  split at h4
  · rename_i hlen
    simp only [Mine.alloc, Option.some.injEq, Prod.mk.injEq] at h4
    obtain ⟨rfl, rfl⟩ := h4
    refine Call_ (name_glob ok gk hn I (Pv.callWith_type1 ?_ (by rw [hst]; rfl) rfl))
    refine args_cons (he A B nb vs Λ μ s _ _ _ _ hA I h1 fun va s1 μ1 S1 p1 I1 r1 => args_nil ?_) (by rw [hst]; rfl)
    obtain ⟨k, rfl, h5⟩ := asList_eq' h2
    obtain ⟨a, ha, rfl⟩ := r1
    obtain ⟨i1, n1, q1, a1⟩ := I1.list ha h5
    obtain ⟨qs, r1, r2, r3⟩ := pairs_spec I1 h3 a1
    have hl : ps.length = qs.length := r1.length
    refine call_dict_pairs (ps := qs) hA.1 q1 ⟨by simpa using r2, fun j k x e => by
        obtain ⟨b, t, n, e1, e2⟩ := r3 j k x e
        exact ⟨b, t, n, by simpa using e1, e2⟩⟩ (fun j b e => ?_) (by lia) fun h' tk hd hk => ?_
    · have e' : i1.toList[j]? = some (.ref b) := by simpa using e
      obtain ⟨w, hw, rw_⟩ := a1.getR e'
      cases w with
      | ref k' => obtain ⟨b', hb', e2⟩ := rw_; cases e2; obtain ⟨o, ho⟩ := I1.lt hb'; exact Heap.lt_size ho
      | int i => obtain ⟨t, e2⟩ := rw_; cases e2
      | bool c => cases rw_
      | none => cases rw_
    · refine hQ _ _ (μ1 ++ [s1.heap.objs.size]) (S1.trans Same.of) (pre_trans p1 (List.prefix_append _ _)) ?_ ⟨_, by rw [← I1.len]; exact pick_last, rfl⟩
      refine I1.alloc hk (get_size _) ⟨size_ne_sys gk I1 (Nat.le_refl _), _, hd, ?_⟩
      exact putAll_spec (r1.mono fun _ _ x => ⟨x.1, VIs.mono (List.prefix_append _ _) _ _ x.2⟩) .nil (by simp)
  · cases h4

theorem SE.get (ok : FmOk f) {e k dd : Expr} {x y z : Ex} {apos pos : Pos} (he : SE g d f e x) (hk : SE g d f k y) (hd : SE g d f dd z) (hline : (apos.endLine == pos.line) = true)
    (hbase : attributeBase e "get" f.env (eval e f.env) = eval e f.env := by rfl) (htrees : backTo pos (starEach [k, dd] f.env) = [(false, eval k f.env), (false, eval dd f.env)] := by rfl) :
    SE g d f (.Call (.Attribute e "get" apos) [k, dd] [] pos) (xGet x y z) := by
  intro A B nb vs Λ μ s v Λ' Q E hA I hx hQ
  simp only [xGet, Option.bind_eq_bind, Option.bind_eq_some_iff, Prod.exists] at hx
  obtain ⟨u, Λ1, h1, es1, hes1, j, Λ2, h2, w, Λ3, h3, es, h4, i, h5, h6⟩ := hx
  cases h6
  refine wpAny_Call_method2_late hbase hline htrees ?_
  refine he A B nb vs Λ μ s _ _ _ _ hA I h1 fun va s1 μ1 S1 p1 I1 r1 => ?_
  obtain ⟨kk, rfl, hl1⟩ := asDict_eq hes1
  obtain ⟨a, ha, rfl⟩ := r1
  obtain ⟨hsm, kvs1, hd1, _⟩ := I1.dict ha hl1
  refine ⟨"dict", "dict.get", PySem.F.plainAttrs_dict, PySem.F.slot_dict_get, PySem.F.type_dict_get, hd1.typeIs, fun b e => hd1.mapOf.noDict b e, ?_⟩
  refine wpAny_dict_get2 (knd := intKind g.prog g.w) hsm (hk A B nb vs Λ1 μ1 s1 _ _ _ _ hA I1 h2 fun vk s2 μ2 S2 p2 I2 r2 => ?_)
  refine hd A B nb vs Λ2 μ2 s2 _ _ _ _ hA I2 h3 fun vd s3 μ3 S3 p3 I3 r3 => ?_
  obtain ⟨k3, e3, hl3⟩ := asDict_eq h4
  cases e3
  have ha3 : μ3[kk]? = some a := by rw [pre_get (pre_trans p2 p3) (List.getElem?_eq_some_iff.mp ha).1]; exact ha
  obtain ⟨_, kvs, hd3, rr⟩ := I3.dict ha3 hl3
  cases asInt_eq h5
  obtain ⟨t, rfl⟩ := r2
  refine ⟨i, _, intKind_is _ _ i t, hd3.mapOf, hQ _ _ μ3 (((S1.trans S2).trans S3).trans Same.of) (pre_trans p1 (pre_trans p2 p3)) I3 ?_⟩
  have hlk := lookup_dict rr i
  cases q : es.lookup i with
  | none => rw [hlk.2.1 q]; exact r3
  | some v' => obtain ⟨x', e1, e2⟩ := hlk.1 v' q; rw [e1]; exact e2

/-! sorted(d) -/
theorem inOrder_pw : ∀ {l : List Int}, inOrder l = true → l.Pairwise (· < ·)
  | [], _ => .nil
  | [a], _ => List.pairwise_singleton _ _
  | a :: b :: r, h => by
    simp only [inOrder, Bool.and_eq_true, decide_eq_true_eq] at h
    have ih := inOrder_pw h.2
    refine List.pairwise_cons.mpr ⟨fun c hc => ?_, ih⟩
    rcases List.mem_cons.mp hc with rfl | hc
    · exact h.1
    · exact Int.lt_trans h.1 ((List.pairwise_cons.mp ih).1 c hc)

theorem ints_of {us : List Value} {ns : List Int} (h : IntsAre us ns) : All2 (VIs μ) (ns.map V.int) us := by
  induction h with
  | nil => exact .nil
  | cons _ _ _ ih => exact .cons ⟨_, rfl⟩ ih

theorem SE.sorted (ok : FmOk f) (gk : GlOk g) {e : Expr} {x : Ex} {np pos : Pos} (hn : Named g f "sorted" (.builtin "sorted")) (he : SE g d f e x)
    (hst : starEach [e] f.env = [(false, eval e f.env)] := by rfl) : SE g d f (.Call (.Name "sorted" np) [e] [] pos) (xSorted x) := by
  intro A B nb vs Λ μ s v Λ' Q E hA I hx hQ
  simp only [xSorted, Option.bind_eq_bind, Option.bind_eq_some_iff, Prod.exists] at hx
  obtain ⟨u, Λ1, h1, es, h2, h3⟩ := hx
  split at h3
  · rename_i hc
    refine Call_ (name_glob ok gk hn I (callWith_builtin1 ?_ (by rw [hst]; rfl) rfl))
    refine args_cons (he A B nb vs Λ μ s _ _ _ _ hA I h1 fun va s1 μ1 S1 p1 I1 r1 => args_nil ?_) (by rw [hst]; rfl)
    obtain ⟨kk, rfl, hl1⟩ := asDict_eq h2
    obtain ⟨a, ha, rfl⟩ := r1
    obtain ⟨hsm, kvs, hd1, rr⟩ := I1.dict ha hl1
    obtain ⟨ep, hat⟩ := hd1.dictAt
    have hlen : es.length = kvs.length := rr.length
    have hkeys : es.map (·.1) = kvs.map (·.1) := by
      clear hat hd1 hl1 h2 h3 hc hlen
      induction rr with
      | nil => rfl
      | cons h _ ih => simp only [List.map_cons, h.1, ih]
    refine call_function_entry kind_sorted plain_sorted entry_sorted (args_sorted1 _) ?_
    unfold Builtin.«sorted»
    refine wpAny_bind (m := checkCount "sorted" 1 1 _) (wpAny_pure ?_)
    have h60 : (60 : Nat) ≤ sizeLine := by decide
    refine wpAny_bind (PySem.W.kdu_collect (A := A.in1) (PySem.W.kdl_dict (knd := intKind g.prog g.w) (kvs := kvs) (ep := ep) hsm) hA.1 hat (by lia) fun h' tk acc hk hacc => ?_)
    have hl : acc.toList.length = kvs.length := by rw [Array.length_toList]; exact hacc.1
    refine wpAny_bind (wpAny_newList ?_ (by rw [hl]; lia))
    have hints : IntsAre acc.toList (kvs.map (·.1)) := by
      have key : ∀ (l : List Value) (qs : List (Int × Value)), l.length = qs.length → (∀ (j : Nat) v, l[j]? = some v → ∃ k x, qs[j]? = some (k, x) ∧ (intKind g.prog g.w).is k v = true) → IntsAre l (qs.map (·.1)) := by
        intro l
        induction l with
        | nil => intro qs hq _; cases qs with
          | nil => exact .nil
          | cons _ _ => cases hq
        | cons a l ih =>
          intro qs hq hh
          cases qs with
          | nil => cases hq
          | cons q qs =>
            obtain ⟨k, x, e1, e2⟩ := hh 0 a rfl
            simp at e1
            obtain ⟨t, rfl⟩ := Value.isInt_shape e2
            subst e1
            exact .cons _ _ (ih qs (by simpa using hq) fun j v e => by simpa using hh (j + 1) v (by simpa using e))
      exact key _ _ hl fun j v e => hacc.2 j v (by rw [← Array.getElem?_toList]; exact e)
    have hoL : (h'.push { cls := .type "list", data := .seq acc.toList.toArray }).get? h'.objs.size = some (seqObj "list" acc.toList.toArray 0) := Heap.get?_push_size _ rfl
    refine wpAny_bind (wpAny_holding (wpAny_call_entry slot_list_sort ⟨_, hoL, rfl⟩ entry_list_sort (list_sort_tree hoL hints (by rw [hl]; lia) fun out ns' a1 a2 a3 => ⟨_, rfl, ?_⟩) (args_list_sort _)))
    refine wpAny_pure ⟨_, rfl, ?_⟩
    obtain ⟨e, he'⟩ := sortedHeap_at (vs := acc.toList) (out := out) hoL
    have hpw := inOrder_pw hc.1
    rw [hkeys] at hpw
    have hsame : ns' = kvs.map (·.1) := PySem.W.ksm_same a2 a3 (hpw.imp fun h => Int.le_of_lt h)
    refine postListAt I1 h3 (items := out) ?_ (hQ.after S1 p1) _ Same.of (fun b o eb => ?_) ?_ he'
    · have hm : es.map (fun e => V.int e.1) = (kvs.map (·.1)).map V.int := by rw [← hkeys, List.map_map]; rfl
      rw [hm, ← hsame]
      exact ints_of a1
    · have hb := Heap.lt_size (hk _ _ eb)
      rw [sortedHeap_old (Nat.ne_of_lt hb) (by rw [Heap.size_push]; exact Nat.lt_succ_of_lt hb)]
      exact Heap.get?_push_of_some _ (hk _ _ eb)
    · cases q : s1.heap.get? h'.objs.size with
      | none => rfl
      | some o => exact absurd (Heap.lt_size (hk _ _ q)) (Nat.lt_irrefl _)
  · cases h3

/-! list(d.items()) -/
theorem SE.items (ok : FmOk f) (gk : GlOk g) {e : Expr} {x : Ex} {np apos cpos pos : Pos} (hn : Named g f "list" (.type "list")) (he : SE g d f e x) (hline : (apos.endLine == cpos.line) = true)
    (hbase : attributeBase e "items" f.env (eval e f.env) = eval e f.env := by rfl)
    (hst : starEach [.Call (.Attribute e "items" apos) [] [] cpos] f.env = [(false, eval (.Call (.Attribute e "items" apos) [] [] cpos) f.env)] := by rfl) :
    SE g d f (.Call (.Name "list" np) [.Call (.Attribute e "items" apos) [] [] cpos] [] pos) (xItems x) := by
  intro A B nb vs Λ μ s v Λ' Q E hA I hx hQ
  simp only [xItems, Option.bind_eq_bind, Option.bind_eq_some_iff, Prod.exists] at hx
  obtain ⟨u, Λ1, h1, es, h2, h3⟩ := hx
  refine Call_ (name_glob ok gk hn I (Pv.callWith_type1 ?_ (by rw [hst]; rfl) rfl))
  refine args_cons ?_ (by rw [hst]; rfl)
  refine wpAny_Call_method0_late hbase hline ?_
  refine he A B nb vs Λ μ s _ _ _ _ hA I h1 fun va s1 μ1 S1 p1 I1 r1 => ?_
  obtain ⟨kk, rfl, hl1⟩ := asDict_eq h2
  obtain ⟨a, ha, rfl⟩ := r1
  obtain ⟨hsm, kvs, hd1, rr⟩ := I1.dict ha hl1
  obtain ⟨ep, hat⟩ := hd1.dictAt
  refine ⟨"dict", "dict.items", PySem.F.plainAttrs_dict, PySem.F.slot_dict_items, PySem.F.type_dict_items, hd1.typeIs, fun b e => hd1.mapOf.noDict b e, ?_⟩
  refine method_meetsIn PySem.F.slot_dict_items PySem.F.entry_dict_items rfl (PySem.evalArgs_none ⟨rfl, hd1.typeIs, PySem.F.args_dict_items_1 _, _, meets_dict_items (intKind g.prog g.w) a hsm, ⟨kvs, hd1⟩, ?_⟩)
  refine args_nil ?_
  have hb := newList_big h3
  have hlen : es.length = kvs.length := rr.length
  have := big_line
  refine PySem.W.kdx_call (knd := intKind g.prog g.w) (d := a) (kvs := kvs) (ep := ep) hA.1 ⟨_, Heap.get?_push_size _ rfl, rfl, rfl⟩ (hat.push _) (by simp at hb; lia) fun h' tk acc c as hk hD hl hG hacc => ?_
  unfold newList at h3
  rw [if_pos hb] at h3
  · simp only [Mine.alloc, Option.some.injEq, Prod.mk.injEq] at h3
    obtain ⟨rfl, rfl⟩ := h3
    have hk1 : ∀ b o, s1.heap.get? b = some o → h'.get? b = some o := fun b o e => hk b o (Heap.get?_push_of_some _ e)
    have szv : (s1.heap.push { cls := .type "dict_items", data := .fields #[.ref a] }).objs.size = s1.heap.objs.size + 1 := Heap.size_push _ _
    have habove : ∀ b ∈ as, s1.heap.objs.size + 1 < b := fun b hb' => by have := hG.above b hb'; rwa [szv] at this
    have hnd : (as ++ [s1.heap.objs.size + 1]).Nodup := by
      refine List.nodup_append.mpr ⟨hG.rise.imp fun h => Nat.ne_of_lt h, by simp, ?_⟩
      intro b hb' c hc'
      simp at hc'
      subst hc'
      exact Nat.ne_of_gt (habove b hb')
    refine hQ _ _ (μ1 ++ (as ++ [s1.heap.objs.size + 1])) (S1.trans Same.of) (pre_trans p1 (List.prefix_append _ _)) ?_ ?_
    · rw [List.append_assoc]
      refine I1.allocs hk1 (by simp [itemTups, hl, hlen]) (fun b hb' => ?_) hnd fun k b o e1 e2 => ?_
      · apply get_above
        rcases List.mem_append.mp hb' with hb' | hb'
        · exact Nat.le_of_lt (Nat.lt_trans (Nat.lt_succ_self _) (habove b hb'))
        · simp at hb'; rw [hb']; exact Nat.le_succ _
      · rcases Nat.lt_or_ge k as.length with hlt | hge
        · rw [List.getElem?_append_left hlt] at e1
          rw [List.getElem?_append_left (by simp [itemTups]; lia)] at e2
          obtain ⟨key, kx, xx, q1, q2, q3⟩ := hG.pairs k b e1
          simp only [itemTups, List.getElem?_map, Option.map_eq_some_iff] at e2
          obtain ⟨en, e3, rfl⟩ := e2
          obtain ⟨kv, e4, e5⟩ := rr.get e3
          rw [q1] at e4; cases e4
          obtain ⟨t, rfl⟩ := Value.isInt_shape q2
          exact ⟨#[.int kx t, xx], 0, q3, .cons ⟨t, by rw [e5.1]⟩ (.cons (VIs.mono (List.prefix_append _ _) _ _ e5.2) .nil)⟩
        · have hkk : k = as.length := by
            have := (List.getElem?_eq_some_iff.mp e1).1
            simp at this; lia
          subst hkk
          rw [List.getElem?_append_right (Nat.le_refl _)] at e1
          simp at e1
          subst e1
          rw [List.getElem?_append_right (by simp [itemTups]; lia)] at e2
          have e2' : o = .list ((List.range es.length).map fun i => .ref (Λ1.length + i)) := by
            have : as.length - (itemTups es).length = 0 := by simp [itemTups]; lia
            rw [this] at e2; simpa using e2.symm
          subst e2'
          rw [szv] at hD
          refine ⟨acc, c, hD, ?_⟩
          rw [hacc]
          have key : ∀ (n : Nat), n ≤ as.length → All2 (VIs (μ1 ++ (as ++ [s1.heap.objs.size + 1]))) ((List.range n).map fun i => V.ref (Λ1.length + i)) ((as.take n).map Value.ref) := by
            intro n
            induction n with
            | zero => intro _; simpa using All2.nil
            | succ n ih =>
              intro hn'
              rw [List.range_succ, List.map_append, List.take_succ_eq_append_getElem (by lia), List.map_append]
              refine (ih (by lia)).append (.cons ⟨as[n], ?_, rfl⟩ .nil)
              rw [← I1.len, List.getElem?_append_right (by lia), List.getElem?_append_left (by lia)]
              simp
          have := key as.length (Nat.le_refl _)
          rw [List.take_length] at this
          rw [← hlen] at hl
          rw [← hl]; exact this
    · refine ⟨s1.heap.objs.size + 1, ?_, by rw [szv]⟩
      rw [List.getElem?_append_right (by rw [I1.len]; simp), List.getElem?_append_right (by simp [itemTups, I1.len]; lia)]
      have : (Λ1 ++ itemTups es).length - μ1.length - as.length = 0 := by simp [itemTups, I1.len]; lia
      rw [this]; rfl
end
end Mine

/-! ## part A12 -/
set_option maxRecDepth 4000
set_option linter.unusedVariables false
namespace Mine
open PySem PySem.Calls PyProof.Rows PySem.SeqAt

section
variable {prog : Program} {w : World} {A : Around} {R : Result → Shared → Prop} {s : Shared}

abbrev lc2 (elt t1 i1 t2 i2 : Expr) (sc : Scope) (pos : Pos) : Expr := .ListComp elt [⟨t1, i1, [], 0⟩, ⟨t2, i2, [], 0⟩] sc pos

theorem turn2_inner (elt t1 i1 t2 i2 : Expr) (sc : Scope) (pos : Pos) (it acc : Value) (env : Env) :
    compTurn (lc2 elt t1 i1 t2 i2 sc pos) 1 it acc env = (standAt i2.pos >>= fun _ => pyNext it >>= fun r => match r with
      | none => pure (.done .next)
      | some v => letOwnedTupleGo t2 it v >>= fun _ => assign t2 env v >>= fun _ =>
        (eval elt env >>= fun x => call (.builtin "list.append") [acc, x] >>= fun _ => pure ()) >>= fun _ =>
          again (.compLoop (lc2 elt t1 i1 t2 i2 sc pos) 1 it acc env)) := by rfl
theorem turn2_outer (elt t1 i1 t2 i2 : Expr) (sc : Scope) (pos : Pos) (it acc : Value) (env : Env) :
    compTurn (lc2 elt t1 i1 t2 i2 sc pos) 0 it acc env = (standAt i1.pos >>= fun _ => pyNext it >>= fun r => match r with
      | none => pure (.done .next)
      | some v => letOwnedTupleGo t1 it v >>= fun _ => assign t1 env v >>= fun _ =>
        (eval i2 env >>= fun x => standAt i2.pos >>= fun _ => foldedSetIterable i2 env x >>= fun x => holding [x] (pyIter x) >>= fun it2 => runOwn (.compStart (lc2 elt t1 i1 t2 i2 sc pos) 1 it2 acc env) env >>= fun _ =>
          again (.compLoop (lc2 elt t1 i1 t2 i2 sc pos) 0 it acc env))) := by rfl

theorem code2_inner {elt t1 i1 i2 : Expr} {x : Str} {px : Pos} {sc : Scope} {pos : Pos} {it acc : Value} {env : Env} (I : Nat → Shared → Prop)
    (turn : ∀ n s, I n s → wpAny (model prog w) A (pyNext it) (fun r s₁ => match r with
      | none => R (.ok .next) s₁
      | some v => wpAny (model prog w) A (assign (.Name x px) env v) (fun _ s₂ => wpAny (model prog w) A (eval elt env) (fun x s₃ =>
          wpAny (model prog w) A (call (.builtin "list.append") [acc, x]) (fun _ s₄ => ∃ m, m < n ∧ I m s₄) (notedBy (model prog w) A env fun e s' => R (.error e) s') s₃)
          (notedBy (model prog w) A env fun e s' => R (.error e) s') s₂) (notedBy (model prog w) A env fun e s' => R (.error e) s') s₁) (notedBy (model prog w) A env fun e s' => R (.error e) s') s)
    (n : Nat) (h : I n s) : codeAny (model prog w) A (.compLoop (lc2 elt t1 i1 (.Name x px) i2 sc pos) 1 it acc env) R s := by
  refine codeAny_loop rfl I (fun n s hI => ?_) n h
  show wpAny _ _ ((compTurn (lc2 elt t1 i1 (.Name x px) i2 sc pos) 1 it acc env).onRaise (fun x => do noteFrame x env; theTreesLotGoes x)) _ _ s
  refine wpAny_noted ?_
  rw [turn2_inner]
  refine wpAny_bind (wpAny_standAt (wpAny_bind (wpAny_mono (turn n s hI) (fun r s₁ h₁ => ?_) fun _ _ h' => h')))
  cases r with
  | none => exact wpAny_pure h₁
  | some v =>
    refine wpAny_bind (wpAny_pure ?_)
    exact wpAny_bind (wpAny_mono h₁ (fun _ s₂ h₂ => wpAny_bind (wpAny_bind (wpAny_mono h₂ (fun x s₃ h₃ => wpAny_bind (wpAny_mono h₃
      (fun _ s₄ h₄ => wpAny_pure (wpAny_pure ⟨rfl, h₄⟩)) fun _ _ h' => h')) fun _ _ h' => h'))) fun _ _ h' => h')

theorem code2_start {elt t1 i1 t2 i2 : Expr} {sc : Scope} {pos : Pos} {it acc : Value} {env : Env}
    (h0 : codeAny (model prog w) A (.compLoop (lc2 elt t1 i1 t2 i2 sc pos) 1 it acc env) R s)
    (h : wpAny (model prog w) A (pyIter it) (fun it' s' => codeAny (model prog w) A (.compLoop (lc2 elt t1 i1 t2 i2 sc pos) 1 it' acc env) R s')
      (notedBy (model prog w) A env fun x s' => R (.error x) s') s) : codeAny (model prog w) A (.compStart (lc2 elt t1 i1 t2 i2 sc pos) 1 it acc env) R s := by
  refine codeAny_of_tree ?_
  show wpAny _ _ ((compStart (lc2 elt t1 i1 t2 i2 sc pos) 1 it acc env).onRaise (fun x => do noteFrame x env; standAt theWindowsPlace)) _ _ s
  refine wpAny_notedAt ?_
  unfold compStart
  show wpAny _ _ (ask >>= _) _ _ s
  refine wpAny_bind (wpAny_askSetting (wpAny_ite ?_))
  split
  · first
      | exact wpAny_bind (wpAny_pure (wpAny_pure (And.intro rfl h0)))
      | exact wpAny_pure (And.intro rfl h0)
  · first
      | exact wpAny_bind (wpAny_rule (wpAny_bind (wpAny_standAt (wpAny_bind (wpAny_mono h (fun it' s' h' => wpAny_pure (And.intro rfl h')) fun _ _ x => x)))))
      | (refine wpAny_bind (wpAny_rule ?_); show wpAny _ _ (standAt i2.pos >>= _) _ _ s; exact wpAny_bind (wpAny_standAt (wpAny_bind (wpAny_mono h (fun it' s' h' => wpAny_pure (And.intro rfl h')) fun _ _ x => x))))

theorem code2_outer {elt i1 t2 i2 : Expr} {x : Str} {px : Pos} {sc : Scope} {pos : Pos} {it acc : Value} {env : Env} (I : Nat → Shared → Prop)
    (hs : ∀ x, foldedSetIterable i2 env x = pure x)
    (turn : ∀ n s, I n s → wpAny (model prog w) A (pyNext it) (fun r s₁ => match r with
      | none => R (.ok .next) s₁
      | some v => wpAny (model prog w) A (assign (.Name x px) env v) (fun _ s₂ => wpAny (model prog w) A (eval i2 env) (fun xv s₃ => wpAny (model prog w) A (pyIter xv) (fun it2 s₄ =>
          codeAny (model prog w) A (.compStart (lc2 elt (.Name x px) i1 t2 i2 sc pos) 1 it2 acc env) (fun r s' => match r with | .ok _ => ∃ m, m < n ∧ I m s' | .error e => cameBackBy (model prog w) A env (notedBy (model prog w) A env fun e s' => R (.error e) s') e s') s₄)
          (notedBy (model prog w) A env fun e s' => R (.error e) s') s₃)
          (notedBy (model prog w) A env fun e s' => R (.error e) s') s₂) (notedBy (model prog w) A env fun e s' => R (.error e) s') s₁) (notedBy (model prog w) A env fun e s' => R (.error e) s') s)
    (n : Nat) (h : I n s) : codeAny (model prog w) A (.compLoop (lc2 elt (.Name x px) i1 t2 i2 sc pos) 0 it acc env) R s := by
  refine codeAny_loop rfl I (fun n s hI => ?_) n h
  show wpAny _ _ ((compTurn (lc2 elt (.Name x px) i1 t2 i2 sc pos) 0 it acc env).onRaise (fun x => do noteFrame x env; theTreesLotGoes x)) _ _ s
  refine wpAny_noted ?_
  rw [turn2_outer]
  refine wpAny_bind (wpAny_standAt (wpAny_bind (wpAny_mono (turn n s hI) (fun r s₁ h₁ => ?_) fun _ _ h' => h')))
  cases r with
  | none => exact wpAny_pure h₁
  | some v =>
    refine wpAny_bind (wpAny_pure ?_)
    refine wpAny_bind (wpAny_mono h₁ (fun _ s₂ h₂ => wpAny_bind (wpAny_mono h₂ (fun xv s₃ h₃ => wpAny_bind (wpAny_standAt (wpAny_bind (wpAny_of_eq (hs xv) (wpAny_bind (wpAny_holding (wpAny_mono h₃ (fun it2 s₄ h₄ => ?_) fun _ _ h' => h'))))))) fun _ _ h' => h')) fun _ _ h' => h')
    refine wpAny_bind (wpAny_runOwn (codeAny_mono h₄ fun r s' hr => ?_))
    cases r with
    | ok fl => exact wpAny_pure ⟨rfl, hr⟩
    | error e => exact hr
end

section
variable {g : Gl} {d : Nat} {f : Fm}
variable {A : Around} {B : Addr → Option Obj} {nb : Nat} {vs : Vars} {Λ : Led} {μ : List Addr} {s : Shared} {h : Heap} {Q : Value → Shared → Prop} {E : Value → Shared → Prop}

/-- the inner loop, in the block's frame fb -/
theorem inner_loop {fb : Fm} {x : Str} {elt t1 i1 i2 : Expr} {px pos : Pos} {sc : Scope} {y : Ex} {It D : Addr} {At : Nat → Heap → Prop} {μ₀ : List Addr} {items : List V} {k? : Option Nat} {Λ₁ Λ' : Led} {xs pre : List V} {R : Result → Shared → Prop}
    (okb : FmOk fb) (hxn : fb.names[1]? = some x) (hx : fb.env.kindOf x = some .local) (hown : fb.own = []) (hy : SE g d fb elt y) (hA : Rm d A) (hit : Iter g μ₀ It items k? At)
    {v u : Option V} {cs : Vars} (J : In g B fb nb (v :: u :: cs) Λ₁ μ s.heap) (hp : μ₀ <+: μ) (hat : At 0 s.heap) {n0 : Nat} {ys0 : Array Value} (hD : IsL s.heap D ys0 n0) (hpre : All2 (VIs μ) pre ys0.toList) (hbig : pre.length + items.length ≤ sizeLine)
    (hIμ : ∀ k : Nat, μ[k]? ≠ some It) (hIL : It ≠ fb.env.locals) (hIB : B It = none) (hDμ : ∀ k : Nat, μ[k]? ≠ some D) (hDL : D ≠ fb.env.locals) (hDB : B D = none) (hID : It ≠ D)
    (hgo : compGo (stands k? items) tTrue y (fun z => v :: some z :: cs) items Λ₁ = some (xs, Λ'))
    (hR : ∀ s' μ' u' ys n, Same s s' → μ <+: μ' → In g B fb nb (v :: u' :: cs) Λ' μ' s'.heap → IsL s'.heap D ys n → All2 (VIs μ') (pre ++ xs) ys.toList → (∀ k : Nat, μ'[k]? ≠ some D) → R (.ok .next) s') :
    codeAny (model g.prog g.w) A (.compLoop (lc2 elt t1 i1 (.Name x px) i2 sc pos) 1 (.ref It) (.ref D) fb.env) R s := by
  have hmu : ∀ (a : Addr) μ2, (∀ k : Nat, μ[k]? ≠ some a) → μ <+: μ2 → (∀ k : Nat, nb ≤ k → μ2[k]? ≠ some a) → ∀ k : Nat, μ2[k]? ≠ some a := by
    intro a μ2 h0 hp hh k
    rcases Nat.lt_or_ge k nb with hlt | hge
    · rw [pre_get hp (Nat.lt_of_lt_of_le hlt J.nbl)]; exact h0 k
    · exact hh k hge
  refine code2_inner (LoopInv g B fb nb (fun u _ => v :: u :: cs) μ s At items.length It D pre xs (fun i Λ2 => compGo (stands k? items) tTrue y (fun z => v :: some z :: cs) (items.drop i) Λ2) Λ' (fun i l => l.length ≤ i)) ?_ (items.length + 1)
    ⟨0, u, none, Λ₁, μ, [], xs, ys0, n0, rfl, Nat.zero_le _, Same.refl _, List.prefix_refl _, J, hat, hD, (List.append_nil pre).symm ▸ hpre, Nat.le_refl _, hIμ, hDμ, rfl, hgo⟩
  rintro n s2 ⟨i, u2, u2', Λ2, μ2, done, rest, ys, m, rfl, hi, S2, p2, I2, hat2, hD2, hys, hdl, hI2, hDm2, hxs, hgo2⟩
  obtain ⟨oi, hoi, hoic⟩ := hit.obj _ _ hat2
  have hcI : ∀ o v, s2.heap.get? It = some o → o.data ≠ .cell v := fun o v e => by rw [hoi] at e; cases e; exact hoic v
  rcases compGo_drop hgo2 with ⟨hlen, hok, hr⟩ | ⟨z, b, Λ3, hv, hok, htest, hcase⟩
  · have hie : i = items.length := by lia
    subst hie
    cases hr
    refine hit.done A _ _ _ _ _ μ2 s2 _ _ hA.1 I2 (pre_trans hp p2) hok hat2 fun h' tk hext => ?_
    have I3 : In g B fb nb (v :: u2 :: cs) _ μ2 h' := I2.other hext hI2 hIL hIB hcI
    exact hR _ μ2 u2 ys m (S2.trans Same.of) p2 I3 (hext D _ (Ne.symm hID) hD2) (by rw [hxs, List.append_nil]; exact hys) hDm2
  · cases htest
    refine hit.item i z A _ _ _ _ _ μ2 s2 _ _ hv I2 (pre_trans hp p2) hok hat2 fun val h' tk r hat3 hsame => ?_
    have I3 : In g B fb nb (v :: u2 :: cs) Λ2 μ2 h' := I2.other hsame.extBut hI2 hIL hIB hcI
    have hD3 : IsL h' D ys m := hsame.extBut D _ (Ne.symm hID) hD2
    obtain ⟨o3, ho3, hoc3⟩ := hit.obj _ _ hat3
    have hno : ∀ x c, x ∈ fb.own → fb.env.cells.lookup x = some c → c ≠ It ∧ c ≠ D := fun x c hx => by rw [hown] at hx; cases hx
    have H3 := Inv.hide (Inv.hide (h := h') I3 ho3 hI2 hIL (fun x c hx hc => (hno x c hx hc).1) hIB) hD3 hDm2 hDL (fun x c hx hc => (hno x c hx hc).2) (by show withObj _ _ _ D = none; unfold withObj; rw [if_neg (Ne.symm hID)]; exact hDB)
    have out : ∀ {vs' : Vars} {Λ4 : Led} {μ4 : List Addr} {h4 : Heap}, μ2 <+: μ4 → In g (withObj (withObj B It o3) D { cls := .type "list", dict := none, data := .seq ys m, slots := #[] }) fb nb vs' Λ4 μ4 h4 →
        In g B fb nb vs' Λ4 μ4 h4 ∧ At (i + 1) h4 ∧ IsL h4 D ys m ∧ (∀ k : Nat, μ4[k]? ≠ some It) ∧ (∀ k : Nat, μ4[k]? ≠ some D) := by
      intro vs' Λ4 μ4 h4 p4 I4
      have hDB' : withObj B It o3 D = none := by unfold withObj; rw [if_neg (Ne.symm hID)]; exact hDB
      have hgl : ∀ b o, g.hG.get? b = some o → withObj B It o3 b = some o := fun b o e => by
        have e' := I3.glob b o e
        unfold withObj
        rw [if_neg (fun hb => by have q := hIB; rw [← hb, e'] at q; cases q)]
        exact e'
      obtain ⟨K1, q1, m1⟩ := I4.unhide hDB' hgl
      obtain ⟨K2, q2, m2⟩ := K1.unhide hIB I3.glob
      exact ⟨K2, hit.loc _ _ _ hat3 (q2.trans ho3.symm), q1, hmu It μ4 hIμ (pre_trans p2 p4) m2, hmu D μ4 hDμ (pre_trans p2 p4) m1⟩
    refine wpAny_assign_Name (store (i := 1) okb hxn (.inl hx) H3 r fun s4 S4 I4 => ?_)
    have I4' : In g _ fb nb (v :: some z :: cs) Λ2 μ2 s4.heap := I4
    have hlt : i < items.length := (List.getElem?_eq_some_iff.mp hv).1
    rcases hcase with ⟨_, zz, Λ6, zs, Λ7, helt, hrest, hr⟩ | ⟨hf, hrest⟩
    · cases hr
      refine hy A _ _ _ Λ2 μ2 s4 zz Λ6 _ _ hA I4' helt fun vz s6 μ6 S6 p6 I6 r6 => ?_
      obtain ⟨K6, hat6, hD6, hI6, hDm6⟩ := out p6 I6
      have hsz : ys.size ≤ sizeLine := by
        have := hys.length
        have e4 : ys.toList.length = ys.size := by simp
        simp at this
        lia
      refine wpAny_list_append_plain (hsz := hsz) ⟨m, hD6⟩ fun h7 hl7 hs7 => ?_
      obtain ⟨m7, hl7⟩ := hl7
      have hcD : ∀ o v, s6.heap.get? D = some o → o.data ≠ .cell v := fun o v e q => by rw [hD6] at e; cases e; cases q
      have K7 : In g B fb nb (v :: some z :: cs) Λ6 μ6 h7 := K6.other hs7.extBut hDm6 hDL hDB hcD
      refine ⟨items.length + 1 - (i + 1), by lia, i + 1, some z, none, Λ6, μ6, done ++ [zz], zs, ys.push vz, m7, rfl, by lia, ((S2.trans (Same.of.trans S4)).trans S6).trans Same.of, pre_trans p2 p6, K7, hit.loc _ _ _ hat6 (hs7.2 It hID), hl7, ?_, by simp; lia, hI6, hDm6, by simp [hxs], hrest⟩
      rw [Array.toList_push, ← List.append_assoc]
      exact (hys.mono (VIs.mono p6)).append (.cons r6 .nil)
    · cases hf

theorem comp2_drop {ok : Led → Bool} {src2 : Src} {elt : Ex} {cs : Vars} {items : List V} {i : Nat} {Λ : Led} {r : List V × Led} (h : comp2Go ok src2 elt cs (items.drop i) Λ = some r) :
    (items.length ≤ i ∧ ok Λ = true ∧ r = ([], Λ)) ∨ (∃ v items2 k2 Λ1 xs Λ2 ys Λ3, items[i]? = some v ∧ ok Λ = true ∧ src2 (some v :: none :: cs) Λ = some (items2, k2, Λ1) ∧
      compGo (stands k2 items2) tTrue elt (fun u => some v :: some u :: cs) items2 Λ1 = some (xs, Λ2) ∧ comp2Go ok src2 elt cs (items.drop (i + 1)) Λ2 = some (ys, Λ3) ∧ r = (xs ++ ys, Λ3)) := by
  rcases Nat.lt_or_ge i items.length with hi | hi
  · right
    rw [List.drop_eq_getElem_cons hi] at h
    simp only [comp2Go] at h
    split at h
    · rename_i hok
      simp only [Option.bind_eq_bind, Option.bind_eq_some_iff, Prod.exists] at h
      obtain ⟨items2, k2, Λ1, h1, xs, Λ2, h2, ys, Λ3, h3, h4⟩ := h
      exact ⟨items[i], items2, k2, Λ1, xs, Λ2, ys, Λ3, List.getElem?_eq_getElem hi, hok, h1, h2, h3, by cases h4; rfl⟩
    · cases h
  · left
    rw [List.drop_of_length_le hi] at h
    simp only [comp2Go] at h
    split at h
    · rename_i hok; exact ⟨hi, hok, by cases h; rfl⟩
    · cases h

/-- variables that are not read may be forgotten -/
theorem Inv.forget {prog : Program} {w : World} {hG : Heap} (I : Inv prog w hG B f nb vs Λ μ h) {vs' : Vars} (hv : ∀ i v, getV vs' i = some v → getV vs i = some v) : Inv prog w hG B f nb vs' Λ μ h :=
  ⟨I.len, I.nbl, I.obj, I.keep, I.glob, I.fresh, I.nodup, I.nloc, I.bloc, I.bcel, I.acel, fun i x v e1 e2 => I.vars i x v e1 (hv i v e2)⟩

theorem compGo_true {ok : Led → Bool} {elt : Ex} {mk : V → Vars} : ∀ {items : List V} {Λ : Led} {r : List V × Led}, compGo ok tTrue elt mk items Λ = some r → r.1.length = items.length
  | [], Λ, r, h => by
    simp only [compGo] at h
    split at h
    · cases h; rfl
    · cases h
  | v :: rest, Λ, r, h => by
    simp only [compGo, tTrue] at h
    split at h
    · simp only [Option.bind_eq_bind, Option.bind_some, if_true, Option.bind_eq_some_iff, Prod.exists] at h
      obtain ⟨x, Λ2, h3, xs, Λ3, h4, h5⟩ := h
      cases h5
      have := compGo_true h4
      simpa using this
    · cases h

theorem outer_loop {sc : Scope} {cl : List (Str × Addr)} {x z : Str} {bn : List Str} {elt iter i2 : Expr} {px pz pos : Pos} {src2 : Src} {y : Ex} {C It D : Addr} {At : Nat → Heap → Prop} {μ₀ : List Addr} {items : List V} {k? : Option Nat}
    {h₁ : Heap} {Λ₁ Λ' : Led} {xs : List V} {R : Result → Shared → Prop}
    (okb : FmOk (blockFm f sc cl (x :: z :: bn) C)) (hx : (compEnvC sc cl C f.env).kindOf x = some .local) (hz : (compEnvC sc cl C f.env).kindOf z = some .local)
    (hsrc2 : SSrc g d (blockFm f sc cl (x :: z :: bn) C) i2 src2) (hy : SE g d (blockFm f sc cl (x :: z :: bn) C) elt y)
    (hA : Rm d A) (hit : Iter g μ₀ It items k? At) (hbig : xs.length ≤ big)
    {u u' : Option V} {cs : Vars} (J : In g (fun b => h₁.get? b) (blockFm f sc cl (x :: z :: bn) C) Λ₁.length (u :: u' :: cs) Λ₁ μ s.heap) (hp : μ₀ <+: μ) (hat : At 0 s.heap) {n0 : Nat} (hD : IsL s.heap D #[] n0)
    (oI : Off (blockFm f sc cl (x :: z :: bn) C) h₁ μ It) (oD : Off (blockFm f sc cl (x :: z :: bn) C) h₁ μ D) (hID : It ≠ D)
    (hgo : comp2Go (stands k? items) src2 y cs items Λ₁ = some (xs, Λ'))
    (hR : ∀ s' μ' u u' ys n, Same s s' → μ <+: μ' → In g (fun b => h₁.get? b) (blockFm f sc cl (x :: z :: bn) C) Λ₁.length (u :: u' :: cs) Λ' μ' s'.heap → IsL s'.heap D ys n → All2 (VIs μ') xs ys.toList → (∀ k : Nat, μ'[k]? ≠ some D) → R (.ok .next) s')
    (hs2 : ∀ x, foldedSetIterable i2 (compEnvC sc cl C f.env) x = pure x := by intro _; rfl) :
    codeAny (model g.prog g.w) A (.compLoop (lc2 elt (.Name x px) iter (.Name z pz) i2 sc pos) 0 (.ref It) (.ref D) (compEnvC sc cl C f.env)) R s := by
  have hmu : ∀ (a : Addr) μ2, (∀ k : Nat, μ[k]? ≠ some a) → μ <+: μ2 → (∀ k : Nat, Λ₁.length ≤ k → μ2[k]? ≠ some a) → ∀ k : Nat, μ2[k]? ≠ some a := by
    intro a μ2 h0 hp hh k
    rcases Nat.lt_or_ge k Λ₁.length with hlt | hge
    · rw [pre_get hp (by rw [J.len]; exact hlt)]; exact h0 k
    · exact hh k hge
  refine code2_outer (LoopInv g (fun b => h₁.get? b) (blockFm f sc cl (x :: z :: bn) C) Λ₁.length (fun u u' => u :: u' :: cs) μ s At items.length It D [] xs (fun i Λ2 => comp2Go (stands k? items) src2 y cs (items.drop i) Λ2) Λ' (fun _ _ => True)) hs2 ?_ (items.length + 1)
    ⟨0, u, u', Λ₁, μ, [], xs, #[], n0, rfl, Nat.zero_le _, Same.refl _, List.prefix_refl _, J, hat, hD, .nil, trivial, oI.mu, oD.mu, rfl, hgo⟩
  rintro n s2 ⟨i, u2, u2', Λ2, μ2, done, rest, ys, m, rfl, hi, S2, p2, I2, hat2, hD2, hys, hdl, hI2, hDm2, hxs, hgo2⟩
  dsimp only [List.nil_append] at I2 hys hgo2
  obtain ⟨oi, hoi, hoic⟩ := hit.obj _ _ hat2
  have hcI : ∀ o v, s2.heap.get? It = some o → o.data ≠ .cell v := fun o v e => by rw [hoi] at e; cases e; exact hoic v
  rcases comp2_drop hgo2 with ⟨hlen, hok, hr⟩ | ⟨v, items2, k2, Λ3, xs3, Λ4, ys4, Λ5, hv, hok, h1, h2, h3, hr⟩
  · have hie : i = items.length := by lia
    subst hie
    cases hr
    refine hit.done A _ _ _ _ _ μ2 s2 _ _ hA.1 I2 (pre_trans hp p2) hok hat2 fun h' tk hext => ?_
    have I3 : In g (fun b => h₁.get? b) (blockFm f sc cl (x :: z :: bn) C) Λ₁.length (u2 :: u2' :: cs) _ μ2 h' := I2.other hext hI2 oI.loc oI.new hcI
    exact hR _ μ2 u2 u2' ys m (S2.trans Same.of) p2 I3 (hext D _ (Ne.symm hID) hD2) (by rw [hxs, List.append_nil]; exact hys) hDm2
  · cases hr
    refine hit.item i v A _ _ _ _ _ μ2 s2 _ _ hv I2 (pre_trans hp p2) hok hat2 fun val h' tk r hat3 hsame => ?_
    have I3 : In g (fun b => h₁.get? b) (blockFm f sc cl (x :: z :: bn) C) Λ₁.length (u2 :: u2' :: cs) Λ2 μ2 h' := I2.other hsame.extBut hI2 oI.loc oI.new hcI
    have hD3 : IsL h' D ys m := hsame.extBut D _ (Ne.symm hID) hD2
    obtain ⟨o3, ho3, hoc3⟩ := hit.obj _ _ hat3
    have H3 := Inv.hide (Inv.hide (h := h') I3 ho3 hI2 oI.loc (fun x c hx => (nomatch hx)) oI.new) hD3 hDm2 oD.loc (fun x c hx => (nomatch hx)) (by show withObj _ _ _ D = none; unfold withObj; rw [if_neg (Ne.symm hID)]; exact oD.new)
    refine wpAny_assign_Name (store (i := 0) okb rfl (.inl hx) H3 r fun s4 S4 I4 => ?_)
    have I4' : In g _ (blockFm f sc cl (x :: z :: bn) C) Λ₁.length (some v :: none :: cs) Λ2 μ2 s4.heap := Inv.forget I4 fun j w e => by
      match j with
      | 0 => simpa [getV] using e
      | 1 => simp [getV] at e
      | j + 2 => simpa [getV] using e
    refine hsrc2 A _ _ _ Λ2 μ2 s4 items2 k2 Λ3 _ _ hA I4' h1 fun It2 At2 s5 μ5 h₅ S5 p5 I5 hn5 hk5 hst5 hit5 hat5 => ?_
    have J5 := I5.grow hk5
    -- D lies hidden beneath
    have hDB' : withObj (fun b => h₁.get? b) It o3 D = none := by unfold withObj; rw [if_neg (Ne.symm hID)]; exact oD.new
    have hgl : ∀ b o, g.hG.get? b = some o → withObj (fun b => h₁.get? b) It o3 b = some o := fun b o e => by
      have e' := I3.glob b o e
      unfold withObj
      rw [if_neg (fun hb => by have q := oI.new; rw [← hb, show h₁.get? b = some o from e'] at q; cases q)]
      exact e'
    obtain ⟨K5, hD5, mD5⟩ := J5.unhide hDB' hgl
    have hDm5 := hmu D μ5 oD.mu (pre_trans p2 p5) mD5
    have hI2D : It2 ≠ D := by
      rintro rfl
      have := I5.keep It2 _ (show withObj _ It2 _ It2 = some _ by simp [withObj]; rfl)
      rw [hn5] at this; cases this
    have hI2I : It2 ≠ It := by
      rintro rfl
      have := I5.keep It2 o3 (by unfold withObj; rw [if_neg hI2D, if_pos rfl])
      rw [hn5] at this; cases this
    have hI2L : It2 ≠ C := by
      rintro rfl
      obtain ⟨mm, o, _, _, q, _⟩ := I5.bloc.2
      have q' : h₅.get? It2 = some o := q
      rw [hn5] at q'; cases q'
    have hI2B : withObj (fun b => h₁.get? b) It o3 It2 = none := by
      cases q : withObj (fun b => h₁.get? b) It o3 It2 with
      | none => rfl
      | some o => have := I5.keep It2 o (by unfold withObj; rw [if_neg hI2D]; exact q); rw [hn5] at this; cases this
    have hI2μ : ∀ k : Nat, μ5[k]? ≠ some It2 := fun k e => by obtain ⟨o, ho⟩ := I5.lt e; rw [hn5] at ho; cases ho
    have hl3 : xs3.length = items2.length := compGo_true h2
    have hlen : done.length + items2.length ≤ sizeLine := by
      have := big_line
      have : xs.length = done.length + (xs3.length + ys4.length) := by rw [hxs]; simp
      lia
    have loop : codeAny (model g.prog g.w) A (.compLoop (lc2 elt (.Name x px) iter (.Name z pz) i2 sc pos) 1 (.ref It2) (.ref D) (compEnvC sc cl C f.env))
        (fun r s' => match r with
          | .ok _ => ∃ m, m < items.length + 1 - i ∧ LoopInv g (fun b => h₁.get? b) (blockFm f sc cl (x :: z :: bn) C) Λ₁.length (fun u u' => u :: u' :: cs) μ s At items.length It D [] xs (fun i Λ2 => comp2Go (stands k? items) src2 y cs (items.drop i) Λ2) Λ' (fun _ _ => True) m s'
          | .error e => cameBackBy (model g.prog g.w) A (compEnvC sc cl C f.env) (notedBy (model g.prog g.w) A (compEnvC sc cl C f.env) fun e s' => R (.error e) s') e s') s5 := by
      refine inner_loop (fb := blockFm f sc cl (x :: z :: bn) C) (B := withObj (fun b => h₁.get? b) It o3) okb rfl hz rfl hy hA hit5 K5 (List.prefix_refl _) hat5 hD5 (hys.mono (VIs.mono p5)) hlen hI2μ hI2L hI2B hDm5 oD.loc hDB' hI2D h2 fun s6 μ6 u6 ys6 n6 S6 p6 I6 hl6 r6 hm6 => ?_
      obtain ⟨K6, q6, m6⟩ := I6.unhide oI.new I3.glob
      have hlt : i < items.length := (List.getElem?_eq_some_iff.mp hv).1
      refine ⟨items.length + 1 - (i + 1), by lia, i + 1, some v, u6, Λ4, μ6, done ++ xs3, ys4, ys6, n6, rfl, by lia, (((S2.trans (Same.of.trans S4)).trans S5).trans S6), pre_trans p2 (pre_trans p5 p6), K6, hit.loc _ _ _ hat3 (q6.trans ho3.symm), hl6, r6, trivial, hmu It μ6 oI.mu (pre_trans p2 (pre_trans p5 p6)) m6, hm6, by rw [hxs, List.append_assoc], h3⟩
    exact code2_start loop (hit5.self 0 _ _ _ _ hat5 loop)

theorem S1.assignComp2 (ok : FmOk f) {i : Nat} {zz : Str} {pzz spos : Pos} {sc : Scope} {cl : List (Str × Addr)} {x z : Str} {bn : List Str} {caps : List Nat} {elt iter i2 : Expr} {px pz pos : Pos} {src src2 : Src} {y : Ex}
    (hi : f.names[i]? = some zz) (hst : Stores f zz)
    (bk : BlockOk f sc cl (x :: z :: bn) caps 2) (hx : (relabel sc f.env).names.lookup x = some .local) (hz : (relabel sc f.env).names.lookup z = some .local) (hsrc : SSrc g d f iter src)
    (hsrc2 : ∀ C, SSrc g d (blockFm f sc cl (x :: z :: bn) C) i2 src2) (hy : ∀ C, SE g d (blockFm f sc cl (x :: z :: bn) C) elt y)
    (hsw : swapsWith (lc2 elt (.Name x px) iter (.Name z pz) i2 sc pos) (some (.Name zz pzz)) spos.line f.env = pure true := by rfl) (hs : ∀ x, foldedSetIterable iter f.env x = pure x := by intro _; rfl)
    (hs2 : ∀ C x, foldedSetIterable i2 (compEnvC sc cl C f.env) x = pure x := by intro _ _; rfl) :
    S1 g d f (.Assign [.Name zz pzz] (lc2 elt (.Name x px) iter (.Name z pz) i2 sc pos) spos) (sAssign i (xComp2 caps src src2 y)) := by
  intro A B nb vs Λ μ s fl vs' Λ' Q E hA I hx' hQ
  simp only [sAssign, xComp2, Option.bind_eq_bind, Option.bind_eq_some_iff, Prod.exists] at hx'
  obtain ⟨v, Λ3, ⟨items, k?, Λ1, h1, xs, Λ2, h2, h3⟩, h4⟩ := hx'
  cases h4
  rw [exec_Assign_Name_used _ _ _ _ hsw]
  refine wpAny_bind (wpAny_standAt (wpAny_bind ?_))
  show wpAny _ A (do let _ ← comprehension (lc2 elt (.Name x px) iter (.Name z pz) i2 sc pos) sc f.env _ (PySem.newList []) false (eval iter f.env) (some (PySem.assign (.Name zz pzz) f.env))) _ _ s
  refine wpAny_bind (wpAny_mono (wpAny_comprehension_free (use := some (PySem.assign (.Name zz pzz) f.env)) (Q := fun _ s' => Q .next s') rfl hs bk.clos bk.kind bk.names ?_) (fun _ s' hq => wpAny_pure (wpAny_pure hq)) fun _ _ e => e)
  refine hsrc A B nb vs Λ μ s items k? Λ1 _ _ hA I h1 fun It At s1 μ1 h₁ S1 p1 I1 hn hk hst' hit hat => ?_
  have hb := newList_big h3
  suffices hcore : ∀ D C s', CompEnd g f h₁ Λ1 μ1 s1 Λ2 xs D C s' → compPost (model g.prog g.w) A E (some (PySem.assign (.Name zz pzz) f.env)) (fun _ s' => Q .next s') (.ref D) C (.ok .next) s' by
    refine wpAny_newObj_type (wpAny_newFunctionEnv bk.cell (by intro y hy; simp at hy) (fun h₂ hns hsb => ?_) bk.kind)
    dsimp only at hns hsb ⊢
    have hItS : It < s1.heap.objs.size := by obtain ⟨o, e, _⟩ := hit.obj _ _ hat; exact Heap.lt_size e
    have szD : (s1.heap.push { cls := .type "list", dict := Option.none, data := .seq ([] : List Value).toArray }).objs.size = s1.heap.objs.size + 1 := Heap.size_push _ _
    generalize hH : s1.heap.push { cls := .type "list", dict := Option.none, data := .seq ([] : List Value).toArray } = H at hns hsb szD ⊢
    have keepH : ∀ b o, s1.heap.get? b = some o → h₂.get? b = some o := fun b o e => hsb.extBut b o (Nat.ne_of_lt (Nat.lt_of_lt_of_le (Heap.lt_size e) (by lia))) (Heap.get?_push_of_some _ (hH ▸ Heap.get?_push_of_some _ e))
    have hD : IsL h₂ s1.heap.objs.size #[] 0 := hsb.extBut _ _ (Nat.ne_of_lt (by lia)) (Heap.get?_push_of_some _ (hH ▸ Heap.get?_push_size _ rfl))
    have new1 : ∀ a, s1.heap.objs.size ≤ a → h₁.get? a = Option.none := fun a ha => by
      cases q : h₁.get? a with
      | none => rfl
      | some o => exact absurd (Heap.lt_size (hk _ _ q)) (Nat.not_lt.mpr ha)
    have hC1 : h₁.get? H.objs.size = Option.none := new1 _ (by lia)
    have hD1 : h₁.get? s1.heap.objs.size = Option.none := new1 _ (Nat.le_refl _)
    have mu1 : ∀ a, h₁.get? a = Option.none → ∀ k : Nat, μ1[k]? ≠ some a := fun a ha k e => by obtain ⟨o, ho⟩ := I1.lt e; rw [ha] at ho; cases ho
    have hbn : (x :: z :: bn).Nodup := (bk.okb 0).nodup
    have J : In g (fun b => h₁.get? b) (blockFm f sc cl (x :: z :: bn) H.objs.size) Λ1.length (Option.none :: Option.none :: capsOf caps vs) Λ1 μ1 h₂ := by
      refine I1.enter (fun b o e => keepH b o (hk b o e)) hC1 ⟨_, hns⟩ (fun x hx => (nomatch hx)) (fun x y c hx => (nomatch hx)) fun i z v e1 e2 => ?_
      match i with
      | 0 => simp [getV] at e2
      | 1 => simp [getV] at e2
      | j + 2 => exact caps_loc bk.caps hbn I1 (fun b o e => keepH b o (hk b o e)) (off := 2) e1 (by simpa [getV] using e2)
    have hat2 : At 0 h₂ := hit.loc _ _ _ hat (by obtain ⟨o, e, _⟩ := hit.obj _ _ hat; rw [e]; exact keepH _ _ e)
    have loop : codeAny (model g.prog g.w) A (.compLoop (lc2 elt (.Name x px) iter (.Name z pz) i2 sc pos) 0 (.ref It) (.ref s1.heap.objs.size) (compEnvC sc cl H.objs.size f.env)) (compPost (model g.prog g.w) A E (some (PySem.assign (.Name zz pzz) f.env)) (fun _ s' => Q .next s') (.ref s1.heap.objs.size) H.objs.size) { s1 with heap := h₂, toks := s1.toks + ([] : List (Str × Value)).length } := by
      refine outer_loop (bk.okb _) hx hz (hsrc2 _) (hy _) hA hit hb J (List.prefix_refl _) hat2 hD ⟨hn, mu1 _ hn, ?_⟩ ⟨hD1, mu1 _ hD1, ?_⟩ (Nat.ne_of_lt hItS) h2 (fun s' μ' u u' ys n S p K hl r hm => ?_) (hs2 _)
      · exact Nat.ne_of_lt (Nat.lt_of_lt_of_le hItS (show s1.heap.objs.size ≤ H.objs.size by lia))
      · exact Nat.ne_of_lt (show s1.heap.objs.size < H.objs.size by lia)
      · exact hcore _ _ s' ⟨_, _, μ', ys, n, rfl, Same.of.trans S, p, K, hl, r, hm, hD1, Nat.ne_of_lt (by lia), hC1⟩
    exact codeAny_compStart_list loop (hit.self 0 _ _ _ _ hat2 loop)
  intro D C s' hend
  obtain ⟨μ', ys, n, S, p, J, hl, r, hm, hmC, hD1, hDC, hC1, m, hns⟩ := comp_end I1 hend
  unfold newList at h3
  rw [if_pos hb] at h3
  simp only [Mine.alloc, Option.some.injEq, Prod.mk.injEq] at h3
  obtain ⟨rfl, rfl⟩ := h3
  have J2 := Inv.adoptList I1 J hD1 hm hl r
  show wpAny _ A (PySem.assign (.Name zz pzz) f.env (.ref D)) _ _ _
  obtain ⟨oC, es, ep, hoC, q1, q2, q3⟩ := hns
  have hCμ : ∀ k : Nat, (μ' ++ [D])[k]? ≠ some C := fun k e => by
    rcases Nat.lt_or_ge k μ'.length with hlt | hge
    · rw [List.getElem?_append_left hlt] at e; exact hmC k e
    · rw [List.getElem?_append_right hge] at e
      have := List.mem_of_getElem? e
      simp at this; exact hDC this.symm
  have hCL : C ≠ f.env.locals := by
    rintro rfl
    obtain ⟨m, o, _, _, q, _⟩ := I1.bloc.2
    rw [hC1] at q; cases q
  have hCB : B C = Option.none := by
    cases q : B C with
    | none => rfl
    | some o => have := I1.keep _ _ q; rw [hC1] at this; cases this
  have hCc : ∀ x c, x ∈ f.own → f.env.cells.lookup x = some c → c ≠ C := by
    rintro x c hx hc rfl
    obtain ⟨c', v, e1, ⟨o, q, _⟩, _⟩ := I1.bcel x hx
    rw [e1] at hc; cases hc
    rw [hC1] at q; cases q
  have H := Inv.hide (h := s'.heap) J2 hoC hCμ hCL hCc hCB
  refine wpAny_assign_Name (store ok hi hst H (v := .ref Λ2.length) ⟨D, by rw [← J.len]; exact pick_last, rfl⟩ fun s5 S5 I5 => ?_)
  obtain ⟨K, qC, _⟩ := I5.unhide hCB I.glob
  refine ⟨m, ⟨oC, es, ep, qC, q1, q2, q3⟩, fun h' hs' => ?_⟩
  refine hQ _ _ (μ' ++ [D]) (((S1.trans S).trans S5).trans Same.of) (pre_trans (pre_trans p1 p) (List.prefix_append _ _)) ?_ trivial
  exact Inv.offBlock I1 K hC1 hCμ ⟨m, ⟨oC, es, ep, qC, q1, q2, q3⟩⟩ hs'
end
end Mine

/-! ## part E0 -/
set_option maxRecDepth 4000
set_option linter.unusedVariables false
namespace Mine
open PySem PySem.Calls PyProof.Rows PySem.SeqAt

abbrev pw : Program := PySem.Challenge.pw_sx_vcinder_8
def nth : List Stmt → Nat → Stmt
  | s :: _, 0 => s
  | _ :: r, n + 1 => nth r n
  | [], _ => .Pass ⟨0, 0, 0, 0⟩
def fnName : Stmt → Str
  | .FunctionDef n _ _ _ _ _ _ _ _ _ => n
  | _ => ""
def fnArgs : Stmt → Arguments
  | .FunctionDef _ a _ _ _ _ _ _ _ _ => a
  | _ => ⟨[], [], none, [], [], none, []⟩
def fnBody : Stmt → List Stmt
  | .FunctionDef _ _ b _ _ _ _ _ _ _ => b
  | _ => []
def fnScope : Stmt → Scope
  | .FunctionDef _ _ _ _ _ _ sc _ _ _ => sc
  | _ => { kind := .function, names := [], isGenerator := false, isCoroutine := false }
def fnPos : Stmt → Pos
  | .FunctionDef _ _ _ _ _ _ _ _ _ p => p
  | _ => ⟨0, 0, 0, 0⟩
abbrev st (i : Nat) : Stmt := nth pw.main.body i
abbrev rc (i : Nat) : DefRec := ⟨fnName (st i), fnArgs (st i), fnBody (st i), fnScope (st i), fnPos (st i)⟩

abbrev fdOf (i : Nat) (pm cd doc : Value) : FuncData := docDef (fnName (st i)) (fnArgs (st i)) (fnBody (st i)) (fnScope (st i)) pm cd doc
/-- the frame of def i -/
abbrev fm (i : Nat) (names : List Str) (pm cd doc : Value) (L a : Addr) : Fm := ⟨callEnv (fdOf i pm cd doc) L a, names, []⟩
/-- the frame of def i, with cells of its own -/
abbrev fmc (i : Nat) (names own : List Str) (pm cd doc : Value) (L a : Addr) : Fm := ⟨callEnvC (fdOf i pm cd doc) L a, names, own⟩

theorem FmOk.of {f : Fm} (sc : Scope) (ns : List Str) (h1 : f.env.scope = sc) (h2 : f.names = ns) (h7 : f.env.globals = mainGlobals) (h8 : f.env.builtins = builtinsNs) (h3 : sc.kind = .function) (h4 : ns.Nodup)
    (h5 : ∀ x ∈ ns, (x == ("__debug__" : Str)) = false ∧ (x == ("__classdict__" : Str)) = false)
    (h6 : ∀ x ∈ ns, sc.names.lookup x = some .local ∨ sc.names.lookup x = some .cell ∨ sc.names.lookup x = some .free) : FmOk f := by
  subst h1; subst h2
  exact ⟨h3, h4, h5, h6, h7, h8⟩

theorem all_nil {α : Type} {P : α → Prop} : ∀ x ∈ ([] : List α), P x := fun x h => nomatch h
theorem all_cons {α : Type} {P : α → Prop} {a : α} {l : List α} (h : P a) (t : ∀ x ∈ l, P x) : ∀ x ∈ a :: l, P x := fun x hx => by
  rcases List.mem_cons.mp hx with rfl | hx
  · exact h
  · exact t x hx

section
variable {f : Fm} {sc : Scope} {cl : List (Str × Addr)} {bn : List Str}
theorem Caps.nil {off : Nat} : Caps f sc cl bn [] off := fun j i h => by simp at h
theorem Caps.cons {off i : Nat} {caps : List Nat} {y : Str} (h1 : f.names[i]? = some y) (h2 : bn[off]? = some y) (h3 : f.env.kindOf y = some .cell) (h4 : (relabel sc f.env).names.lookup y = some .cell) (h5 : cl.lookup y = f.env.cells.lookup y)
    (h : Caps f sc cl bn caps (off + 1)) : Caps f sc cl bn (i :: caps) off := fun j k e => by
  cases j with
  | zero => simp at e; subst e; exact ⟨y, h1, by simpa using h2, h3, h4, h5⟩
  | succ j => rw [show j + 1 + off = j + (off + 1) by lia]; exact h j k (by simpa using e)
end

def cloOf (env : Env) : List (Str × NameKind) → List (Str × Addr) → List (Str × Addr)
  | [], cs => cs
  | (n, k) :: r, cs => if k == .free then cloOf env r ((n, (env.cells.lookup n).getD 0) :: cs) else cloOf env r cs

section
variable {g : Gl} {d : Nat} {f : Fm}
theorem SE.comp' {sc : Scope} {x : Str} (bn : List Str) {caps : List Nat} {elt iter : Expr} {px pos : Pos} {ifs : List Expr} {src : Src} {t : Te} {y : Ex}
    (bk : BlockOk f sc (cloOf f.env sc.names []) (x :: bn) caps 1) (hx : (relabel sc f.env).names.lookup x = some .local) (hsrc : SSrc g d f iter src) (hsz : ∀ vs Λ r, src vs Λ = some r → r.1.length ≤ big)
    (ht : ∀ C, FmOk (blockFm f sc (cloOf f.env sc.names []) (x :: bn) C) → STests g d (blockFm f sc (cloOf f.env sc.names []) (x :: bn) C) ifs t)
    (hy : ∀ C, FmOk (blockFm f sc (cloOf f.env sc.names []) (x :: bn) C) → SE g d (blockFm f sc (cloOf f.env sc.names []) (x :: bn) C) elt y) (hs : ∀ x, foldedSetIterable iter f.env x = pure x := by intro _; rfl) :
    SE g d f (.ListComp elt [⟨.Name x px, iter, ifs, 0⟩] sc pos) (xComp caps src t y) :=
  SE.comp bk hx hsrc hsz (fun C => ht C (bk.okb C)) (fun C => hy C (bk.okb C)) hs
theorem S1.assignComp' (ok : FmOk f) {i : Nat} {z : Str} {pz spos : Pos} {sc : Scope} {x : Str} (bn : List Str) {caps : List Nat} {elt iter : Expr} {px pos : Pos} {ifs : List Expr} {src : Src} {t : Te} {y : Ex}
    (hi : f.names[i]? = some z) (hst : Stores f z)
    (bk : BlockOk f sc (cloOf f.env sc.names []) (x :: bn) caps 1) (hx : (relabel sc f.env).names.lookup x = some .local) (hsrc : SSrc g d f iter src) (hsz : ∀ vs Λ r, src vs Λ = some r → r.1.length ≤ big)
    (ht : ∀ C, FmOk (blockFm f sc (cloOf f.env sc.names []) (x :: bn) C) → STests g d (blockFm f sc (cloOf f.env sc.names []) (x :: bn) C) ifs t)
    (hy : ∀ C, FmOk (blockFm f sc (cloOf f.env sc.names []) (x :: bn) C) → SE g d (blockFm f sc (cloOf f.env sc.names []) (x :: bn) C) elt y)
    (hsw : swapsWith (.ListComp elt [⟨.Name x px, iter, ifs, 0⟩] sc pos) (some (.Name z pz)) spos.line f.env = pure true := by rfl) (hs : ∀ x, foldedSetIterable iter f.env x = pure x := by intro _; rfl) :
    S1 g d f (.Assign [.Name z pz] (.ListComp elt [⟨.Name x px, iter, ifs, 0⟩] sc pos) spos) (sAssign i (xComp caps src t y)) :=
  S1.assignComp ok hi hst bk hx hsrc hsz (fun C => ht C (bk.okb C)) (fun C => hy C (bk.okb C)) hsw hs
theorem S1.assignComp2' (ok : FmOk f) {i : Nat} {zz : Str} {pzz spos : Pos} {sc : Scope} {x z : Str} (bn : List Str) {caps : List Nat} {elt iter i2 : Expr} {px pz pos : Pos} {src src2 : Src} {y : Ex}
    (hi : f.names[i]? = some zz) (hst : Stores f zz)
    (bk : BlockOk f sc (cloOf f.env sc.names []) (x :: z :: bn) caps 2) (hx : (relabel sc f.env).names.lookup x = some .local) (hz : (relabel sc f.env).names.lookup z = some .local) (hsrc : SSrc g d f iter src)
    (hsrc2 : ∀ C, FmOk (blockFm f sc (cloOf f.env sc.names []) (x :: z :: bn) C) → SSrc g d (blockFm f sc (cloOf f.env sc.names []) (x :: z :: bn) C) i2 src2)
    (hy : ∀ C, FmOk (blockFm f sc (cloOf f.env sc.names []) (x :: z :: bn) C) → SE g d (blockFm f sc (cloOf f.env sc.names []) (x :: z :: bn) C) elt y)
    (hsw : swapsWith (lc2 elt (.Name x px) iter (.Name z pz) i2 sc pos) (some (.Name zz pzz)) spos.line f.env = pure true := by rfl) (hs : ∀ x, foldedSetIterable iter f.env x = pure x := by intro _; rfl)
    (hs2 : ∀ C x, foldedSetIterable i2 (compEnvC sc (cloOf f.env sc.names []) C f.env) x = pure x := by intro _ _; rfl) :
    S1 g d f (.Assign [.Name zz pzz] (lc2 elt (.Name x px) iter (.Name z pz) i2 sc pos) spos) (sAssign i (xComp2 caps src src2 y)) :=
  S1.assignComp2 ok hi hst bk hx hz hsrc (fun C => hsrc2 C (bk.okb C)) (fun C => hy C (bk.okb C)) hsw hs hs2
end

abbrev blts : List (Str × Value) := [("len", .builtin "len"), ("abs", .builtin "abs"), ("sorted", .builtin "sorted"), ("list", .type "list"), ("dict", .type "dict"), ("range", .type "range"), ("all", .builtin "all"), ("type", .type "type"), ("int", .type "int")]
/-- the ground of the text: its globals, its defs, the built-ins it names -/
structure Ev (g : Gl) : Prop where
  gk : GlOk g
  fn : ∀ d ∈ recsOf pw, ∃ a o pm code doc, g.mg d.name = some (.ref a) ∧ g.hG.get? a = some o ∧ o.data = .func (docDef d.name d.params d.body d.scope pm code doc) ∧ g.hG.CodeRec code d.name
  bl : ∀ p ∈ blts, g.mg p.1 = none ∧ g.mb p.1 = some p.2
section
variable {g : Gl} {f : Fm}
theorem Ev.at_ (ev : Ev g) (i : Nat) {x : Str} {v : Value} (hi : blts[i]? = some (x, v))
    (hk : f.env.kindOf x = some .globalImplicit) (hd : (x == ("__debug__" : Str)) = false) : Named g f x v :=
  ⟨hk, hd, .inr (ev.bl _ (List.mem_of_getElem? hi))⟩
end
end Mine

/-! ## part E1 -/
set_option maxRecDepth 4000
set_option linter.unusedVariables false
namespace Mine
open PySem PySem.Calls PyProof.Rows PySem.SeqAt
theorem rc_is_pointer : rc 1 ∈ recsOf pw := List.mem_of_getElem? (i := 0) (by rfl)
theorem ok_is_pointer {pm cd doc : Value} {L a : Addr} : FmOk (fm 1 ["w"] pm cd doc L a) := FmOk.of (fnScope (st 1)) ["w"] rfl rfl rfl rfl rfl (by decide) (by decide) (by decide)
theorem fn_is_pointer {g : Gl} (ev : Ev g) : FnOk g 2 "is_pointer" f_is_pointer := by
  obtain ⟨a, o, pm, cd, doc, h1, h2, h3, h4⟩ := ev.fn _ rc_is_pointer
  exact ⟨a, o, _, h1, h2, h3, callOk_plain (d := 1) (ps := ["w"]) (rest := []) ev.gk h2 h3 h4 rfl (fun vals h => by obtain ⟨v0, rfl⟩ := len1 h; rfl) (show ∀ x ∈ (fnScope (st 1)).names, x.2 ≠ .cell by decide) (show ∀ x ∈ (["w"] : List Str), (fnScope (st 1)).names.lookup x = some .local by decide) (by decide) fun L => (SS.cons (S1.ret (SE.cmp (by decide) cmp_eq (SE.bin op_mod (SE.var ok_is_pointer (by rfl)) SE.int) SE.int)) SS.nil)⟩
theorem rc_pointer_to : rc 2 ∈ recsOf pw := List.mem_of_getElem? (i := 1) (by rfl)
theorem ok_pointer_to {pm cd doc : Value} {L a : Addr} : FmOk (fm 2 ["a"] pm cd doc L a) := FmOk.of (fnScope (st 2)) ["a"] rfl rfl rfl rfl rfl (by decide) (by decide) (by decide)
theorem fn_pointer_to {g : Gl} (ev : Ev g) : FnOk g 2 "pointer_to" f_pointer_to := by
  obtain ⟨a, o, pm, cd, doc, h1, h2, h3, h4⟩ := ev.fn _ rc_pointer_to
  exact ⟨a, o, _, h1, h2, h3, callOk_plain (d := 1) (ps := ["a"]) (rest := []) ev.gk h2 h3 h4 rfl (fun vals h => by obtain ⟨v0, rfl⟩ := len1 h; rfl) (show ∀ x ∈ (fnScope (st 2)).names, x.2 ≠ .cell by decide) (show ∀ x ∈ (["a"] : List Str), (fnScope (st 2)).names.lookup x = some .local by decide) (by decide) fun L => (SS.cons (S1.ret (SE.bin op_add (SE.bin op_mul SE.int (SE.var ok_pointer_to (by rfl))) SE.int)) SS.nil)⟩
theorem rc_address_of : rc 3 ∈ recsOf pw := List.mem_of_getElem? (i := 2) (by rfl)
theorem ok_address_of {pm cd doc : Value} {L a : Addr} : FmOk (fm 3 ["w"] pm cd doc L a) := FmOk.of (fnScope (st 3)) ["w"] rfl rfl rfl rfl rfl (by decide) (by decide) (by decide)
theorem fn_address_of {g : Gl} (ev : Ev g) : FnOk g 2 "address_of" f_address_of := by
  obtain ⟨a, o, pm, cd, doc, h1, h2, h3, h4⟩ := ev.fn _ rc_address_of
  exact ⟨a, o, _, h1, h2, h3, callOk_plain (d := 1) (ps := ["w"]) (rest := []) ev.gk h2 h3 h4 rfl (fun vals h => by obtain ⟨v0, rfl⟩ := len1 h; rfl) (show ∀ x ∈ (fnScope (st 3)).names, x.2 ≠ .cell by decide) (show ∀ x ∈ (["w"] : List Str), (fnScope (st 3)).names.lookup x = some .local by decide) (by decide) fun L => (SS.cons (S1.ret (SE.bin op_div (SE.var ok_address_of (by rfl)) SE.int)) SS.nil)⟩
theorem rc_blocks_of : rc 4 ∈ recsOf pw := List.mem_of_getElem? (i := 3) (by rfl)
theorem ok_blocks_of {pm cd doc : Value} {L a : Addr} : FmOk (fm 4 ["mem", "blocks", "at", "j", "h", "n"] pm cd doc L a) := FmOk.of (fnScope (st 4)) ["mem", "blocks", "at", "j", "h", "n"] rfl rfl rfl rfl rfl (by decide) (by decide) (by decide)
theorem fn_blocks_of {g : Gl} (ev : Ev g) : FnOk g 2 "blocks_of" f_blocks_of := by
  obtain ⟨a, o, pm, cd, doc, h1, h2, h3, h4⟩ := ev.fn _ rc_blocks_of
  exact ⟨a, o, _, h1, h2, h3, callOk_plain (d := 1) (ps := ["mem"]) (rest := ["blocks", "at", "j", "h", "n"]) ev.gk h2 h3 h4 rfl (fun vals h => by obtain ⟨v0, rfl⟩ := len1 h; rfl) (show ∀ x ∈ (fnScope (st 4)).names, x.2 ≠ .cell by decide) (show ∀ x ∈ (["mem"] : List Str), (fnScope (st 4)).names.lookup x = some .local by decide) (by decide) fun L => (SS.cons (S1.assign ok_blocks_of (by rfl) (.inl rfl) (SE.list SEs.nil)) (SS.cons (S1.assign ok_blocks_of (by rfl) (.inl rfl) SE.int) (SS.cons (S1.for_ (SSrc.range ok_blocks_of ev.gk (ev.at_ 5 (by rfl) (by rfl) (by decide)) (SE.len ok_blocks_of ev.gk (ev.at_ 0 (by rfl) (by rfl) (by decide)) (SE.var ok_blocks_of (by rfl)))) (SAsg.name ok_blocks_of (by rfl) (.inl rfl)) (fun _ _ _ _ => SLet.name) (SS.cons (S1.ite (ST.cmp (by decide) cmp_eq (SE.var ok_blocks_of (by rfl)) (SE.var ok_blocks_of (by rfl))) (SS.cons (S1.assign ok_blocks_of (by rfl) (.inl rfl) (SE.idx (SE.var ok_blocks_of (by rfl)) (SE.var ok_blocks_of (by rfl)))) (SS.cons (S1.assign ok_blocks_of (by rfl) (.inl rfl) (SE.ifx (ST.cmp (by decide) cmp_ge (SE.var ok_blocks_of (by rfl)) SE.int) (SE.bin op_add (SE.var ok_blocks_of (by rfl)) SE.int) (SE.neg (SE.var ok_blocks_of (by rfl))))) (SS.cons (S1.ite (ST.cmp (by decide) cmp_gt (SE.bin op_add (SE.var ok_blocks_of (by rfl)) (SE.var ok_blocks_of (by rfl))) (SE.len ok_blocks_of ev.gk (ev.at_ 0 (by rfl) (by rfl) (by decide)) (SE.var ok_blocks_of (by rfl)))) (SS.cons (S1.ret SE.none) SS.nil) SS.nil) (SS.cons (S1.append ok_blocks_of (by rfl) (SE.tup (SEs.cons (SE.var ok_blocks_of (by rfl)) (SEs.cons (SE.var ok_blocks_of (by rfl)) (SEs.cons (SE.cmp (by decide) cmp_lt (SE.var ok_blocks_of (by rfl)) SE.int) SEs.nil)))) (by rfl)) (SS.cons (S1.assign ok_blocks_of (by rfl) (.inl rfl) (SE.bin op_add (SE.var ok_blocks_of (by rfl)) (SE.var ok_blocks_of (by rfl)))) SS.nil))))) SS.nil) SS.nil)) (SS.cons (S1.ret (SE.var ok_blocks_of (by rfl))) SS.nil))))⟩
theorem rc_fields_of : rc 5 ∈ recsOf pw := List.mem_of_getElem? (i := 4) (by rfl)
theorem ok_fields_of {pm cd doc : Value} {L a : Addr} : FmOk (fm 5 ["mem", "a"] pm cd doc L a) := FmOk.of (fnScope (st 5)) ["mem", "a"] rfl rfl rfl rfl rfl (by decide) (by decide) (by decide)
theorem fn_fields_of {g : Gl} (ev : Ev g) : FnOk g 2 "fields_of" f_fields_of := by
  obtain ⟨a, o, pm, cd, doc, h1, h2, h3, h4⟩ := ev.fn _ rc_fields_of
  exact ⟨a, o, _, h1, h2, h3, callOk_plain (d := 1) (ps := ["mem", "a"]) (rest := []) ev.gk h2 h3 h4 rfl (fun vals h => by obtain ⟨v0, v1, rfl⟩ := len2 h; rfl) (show ∀ x ∈ (fnScope (st 5)).names, x.2 ≠ .cell by decide) (show ∀ x ∈ (["mem", "a"] : List Str), (fnScope (st 5)).names.lookup x = some .local by decide) (by decide) fun L => (SS.cons (S1.ret (SE.slice (SE.var ok_fields_of (by rfl)) (SE.bin op_add (SE.var ok_fields_of (by rfl)) SE.int) (SE.bin op_add (SE.bin op_add (SE.var ok_fields_of (by rfl)) SE.int) (SE.idx (SE.var ok_fields_of (by rfl)) (SE.var ok_fields_of (by rfl)))))) SS.nil)⟩
theorem rc_with_field : rc 6 ∈ recsOf pw := List.mem_of_getElem? (i := 5) (by rfl)
theorem ok_with_field {pm cd doc : Value} {L a : Addr} : FmOk (fm 6 ["mem", "a", "i", "w", "new"] pm cd doc L a) := FmOk.of (fnScope (st 6)) ["mem", "a", "i", "w", "new"] rfl rfl rfl rfl rfl (by decide) (by decide) (by decide)
theorem fn_with_field {g : Gl} (ev : Ev g) : FnOk g 2 "with_field" f_with_field := by
  obtain ⟨a, o, pm, cd, doc, h1, h2, h3, h4⟩ := ev.fn _ rc_with_field
  exact ⟨a, o, _, h1, h2, h3, callOk_plain (d := 1) (ps := ["mem", "a", "i", "w"]) (rest := ["new"]) ev.gk h2 h3 h4 rfl (fun vals h => by obtain ⟨v0, v1, v2, v3, rfl⟩ := len4 h; rfl) (show ∀ x ∈ (fnScope (st 6)).names, x.2 ≠ .cell by decide) (show ∀ x ∈ (["mem", "a", "i", "w"] : List Str), (fnScope (st 6)).names.lookup x = some .local by decide) (by decide) fun L => (SS.cons (S1.assign ok_with_field (by rfl) (.inl rfl) (SE.listOf ok_with_field ev.gk (ev.at_ 3 (by rfl) (by rfl) (by decide)) (SE.var ok_with_field (by rfl)))) (SS.cons (S1.setIdx ok_with_field (by rfl) (SE.bin op_add (SE.bin op_add (SE.var ok_with_field (by rfl)) SE.int) (SE.var ok_with_field (by rfl))) (SE.var ok_with_field (by rfl))) (SS.cons (S1.ret (SE.var ok_with_field (by rfl))) SS.nil)))⟩
theorem rc_reachable : rc 7 ∈ recsOf pw := List.mem_of_getElem? (i := 6) (by rfl)
theorem ok_reachable {pm cd doc : Value} {L a : Addr} : FmOk (fm 7 ["mem", "roots", "met", "w", "place"] pm cd doc L a) := FmOk.of (fnScope (st 7)) ["mem", "roots", "met", "w", "place"] rfl rfl rfl rfl rfl (by decide) (by decide) (by decide)
theorem fn_reachable {g : Gl} (ev : Ev g) : FnOk g 3 "reachable" f_reachable := by
  obtain ⟨a, o, pm, cd, doc, h1, h2, h3, h4⟩ := ev.fn _ rc_reachable
  exact ⟨a, o, _, h1, h2, h3, callOk_plain (d := 2) (ps := ["mem", "roots"]) (rest := ["met", "w", "place"]) ev.gk h2 h3 h4 rfl (fun vals h => by obtain ⟨v0, v1, rfl⟩ := len2 h; rfl) (show ∀ x ∈ (fnScope (st 7)).names, x.2 ≠ .cell by decide) (show ∀ x ∈ (["mem", "roots"] : List Str), (fnScope (st 7)).names.lookup x = some .local by decide) (by decide) fun L => (SS.cons (S1.assign ok_reachable (by rfl) (.inl rfl) (SE.list SEs.nil)) (SS.cons (S1.for_ (SSrc.list (SE.var ok_reachable (by rfl))) (SAsg.name ok_reachable (by rfl) (.inl rfl)) (fun _ _ _ _ => SLet.name) (SS.cons (S1.ite (ST.and (SAnd.cons (ST.of (SE.call ok_reachable ev.gk ((fn_is_pointer ev).le (by decide)) ⟨by rfl, by decide⟩ (SEs.cons (SE.var ok_reachable (by rfl)) SEs.nil))) (SAnd.cons (ST.cmp (by decide) cmp_notIn (SE.call ok_reachable ev.gk ((fn_address_of ev).le (by decide)) ⟨by rfl, by decide⟩ (SEs.cons (SE.var ok_reachable (by rfl)) SEs.nil)) (SE.var ok_reachable (by rfl))) SAnd.nil))) (SS.cons (S1.append ok_reachable (by rfl) (SE.call ok_reachable ev.gk ((fn_address_of ev).le (by decide)) ⟨by rfl, by decide⟩ (SEs.cons (SE.var ok_reachable (by rfl)) SEs.nil)) (by rfl)) SS.nil) SS.nil) SS.nil)) (SS.cons (S1.assign ok_reachable (by rfl) (.inl rfl) SE.int) (SS.cons (S1.while_ (ST.cmp (by decide) cmp_lt (SE.var ok_reachable (by rfl)) (SE.len ok_reachable ev.gk (ev.at_ 0 (by rfl) (by rfl) (by decide)) (SE.var ok_reachable (by rfl)))) (SS.cons (S1.for_ (SSrc.list (SE.call ok_reachable ev.gk ((fn_fields_of ev).le (by decide)) ⟨by rfl, by decide⟩ (SEs.cons (SE.var ok_reachable (by rfl)) (SEs.cons (SE.idx (SE.var ok_reachable (by rfl)) (SE.var ok_reachable (by rfl))) SEs.nil)))) (SAsg.name ok_reachable (by rfl) (.inl rfl)) (fun _ _ _ _ => SLet.name) (SS.cons (S1.ite (ST.and (SAnd.cons (ST.of (SE.call ok_reachable ev.gk ((fn_is_pointer ev).le (by decide)) ⟨by rfl, by decide⟩ (SEs.cons (SE.var ok_reachable (by rfl)) SEs.nil))) (SAnd.cons (ST.cmp (by decide) cmp_notIn (SE.call ok_reachable ev.gk ((fn_address_of ev).le (by decide)) ⟨by rfl, by decide⟩ (SEs.cons (SE.var ok_reachable (by rfl)) SEs.nil)) (SE.var ok_reachable (by rfl))) SAnd.nil))) (SS.cons (S1.append ok_reachable (by rfl) (SE.call ok_reachable ev.gk ((fn_address_of ev).le (by decide)) ⟨by rfl, by decide⟩ (SEs.cons (SE.var ok_reachable (by rfl)) SEs.nil)) (by rfl)) SS.nil) SS.nil) SS.nil)) (SS.cons (S1.assign ok_reachable (by rfl) (.inl rfl) (SE.bin op_add (SE.var ok_reachable (by rfl)) SE.int)) SS.nil))) (SS.cons (S1.ret (SE.var ok_reachable (by rfl))) SS.nil)))))⟩
theorem rc_swept : rc 8 ∈ recsOf pw := List.mem_of_getElem? (i := 7) (by rfl)
theorem ok_swept {pm cd doc : Value} {L a : Addr} : FmOk (fm 8 ["mem", "marked", "new", "run", "b", "a", "n"] pm cd doc L a) := FmOk.of (fnScope (st 8)) ["mem", "marked", "new", "run", "b", "a", "n"] rfl rfl rfl rfl rfl (by decide) (by decide) (by decide)
theorem fn_swept {g : Gl} (ev : Ev g) : FnOk g 3 "swept" f_swept := by
  obtain ⟨a, o, pm, cd, doc, h1, h2, h3, h4⟩ := ev.fn _ rc_swept
  exact ⟨a, o, _, h1, h2, h3, callOk_plain (d := 2) (ps := ["mem", "marked"]) (rest := ["new", "run", "b", "a", "n"]) ev.gk h2 h3 h4 rfl (fun vals h => by obtain ⟨v0, v1, rfl⟩ := len2 h; rfl) (show ∀ x ∈ (fnScope (st 8)).names, x.2 ≠ .cell by decide) (show ∀ x ∈ (["mem", "marked"] : List Str), (fnScope (st 8)).names.lookup x = some .local by decide) (by decide) fun L => (SS.cons (S1.assign ok_swept (by rfl) (.inl rfl) (SE.list SEs.nil)) (SS.cons (S1.assign ok_swept (by rfl) (.inl rfl) (SE.neg SE.int)) (SS.cons (S1.for_ (SSrc.list (SE.call ok_swept ev.gk ((fn_blocks_of ev).le (by decide)) ⟨by rfl, by decide⟩ (SEs.cons (SE.var ok_swept (by rfl)) SEs.nil))) (SAsg.name ok_swept (by rfl) (.inl rfl)) (fun _ _ _ _ => SLet.name) (SS.cons (S1.assign ok_swept (by rfl) (.inl rfl) (SE.idx (SE.var ok_swept (by rfl)) SE.int)) (SS.cons (S1.assign ok_swept (by rfl) (.inl rfl) (SE.idx (SE.var ok_swept (by rfl)) SE.int)) (SS.cons (S1.ite (ST.and (SAnd.cons (ST.not (ST.of (SE.idx (SE.var ok_swept (by rfl)) SE.int))) (SAnd.cons (ST.cmp (by decide) cmp_in (SE.var ok_swept (by rfl)) (SE.var ok_swept (by rfl))) SAnd.nil))) (SS.cons (S1.assign ok_swept (by rfl) (.inl rfl) (SE.bin op_add (SE.var ok_swept (by rfl)) (SE.slice (SE.var ok_swept (by rfl)) (SE.var ok_swept (by rfl)) (SE.bin op_add (SE.var ok_swept (by rfl)) (SE.var ok_swept (by rfl)))))) (SS.cons (S1.assign ok_swept (by rfl) (.inl rfl) (SE.neg SE.int)) SS.nil)) (SS.cons (S1.ite (ST.cmp (by decide) cmp_ge (SE.var ok_swept (by rfl)) SE.int) (SS.cons (S1.setIdx ok_swept (by rfl) (SE.var ok_swept (by rfl)) (SE.bin op_sub (SE.idx (SE.var ok_swept (by rfl)) (SE.var ok_swept (by rfl))) (SE.var ok_swept (by rfl)))) (SS.cons (S1.assign ok_swept (by rfl) (.inl rfl) (SE.bin op_add (SE.var ok_swept (by rfl)) (SE.bin op_mul (SE.list (SEs.cons SE.int SEs.nil)) (SE.var ok_swept (by rfl))))) SS.nil)) (SS.cons (S1.assign ok_swept (by rfl) (.inl rfl) (SE.len ok_swept ev.gk (ev.at_ 0 (by rfl) (by rfl) (by decide)) (SE.var ok_swept (by rfl)))) (SS.cons (S1.assign ok_swept (by rfl) (.inl rfl) (SE.bin op_add (SE.bin op_add (SE.var ok_swept (by rfl)) (SE.list (SEs.cons (SE.neg (SE.var ok_swept (by rfl))) SEs.nil))) (SE.bin op_mul (SE.list (SEs.cons SE.int SEs.nil)) (SE.bin op_sub (SE.var ok_swept (by rfl)) SE.int)))) SS.nil))) SS.nil)) SS.nil)))) (SS.cons (S1.ret (SE.var ok_swept (by rfl))) SS.nil))))⟩
theorem rc_collected_by_sweeping : rc 9 ∈ recsOf pw := List.mem_of_getElem? (i := 8) (by rfl)
theorem ok_collected_by_sweeping {pm cd doc : Value} {L a : Addr} : FmOk (fm 9 ["mem", "roots"] pm cd doc L a) := FmOk.of (fnScope (st 9)) ["mem", "roots"] rfl rfl rfl rfl rfl (by decide) (by decide) (by decide)
theorem fn_collected_by_sweeping {g : Gl} (ev : Ev g) : FnOk g 4 "collected_by_sweeping" f_sweeping := by
  obtain ⟨a, o, pm, cd, doc, h1, h2, h3, h4⟩ := ev.fn _ rc_collected_by_sweeping
  exact ⟨a, o, _, h1, h2, h3, callOk_plain (d := 3) (ps := ["mem", "roots"]) (rest := []) ev.gk h2 h3 h4 rfl (fun vals h => by obtain ⟨v0, v1, rfl⟩ := len2 h; rfl) (show ∀ x ∈ (fnScope (st 9)).names, x.2 ≠ .cell by decide) (show ∀ x ∈ (["mem", "roots"] : List Str), (fnScope (st 9)).names.lookup x = some .local by decide) (by decide) fun L => (SS.cons (S1.ret (SE.call ok_collected_by_sweeping ev.gk ((fn_swept ev).le (by decide)) ⟨by rfl, by decide⟩ (SEs.cons (SE.var ok_collected_by_sweeping (by rfl)) (SEs.cons (SE.call ok_collected_by_sweeping ev.gk ((fn_reachable ev).le (by decide)) ⟨by rfl, by decide⟩ (SEs.cons (SE.var ok_collected_by_sweeping (by rfl)) (SEs.cons (SE.var ok_collected_by_sweeping (by rfl)) SEs.nil))) SEs.nil)))) SS.nil)⟩
theorem rc_forwarded : rc 10 ∈ recsOf pw := List.mem_of_getElem? (i := 9) (by rfl)
theorem ok_forwarded {pm cd doc : Value} {L a : Addr} : FmOk (fm 10 ["mem", "new", "forward", "top", "w", "a", "j"] pm cd doc L a) := FmOk.of (fnScope (st 10)) ["mem", "new", "forward", "top", "w", "a", "j"] rfl rfl rfl rfl rfl (by decide) (by decide) (by decide)
theorem fn_forwarded {g : Gl} (ev : Ev g) : FnOk g 3 "forwarded" f_forwarded := by
  obtain ⟨a, o, pm, cd, doc, h1, h2, h3, h4⟩ := ev.fn _ rc_forwarded
  exact ⟨a, o, _, h1, h2, h3, callOk_plain (d := 2) (ps := ["mem", "new", "forward", "top", "w"]) (rest := ["a", "j"]) ev.gk h2 h3 h4 rfl (fun vals h => by obtain ⟨v0, v1, v2, v3, v4, rfl⟩ := len5 h; rfl) (show ∀ x ∈ (fnScope (st 10)).names, x.2 ≠ .cell by decide) (show ∀ x ∈ (["mem", "new", "forward", "top", "w"] : List Str), (fnScope (st 10)).names.lookup x = some .local by decide) (by decide) fun L => (SS.cons (S1.assign ok_forwarded (by rfl) (.inl rfl) (SE.listOf ok_forwarded ev.gk (ev.at_ 3 (by rfl) (by rfl) (by decide)) (SE.var ok_forwarded (by rfl)))) (SS.cons (S1.assign ok_forwarded (by rfl) (.inl rfl) (SE.listOf ok_forwarded ev.gk (ev.at_ 3 (by rfl) (by rfl) (by decide)) (SE.var ok_forwarded (by rfl)))) (SS.cons (S1.ite (ST.not (ST.of (SE.call ok_forwarded ev.gk ((fn_is_pointer ev).le (by decide)) ⟨by rfl, by decide⟩ (SEs.cons (SE.var ok_forwarded (by rfl)) SEs.nil)))) (SS.cons (S1.ret (SE.tup (SEs.cons (SE.var ok_forwarded (by rfl)) (SEs.cons (SE.var ok_forwarded (by rfl)) (SEs.cons (SE.var ok_forwarded (by rfl)) (SEs.cons (SE.var ok_forwarded (by rfl)) SEs.nil)))))) SS.nil) SS.nil) (SS.cons (S1.assign ok_forwarded (by rfl) (.inl rfl) (SE.call ok_forwarded ev.gk ((fn_address_of ev).le (by decide)) ⟨by rfl, by decide⟩ (SEs.cons (SE.var ok_forwarded (by rfl)) SEs.nil))) (SS.cons (S1.ite (ST.cmp (by decide) cmp_lt (SE.idx (SE.var ok_forwarded (by rfl)) (SE.var ok_forwarded (by rfl))) SE.int) (SS.cons (S1.for_ (SSrc.range ok_forwarded ev.gk (ev.at_ 5 (by rfl) (by rfl) (by decide)) (SE.bin op_add (SE.idx (SE.var ok_forwarded (by rfl)) (SE.var ok_forwarded (by rfl))) SE.int)) (SAsg.name ok_forwarded (by rfl) (.inl rfl)) (fun _ _ _ _ => SLet.name) (SS.cons (S1.setIdx ok_forwarded (by rfl) (SE.bin op_add (SE.var ok_forwarded (by rfl)) (SE.var ok_forwarded (by rfl))) (SE.idx (SE.var ok_forwarded (by rfl)) (SE.bin op_add (SE.var ok_forwarded (by rfl)) (SE.var ok_forwarded (by rfl))))) SS.nil)) (SS.cons (S1.setIdx ok_forwarded (by rfl) (SE.var ok_forwarded (by rfl)) (SE.var ok_forwarded (by rfl))) (SS.cons (S1.assign ok_forwarded (by rfl) (.inl rfl) (SE.bin op_add (SE.bin op_add (SE.var ok_forwarded (by rfl)) (SE.idx (SE.var ok_forwarded (by rfl)) (SE.var ok_forwarded (by rfl)))) SE.int)) SS.nil))) SS.nil) (SS.cons (S1.ret (SE.tup (SEs.cons (SE.var ok_forwarded (by rfl)) (SEs.cons (SE.var ok_forwarded (by rfl)) (SEs.cons (SE.var ok_forwarded (by rfl)) (SEs.cons (SE.call ok_forwarded ev.gk ((fn_pointer_to ev).le (by decide)) ⟨by rfl, by decide⟩ (SEs.cons (SE.idx (SE.var ok_forwarded (by rfl)) (SE.var ok_forwarded (by rfl))) SEs.nil)) SEs.nil)))))) SS.nil))))))⟩
theorem rc_collected_by_copying : rc 11 ∈ recsOf pw := List.mem_of_getElem? (i := 10) (by rfl)
theorem ok_collected_by_copying {pm cd doc : Value} {L a : Addr} : FmOk (fm 11 ["mem", "roots", "size", "new", "forward", "top", "moved", "w", "step", "scan", "i"] pm cd doc L a) := FmOk.of (fnScope (st 11)) ["mem", "roots", "size", "new", "forward", "top", "moved", "w", "step", "scan", "i"] rfl rfl rfl rfl rfl (by decide) (by decide) (by decide)
theorem fn_collected_by_copying {g : Gl} (ev : Ev g) : FnOk g 4 "collected_by_copying" f_copying := by
  obtain ⟨a, o, pm, cd, doc, h1, h2, h3, h4⟩ := ev.fn _ rc_collected_by_copying
  exact ⟨a, o, _, h1, h2, h3, callOk_plain (d := 3) (ps := ["mem", "roots"]) (rest := ["size", "new", "forward", "top", "moved", "w", "step", "scan", "i"]) ev.gk h2 h3 h4 rfl (fun vals h => by obtain ⟨v0, v1, rfl⟩ := len2 h; rfl) (show ∀ x ∈ (fnScope (st 11)).names, x.2 ≠ .cell by decide) (show ∀ x ∈ (["mem", "roots"] : List Str), (fnScope (st 11)).names.lookup x = some .local by decide) (by decide) fun L => (SS.cons (S1.assign ok_collected_by_copying (by rfl) (.inl rfl) (SE.len ok_collected_by_copying ev.gk (ev.at_ 0 (by rfl) (by rfl) (by decide)) (SE.var ok_collected_by_copying (by rfl)))) (SS.cons (S1.assign ok_collected_by_copying (by rfl) (.inl rfl) (SE.bin op_mul (SE.list (SEs.cons SE.int SEs.nil)) (SE.var ok_collected_by_copying (by rfl)))) (SS.cons (S1.assign ok_collected_by_copying (by rfl) (.inl rfl) (SE.bin op_mul (SE.list (SEs.cons (SE.neg SE.int) SEs.nil)) (SE.var ok_collected_by_copying (by rfl)))) (SS.cons (S1.assign ok_collected_by_copying (by rfl) (.inl rfl) SE.int) (SS.cons (S1.assign ok_collected_by_copying (by rfl) (.inl rfl) (SE.list SEs.nil)) (SS.cons (S1.for_ (SSrc.list (SE.var ok_collected_by_copying (by rfl))) (SAsg.name ok_collected_by_copying (by rfl) (.inl rfl)) (fun _ _ _ _ => SLet.name) (SS.cons (S1.assign ok_collected_by_copying (by rfl) (.inl rfl) (SE.call ok_collected_by_copying ev.gk ((fn_forwarded ev).le (by decide)) ⟨by rfl, by decide⟩ (SEs.cons (SE.var ok_collected_by_copying (by rfl)) (SEs.cons (SE.var ok_collected_by_copying (by rfl)) (SEs.cons (SE.var ok_collected_by_copying (by rfl)) (SEs.cons (SE.var ok_collected_by_copying (by rfl)) (SEs.cons (SE.var ok_collected_by_copying (by rfl)) SEs.nil))))))) (SS.cons (S1.assign ok_collected_by_copying (by rfl) (.inl rfl) (SE.idx (SE.var ok_collected_by_copying (by rfl)) SE.int)) (SS.cons (S1.assign ok_collected_by_copying (by rfl) (.inl rfl) (SE.idx (SE.var ok_collected_by_copying (by rfl)) SE.int)) (SS.cons (S1.assign ok_collected_by_copying (by rfl) (.inl rfl) (SE.idx (SE.var ok_collected_by_copying (by rfl)) SE.int)) (SS.cons (S1.append ok_collected_by_copying (by rfl) (SE.idx (SE.var ok_collected_by_copying (by rfl)) SE.int) (by rfl)) SS.nil)))))) (SS.cons (S1.assign ok_collected_by_copying (by rfl) (.inl rfl) SE.int) (SS.cons (S1.while_ (ST.cmp (by decide) cmp_lt (SE.var ok_collected_by_copying (by rfl)) (SE.var ok_collected_by_copying (by rfl))) (SS.cons (S1.for_ (SSrc.range ok_collected_by_copying ev.gk (ev.at_ 5 (by rfl) (by rfl) (by decide)) (SE.idx (SE.var ok_collected_by_copying (by rfl)) (SE.var ok_collected_by_copying (by rfl)))) (SAsg.name ok_collected_by_copying (by rfl) (.inl rfl)) (fun _ _ _ _ => SLet.name) (SS.cons (S1.assign ok_collected_by_copying (by rfl) (.inl rfl) (SE.call ok_collected_by_copying ev.gk ((fn_forwarded ev).le (by decide)) ⟨by rfl, by decide⟩ (SEs.cons (SE.var ok_collected_by_copying (by rfl)) (SEs.cons (SE.var ok_collected_by_copying (by rfl)) (SEs.cons (SE.var ok_collected_by_copying (by rfl)) (SEs.cons (SE.var ok_collected_by_copying (by rfl)) (SEs.cons (SE.idx (SE.var ok_collected_by_copying (by rfl)) (SE.bin op_add (SE.bin op_add (SE.var ok_collected_by_copying (by rfl)) SE.int) (SE.var ok_collected_by_copying (by rfl)))) SEs.nil))))))) (SS.cons (S1.assign ok_collected_by_copying (by rfl) (.inl rfl) (SE.idx (SE.var ok_collected_by_copying (by rfl)) SE.int)) (SS.cons (S1.assign ok_collected_by_copying (by rfl) (.inl rfl) (SE.idx (SE.var ok_collected_by_copying (by rfl)) SE.int)) (SS.cons (S1.assign ok_collected_by_copying (by rfl) (.inl rfl) (SE.idx (SE.var ok_collected_by_copying (by rfl)) SE.int)) (SS.cons (S1.setIdx ok_collected_by_copying (by rfl) (SE.bin op_add (SE.bin op_add (SE.var ok_collected_by_copying (by rfl)) SE.int) (SE.var ok_collected_by_copying (by rfl))) (SE.idx (SE.var ok_collected_by_copying (by rfl)) SE.int)) SS.nil)))))) (SS.cons (S1.assign ok_collected_by_copying (by rfl) (.inl rfl) (SE.bin op_add (SE.bin op_add (SE.var ok_collected_by_copying (by rfl)) (SE.idx (SE.var ok_collected_by_copying (by rfl)) (SE.var ok_collected_by_copying (by rfl)))) SE.int)) SS.nil))) (SS.cons (S1.ite (ST.cmp (by decide) cmp_lt (SE.var ok_collected_by_copying (by rfl)) (SE.var ok_collected_by_copying (by rfl))) (SS.cons (S1.setIdx ok_collected_by_copying (by rfl) (SE.var ok_collected_by_copying (by rfl)) (SE.bin op_sub (SE.var ok_collected_by_copying (by rfl)) (SE.var ok_collected_by_copying (by rfl)))) SS.nil) SS.nil) (SS.cons (S1.ret (SE.tup (SEs.cons (SE.var ok_collected_by_copying (by rfl)) (SEs.cons (SE.var ok_collected_by_copying (by rfl)) SEs.nil)))) SS.nil))))))))))⟩
theorem rc__law_gap : rc 14 ∈ recsOf pw := List.mem_of_getElem? (i := 11) (by rfl)
theorem ok__law_gap {pm cd doc : Value} {L a : Addr} : FmOk (fm 14 ["n"] pm cd doc L a) := FmOk.of (fnScope (st 14)) ["n"] rfl rfl rfl rfl rfl (by decide) (by decide) (by decide)
theorem fn__law_gap {g : Gl} (ev : Ev g) : FnOk g 2 "_law_gap" f_gap := by
  obtain ⟨a, o, pm, cd, doc, h1, h2, h3, h4⟩ := ev.fn _ rc__law_gap
  exact ⟨a, o, _, h1, h2, h3, callOk_plain (d := 1) (ps := ["n"]) (rest := []) ev.gk h2 h3 h4 rfl (fun vals h => by obtain ⟨v0, rfl⟩ := len1 h; rfl) (show ∀ x ∈ (fnScope (st 14)).names, x.2 ≠ .cell by decide) (show ∀ x ∈ (["n"] : List Str), (fnScope (st 14)).names.lookup x = some .local by decide) (by decide) fun L => (SS.cons (S1.ite (ST.cmp (by decide) cmp_eq (SE.var ok__law_gap (by rfl)) SE.int) (SS.cons (S1.ret (SE.list SEs.nil)) SS.nil) SS.nil) (SS.cons (S1.ret (SE.bin op_add (SE.list (SEs.cons (SE.neg (SE.var ok__law_gap (by rfl))) SEs.nil)) (SE.bin op_mul (SE.list (SEs.cons SE.int SEs.nil)) (SE.bin op_sub (SE.var ok__law_gap (by rfl)) SE.int)))) SS.nil))⟩
theorem rc__law_heads : rc 15 ∈ recsOf pw := List.mem_of_getElem? (i := 12) (by rfl)
theorem ok__law_heads {pm cd doc : Value} {L a : Addr} : FmOk (fm 15 ["sizes", "gaps", "heads", "at", "i"] pm cd doc L a) := FmOk.of (fnScope (st 15)) ["sizes", "gaps", "heads", "at", "i"] rfl rfl rfl rfl rfl (by decide) (by decide) (by decide)
theorem fn__law_heads {g : Gl} (ev : Ev g) : FnOk g 2 "_law_heads" f_heads := by
  obtain ⟨a, o, pm, cd, doc, h1, h2, h3, h4⟩ := ev.fn _ rc__law_heads
  exact ⟨a, o, _, h1, h2, h3, callOk_plain (d := 1) (ps := ["sizes", "gaps"]) (rest := ["heads", "at", "i"]) ev.gk h2 h3 h4 rfl (fun vals h => by obtain ⟨v0, v1, rfl⟩ := len2 h; rfl) (show ∀ x ∈ (fnScope (st 15)).names, x.2 ≠ .cell by decide) (show ∀ x ∈ (["sizes", "gaps"] : List Str), (fnScope (st 15)).names.lookup x = some .local by decide) (by decide) fun L => (SS.cons (S1.assign ok__law_heads (by rfl) (.inl rfl) (SE.list SEs.nil)) (SS.cons (S1.assign ok__law_heads (by rfl) (.inl rfl) SE.int) (SS.cons (S1.for_ (SSrc.range ok__law_heads ev.gk (ev.at_ 5 (by rfl) (by rfl) (by decide)) SE.int) (SAsg.name ok__law_heads (by rfl) (.inl rfl)) (fun _ _ _ _ => SLet.name) (SS.cons (S1.append ok__law_heads (by rfl) (SE.bin op_add (SE.var ok__law_heads (by rfl)) (SE.idx (SE.var ok__law_heads (by rfl)) (SE.var ok__law_heads (by rfl)))) (by rfl)) (SS.cons (S1.assign ok__law_heads (by rfl) (.inl rfl) (SE.bin op_add (SE.bin op_add (SE.bin op_add (SE.var ok__law_heads (by rfl)) (SE.idx (SE.var ok__law_heads (by rfl)) (SE.var ok__law_heads (by rfl)))) (SE.idx (SE.var ok__law_heads (by rfl)) (SE.var ok__law_heads (by rfl)))) SE.int)) SS.nil))) (SS.cons (S1.ret (SE.bin op_add (SE.var ok__law_heads (by rfl)) (SE.list (SEs.cons (SE.bin op_add (SE.var ok__law_heads (by rfl)) (SE.idx (SE.var ok__law_heads (by rfl)) SE.int)) SEs.nil)))) SS.nil))))⟩
theorem rc__law_words : rc 16 ∈ recsOf pw := List.mem_of_getElem? (i := 13) (by rfl)
theorem ok__law_words {pm cd doc : Value} {L a : Addr} : FmOk (fm 16 ["cells", "heads", "words", "c"] pm cd doc L a) := FmOk.of (fnScope (st 16)) ["cells", "heads", "words", "c"] rfl rfl rfl rfl rfl (by decide) (by decide) (by decide)
theorem fn__law_words {g : Gl} (ev : Ev g) : FnOk g 2 "_law_words" f_words := by
  obtain ⟨a, o, pm, cd, doc, h1, h2, h3, h4⟩ := ev.fn _ rc__law_words
  exact ⟨a, o, _, h1, h2, h3, callOk_plain (d := 1) (ps := ["cells", "heads"]) (rest := ["words", "c"]) ev.gk h2 h3 h4 rfl (fun vals h => by obtain ⟨v0, v1, rfl⟩ := len2 h; rfl) (show ∀ x ∈ (fnScope (st 16)).names, x.2 ≠ .cell by decide) (show ∀ x ∈ (["cells", "heads"] : List Str), (fnScope (st 16)).names.lookup x = some .local by decide) (by decide) fun L => (SS.cons (S1.assign ok__law_words (by rfl) (.inl rfl) (SE.list SEs.nil)) (SS.cons (S1.for_ (SSrc.list (SE.var ok__law_words (by rfl))) (SAsg.name ok__law_words (by rfl) (.inl rfl)) (fun _ _ _ _ => SLet.name) (SS.cons (S1.ite (ST.cmp (by decide) cmp_eq (SE.bin op_mod (SE.var ok__law_words (by rfl)) SE.int) SE.int) (SS.cons (S1.append ok__law_words (by rfl) (SE.bin op_mul SE.int (SE.abs ok__law_words ev.gk (ev.at_ 1 (by rfl) (by rfl) (by decide)) (SE.var ok__law_words (by rfl)))) (by rfl)) SS.nil) (SS.cons (S1.append ok__law_words (by rfl) (SE.bin op_add (SE.bin op_mul SE.int (SE.idx (SE.var ok__law_words (by rfl)) (SE.bin op_mod (SE.var ok__law_words (by rfl)) SE.int))) SE.int) (by rfl)) SS.nil)) SS.nil)) (SS.cons (S1.ret (SE.var ok__law_words (by rfl))) SS.nil)))⟩
theorem rc__law_order : rc 17 ∈ recsOf pw := List.mem_of_getElem? (i := 14) (by rfl)
theorem ok__law_order {pm cd doc : Value} {L a : Addr} : FmOk (fm 17 ["table", "roots", "words", "met", "i"] pm cd doc L a) := FmOk.of (fnScope (st 17)) ["table", "roots", "words", "met", "i"] rfl rfl rfl rfl rfl (by decide) (by decide) (by decide)
theorem fn__law_order {g : Gl} (ev : Ev g) : FnOk g 2 "_law_order" f_order := by
  obtain ⟨a, o, pm, cd, doc, h1, h2, h3, h4⟩ := ev.fn _ rc__law_order
  exact ⟨a, o, _, h1, h2, h3, callOk_plain (d := 1) (ps := ["table", "roots"]) (rest := ["words", "met", "i"]) ev.gk h2 h3 h4 rfl (fun vals h => by obtain ⟨v0, v1, rfl⟩ := len2 h; rfl) (show ∀ x ∈ (fnScope (st 17)).names, x.2 ≠ .cell by decide) (show ∀ x ∈ (["table", "roots"] : List Str), (fnScope (st 17)).names.lookup x = some .local by decide) (by decide) fun L => (SS.cons (S1.assign ok__law_order (by rfl) (.inl rfl) (SE.listOf ok__law_order ev.gk (ev.at_ 3 (by rfl) (by rfl) (by decide)) (SE.var ok__law_order (by rfl)))) (SS.cons (S1.assign ok__law_order (by rfl) (.inl rfl) (SE.list SEs.nil)) (SS.cons (S1.for_ (SSrc.range ok__law_order ev.gk (ev.at_ 5 (by rfl) (by rfl) (by decide)) SE.int) (SAsg.name ok__law_order (by rfl) (.inl rfl)) (fun _ _ _ _ => SLet.name) (SS.cons (S1.ite (ST.and (SAnd.cons (ST.cmp (by decide) cmp_lt (SE.var ok__law_order (by rfl)) (SE.len ok__law_order ev.gk (ev.at_ 0 (by rfl) (by rfl) (by decide)) (SE.var ok__law_order (by rfl)))) (SAnd.cons (ST.cmp (by decide) cmp_in (SE.idx (SE.var ok__law_order (by rfl)) (SE.var ok__law_order (by rfl))) (SE.var ok__law_order (by rfl))) (SAnd.cons (ST.cmp (by decide) cmp_notIn (SE.idx (SE.var ok__law_order (by rfl)) (SE.var ok__law_order (by rfl))) (SE.var ok__law_order (by rfl))) SAnd.nil)))) (SS.cons (S1.append ok__law_order (by rfl) (SE.idx (SE.var ok__law_order (by rfl)) (SE.var ok__law_order (by rfl))) (by rfl)) (SS.cons (S1.assign ok__law_order (by rfl) (.inl rfl) (SE.bin op_add (SE.var ok__law_order (by rfl)) (SE.idx (SE.var ok__law_order (by rfl)) (SE.idx (SE.var ok__law_order (by rfl)) (SE.var ok__law_order (by rfl)))))) SS.nil)) SS.nil) SS.nil)) (SS.cons (S1.ret (SE.var ok__law_order (by rfl))) SS.nil))))⟩
theorem rc__law_heap : rc 18 ∈ recsOf pw := List.mem_of_getElem? (i := 15) (by rfl)
theorem ok__law_heap {pm cd doc : Value} {L a : Addr} : FmOk (fm 18 ["table", "keep", "size", "mem", "p"] pm cd doc L a) := FmOk.of (fnScope (st 18)) ["table", "keep", "size", "mem", "p"] rfl rfl rfl rfl rfl (by decide) (by decide) (by decide)
theorem fn__law_heap {g : Gl} (ev : Ev g) : FnOk g 3 "_law_heap" f_heap := by
  obtain ⟨a, o, pm, cd, doc, h1, h2, h3, h4⟩ := ev.fn _ rc__law_heap
  exact ⟨a, o, _, h1, h2, h3, callOk_plain (d := 2) (ps := ["table", "keep", "size"]) (rest := ["mem", "p"]) ev.gk h2 h3 h4 rfl (fun vals h => by obtain ⟨v0, v1, v2, rfl⟩ := len3 h; rfl) (show ∀ x ∈ (fnScope (st 18)).names, x.2 ≠ .cell by decide) (show ∀ x ∈ (["table", "keep", "size"] : List Str), (fnScope (st 18)).names.lookup x = some .local by decide) (by decide) fun L => (SS.cons (S1.assign ok__law_heap (by rfl) (.inl rfl) (SE.list SEs.nil)) (SS.cons (S1.for_ (SSrc.list (SE.sorted ok__law_heap ev.gk (ev.at_ 2 (by rfl) (by rfl) (by decide)) (SE.var ok__law_heap (by rfl)))) (SAsg.name ok__law_heap (by rfl) (.inl rfl)) (fun _ _ _ _ => SLet.name) (SS.cons (S1.ite (ST.cmp (by decide) cmp_in (SE.var ok__law_heap (by rfl)) (SE.var ok__law_heap (by rfl))) (SS.cons (S1.assign ok__law_heap (by rfl) (.inl rfl) (SE.bin op_add (SE.bin op_add (SE.bin op_add (SE.var ok__law_heap (by rfl)) (SE.call ok__law_heap ev.gk ((fn__law_gap ev).le (by decide)) ⟨by rfl, by decide⟩ (SEs.cons (SE.bin op_sub (SE.bin op_div (SE.var ok__law_heap (by rfl)) SE.int) (SE.len ok__law_heap ev.gk (ev.at_ 0 (by rfl) (by rfl) (by decide)) (SE.var ok__law_heap (by rfl)))) SEs.nil))) (SE.list (SEs.cons (SE.len ok__law_heap ev.gk (ev.at_ 0 (by rfl) (by rfl) (by decide)) (SE.idx (SE.var ok__law_heap (by rfl)) (SE.var ok__law_heap (by rfl)))) SEs.nil))) (SE.idx (SE.var ok__law_heap (by rfl)) (SE.var ok__law_heap (by rfl))))) SS.nil) SS.nil) SS.nil)) (SS.cons (S1.ret (SE.bin op_add (SE.var ok__law_heap (by rfl)) (SE.call ok__law_heap ev.gk ((fn__law_gap ev).le (by decide)) ⟨by rfl, by decide⟩ (SEs.cons (SE.bin op_sub (SE.var ok__law_heap (by rfl)) (SE.len ok__law_heap ev.gk (ev.at_ 0 (by rfl) (by rfl) (by decide)) (SE.var ok__law_heap (by rfl)))) SEs.nil)))) SS.nil)))⟩
theorem rc__law_packed : rc 19 ∈ recsOf pw := List.mem_of_getElem? (i := 16) (by rfl)
theorem ok__law_packed {pm cd doc : Value} {L a : Addr} : FmOk (fmc 19 ["table", "roots", "size", "order", "pairs", "at", "p", "place", "mem"] ["place"] pm cd doc L a) := FmOk.of (fnScope (st 19)) ["table", "roots", "size", "order", "pairs", "at", "p", "place", "mem"] rfl rfl rfl rfl rfl (by decide) (by decide) (by decide)
theorem fn__law_packed {g : Gl} (ev : Ev g) : FnOk g 3 "_law_packed" f_packed := by
  obtain ⟨a, o, pm, cd, doc, h1, h2, h3, h4⟩ := ev.fn _ rc__law_packed
  exact ⟨a, o, _, h1, h2, h3, callOk_cells (d := 2) (ps := ["table", "roots", "size"]) (rest := ["order", "pairs", "at", "p", "place", "mem"]) (own := ["place"]) ev.gk h2 h3 h4 rfl rfl (fun vals h => by obtain ⟨v0, v1, v2, rfl⟩ := len3 h; rfl) (show ∀ x ∈ (["table", "roots", "size"] : List Str), (fnScope (st 19)).names.lookup x = some .local by decide) (fun n => (all_cons (by rfl) all_nil)) (by decide) fun L => (SS.cons (S1.assign ok__law_packed (by rfl) (.inl rfl) (SE.call ok__law_packed ev.gk ((fn__law_order ev).le (by decide)) ⟨by rfl, by decide⟩ (SEs.cons (SE.var ok__law_packed (by rfl)) (SEs.cons (SE.var ok__law_packed (by rfl)) SEs.nil)))) (SS.cons (S1.assign ok__law_packed (by rfl) (.inl rfl) (SE.list SEs.nil)) (SS.cons (S1.assign ok__law_packed (by rfl) (.inl rfl) SE.int) (SS.cons (S1.for_ (SSrc.list (SE.var ok__law_packed (by rfl))) (SAsg.name ok__law_packed (by rfl) (.inl rfl)) (fun _ _ _ _ => SLet.name) (SS.cons (S1.append ok__law_packed (by rfl) (SE.tup (SEs.cons (SE.var ok__law_packed (by rfl)) (SEs.cons (SE.bin op_add (SE.bin op_mul SE.int (SE.var ok__law_packed (by rfl))) SE.int) SEs.nil))) (by rfl)) (SS.cons (S1.assign ok__law_packed (by rfl) (.inl rfl) (SE.bin op_add (SE.bin op_add (SE.var ok__law_packed (by rfl)) (SE.len ok__law_packed ev.gk (ev.at_ 0 (by rfl) (by rfl) (by decide)) (SE.idx (SE.var ok__law_packed (by rfl)) (SE.var ok__law_packed (by rfl))))) SE.int)) SS.nil))) (SS.cons (S1.assign ok__law_packed (by rfl) (.inr ⟨by rfl, List.mem_of_getElem? (i := 0) (by rfl)⟩) (SE.dictOf ok__law_packed ev.gk (ev.at_ 4 (by rfl) (by rfl) (by decide)) (SE.var ok__law_packed (by rfl)))) (SS.cons (S1.assign ok__law_packed (by rfl) (.inl rfl) (SE.list SEs.nil)) (SS.cons (S1.for_ (SSrc.list (SE.var ok__law_packed (by rfl))) (SAsg.name ok__law_packed (by rfl) (.inl rfl)) (fun _ _ _ _ => SLet.name) (SS.cons (S1.assign ok__law_packed (by rfl) (.inl rfl) (SE.bin op_add (SE.bin op_add (SE.var ok__law_packed (by rfl)) (SE.list (SEs.cons (SE.len ok__law_packed ev.gk (ev.at_ 0 (by rfl) (by rfl) (by decide)) (SE.idx (SE.var ok__law_packed (by rfl)) (SE.var ok__law_packed (by rfl)))) SEs.nil))) (SE.comp' ["place"] ⟨(fun C => FmOk.of _ ["w", "place"] rfl rfl rfl rfl rfl (by decide) (by decide) (all_cons (.inl rfl) (all_cons (.inr (.inl rfl)) all_nil))), (Caps.cons (by rfl) (by rfl) (by rfl) (by rfl) (by rfl) Caps.nil), by rfl, by decide, by rfl, by decide⟩ (by rfl) (SSrc.list (SE.idx (SE.var ok__law_packed (by rfl)) (SE.var ok__law_packed (by rfl)))) sList_big (fun C okB => STests.nil) (fun C okB => (SE.get okB (SE.var okB (by rfl)) (SE.var okB (by rfl)) (SE.var okB (by rfl)) (by rfl)))))) SS.nil)) (SS.cons (S1.ret (SE.tup (SEs.cons (SE.bin op_add (SE.var ok__law_packed (by rfl)) (SE.call ok__law_packed ev.gk ((fn__law_gap ev).le (by decide)) ⟨by rfl, by decide⟩ (SEs.cons (SE.bin op_sub (SE.var ok__law_packed (by rfl)) (SE.var ok__law_packed (by rfl))) SEs.nil))) (SEs.cons (SE.comp' ["place"] ⟨(fun C => FmOk.of _ ["w", "place"] rfl rfl rfl rfl rfl (by decide) (by decide) (all_cons (.inl rfl) (all_cons (.inr (.inl rfl)) all_nil))), (Caps.cons (by rfl) (by rfl) (by rfl) (by rfl) (by rfl) Caps.nil), by rfl, by decide, by rfl, by decide⟩ (by rfl) (SSrc.list (SE.var ok__law_packed (by rfl))) sList_big (fun C okB => STests.nil) (fun C okB => (SE.get okB (SE.var okB (by rfl)) (SE.var okB (by rfl)) (SE.var okB (by rfl)) (by rfl)))) SEs.nil)))) SS.nil))))))))⟩
theorem rc__law_write : rc 20 ∈ recsOf pw := List.mem_of_getElem? (i := 17) (by rfl)
theorem ok__law_write {pm cd doc : Value} {L a : Addr} : FmOk (fm 20 ["table", "spot", "w", "row"] pm cd doc L a) := FmOk.of (fnScope (st 20)) ["table", "spot", "w", "row"] rfl rfl rfl rfl rfl (by decide) (by decide) (by decide)
theorem fn__law_write {g : Gl} (ev : Ev g) : FnOk g 2 "_law_write" f_write := by
  obtain ⟨a, o, pm, cd, doc, h1, h2, h3, h4⟩ := ev.fn _ rc__law_write
  exact ⟨a, o, _, h1, h2, h3, callOk_plain (d := 1) (ps := ["table", "spot", "w"]) (rest := ["row"]) ev.gk h2 h3 h4 rfl (fun vals h => by obtain ⟨v0, v1, v2, rfl⟩ := len3 h; rfl) (show ∀ x ∈ (fnScope (st 20)).names, x.2 ≠ .cell by decide) (show ∀ x ∈ (["table", "spot", "w"] : List Str), (fnScope (st 20)).names.lookup x = some .local by decide) (by decide) fun L => (SS.cons (S1.assign ok__law_write (by rfl) (.inl rfl) (SE.idx (SE.var ok__law_write (by rfl)) (SE.idx (SE.var ok__law_write (by rfl)) SE.int))) (SS.cons (S1.ret (SE.dictOf ok__law_write ev.gk (ev.at_ 4 (by rfl) (by rfl) (by decide)) (SE.bin op_add (SE.items ok__law_write ev.gk (ev.at_ 3 (by rfl) (by rfl) (by decide)) (SE.var ok__law_write (by rfl)) (by rfl)) (SE.list (SEs.cons (SE.tup (SEs.cons (SE.idx (SE.var ok__law_write (by rfl)) SE.int) (SEs.cons (SE.bin op_add (SE.bin op_add (SE.slice (SE.var ok__law_write (by rfl)) trivial (SE.idx (SE.var ok__law_write (by rfl)) SE.int)) (SE.list (SEs.cons (SE.var ok__law_write (by rfl)) SEs.nil))) (SE.slice (SE.var ok__law_write (by rfl)) (SE.bin op_add (SE.idx (SE.var ok__law_write (by rfl)) SE.int) SE.int) trivial)) SEs.nil))) SEs.nil))))) SS.nil))⟩
end Mine

/-! ## part E2 -/
set_option maxRecDepth 4000
set_option linter.unusedVariables false
namespace Mine
open PySem PySem.Calls PyProof.Rows PySem.SeqAt
theorem rc_law : rc 21 ∈ recsOf pw := List.mem_of_getElem? (i := 18) (by rfl)
abbrev lawNames : List Str := ("script" : Str) :: ("sizes" : Str) :: ("heads" : Str) :: ("size" : Str) :: ("words" : Str) :: ("table" : Str) :: ("wide" : Str) :: ("picks" : Str) :: ("narrow" : Str) :: ("mem" : Str) :: ("live" : Str) :: ("want" : Str) :: ("once" : Str) :: ("loose" : Str) :: ("left" : Str) :: ("right" : Str) :: ("one" : Str) :: ("two" : Str) :: ("both" : Str) :: ("far" : Str) :: ("near" : Str) :: ("tight" : Str) :: ("heap" : Str) :: ("held" : Str) :: ("blank" : Str) :: ("unmoved" : Str) :: ("step" : Str) :: ("spots" : Str) :: ("s" : Str) :: ("t" : Str) :: ("w" : Str) :: ("x" : Str) :: ("st" : Str) :: ("ts" : Str) :: ("keep" : Str) :: ("a" : Str) :: ("b" : Str) :: ("h" : Str) :: []
abbrev lawOwn : List Str := ["heads", "words", "sizes", "wide", "two", "far", "table"]
abbrev lawI : Nat := 21
abbrev lawD : Nat := 4
theorem ok_law {pm cd doc : Value} {L a : Addr} : FmOk (fmc lawI lawNames lawOwn pm cd doc L a) := FmOk.of (fnScope (st lawI)) lawNames rfl rfl rfl rfl rfl (by decide +kernel) (by decide +kernel) (by decide +kernel)
theorem s1_law_0 {g : Gl} (ev : Ev g) {pm cd doc : Value} {L a : Addr} : S1 g lawD (fmc lawI lawNames lawOwn pm cd doc L a) (nth (fnBody (st lawI)) 0) b_law_0 := S1.ite (ST.cmp (by decide) cmp_lt (SE.len ok_law ev.gk (ev.at_ 0 (by rfl) (by rfl) (by decide)) (SE.var ok_law (by rfl))) SE.int) (SS.cons (S1.ret SE.bool) SS.nil) SS.nil
theorem s1_law_1 {g : Gl} (ev : Ev g) {pm cd doc : Value} {L a : Addr} : S1 g lawD (fmc lawI lawNames lawOwn pm cd doc L a) (nth (fnBody (st lawI)) 1) b_law_1 := S1.assign ok_law (by rfl) (.inr ⟨by rfl, List.mem_of_getElem? (i := 2) (by rfl)⟩) (SE.list (SEs.cons (SE.bin op_mod (SE.idx (SE.var ok_law (by rfl)) SE.int) SE.int) (SEs.cons (SE.bin op_mod (SE.idx (SE.var ok_law (by rfl)) SE.int) SE.int) (SEs.cons (SE.bin op_mod (SE.idx (SE.var ok_law (by rfl)) SE.int) SE.int) (SEs.cons (SE.bin op_mod (SE.idx (SE.var ok_law (by rfl)) SE.int) SE.int) SEs.nil)))))
theorem s1_law_3 {g : Gl} (ev : Ev g) {pm cd doc : Value} {L a : Addr} : S1 g lawD (fmc lawI lawNames lawOwn pm cd doc L a) (nth (fnBody (st lawI)) 3) b_law_3 := S1.assign ok_law (by rfl) (.inl rfl) (SE.idx (SE.var ok_law (by rfl)) SE.int)
theorem s1_law_4 {g : Gl} (ev : Ev g) {pm cd doc : Value} {L a : Addr} : S1 g lawD (fmc lawI lawNames lawOwn pm cd doc L a) (nth (fnBody (st lawI)) 4) b_law_4 := S1.assign ok_law (by rfl) (.inr ⟨by rfl, List.mem_of_getElem? (i := 1) (by rfl)⟩) (SE.call ok_law ev.gk ((fn__law_words ev).le (by decide)) ⟨by rfl, by decide⟩ (SEs.cons (SE.list (SEs.cons (SE.idx (SE.var ok_law (by rfl)) SE.int) (SEs.cons (SE.idx (SE.var ok_law (by rfl)) SE.int) (SEs.cons (SE.idx (SE.var ok_law (by rfl)) SE.int) (SEs.cons (SE.idx (SE.var ok_law (by rfl)) SE.int) (SEs.cons (SE.idx (SE.var ok_law (by rfl)) SE.int) (SEs.cons (SE.idx (SE.var ok_law (by rfl)) SE.int) (SEs.cons (SE.idx (SE.var ok_law (by rfl)) SE.int) (SEs.cons (SE.idx (SE.var ok_law (by rfl)) SE.int) (SEs.cons (SE.idx (SE.var ok_law (by rfl)) SE.int) (SEs.cons (SE.idx (SE.var ok_law (by rfl)) SE.int) (SEs.cons (SE.idx (SE.var ok_law (by rfl)) SE.int) SEs.nil)))))))))))) (SEs.cons (SE.var ok_law (by rfl)) SEs.nil)))
theorem s1_law_5 {g : Gl} (ev : Ev g) {pm cd doc : Value} {L a : Addr} : S1 g lawD (fmc lawI lawNames lawOwn pm cd doc L a) (nth (fnBody (st lawI)) 5) b_law_5 := S1.assign ok_law (by rfl) (.inr ⟨by rfl, List.mem_of_getElem? (i := 6) (by rfl)⟩) (SE.dictOf ok_law ev.gk (ev.at_ 4 (by rfl) (by rfl) (by decide)) (SE.comp' ["heads", "words", "sizes"] ⟨(fun C => FmOk.of _ ["i", "heads", "words", "sizes"] rfl rfl rfl rfl rfl (by decide) (by decide) (all_cons (.inl rfl) (all_cons (.inr (.inl rfl)) (all_cons (.inr (.inl rfl)) (all_cons (.inr (.inl rfl)) all_nil))))), (Caps.cons (by rfl) (by rfl) (by rfl) (by rfl) (by rfl) (Caps.cons (by rfl) (by rfl) (by rfl) (by rfl) (by rfl) (Caps.cons (by rfl) (by rfl) (by rfl) (by rfl) (by rfl) Caps.nil))), by rfl, by decide, by rfl, by decide⟩ (by rfl) (SSrc.range ok_law ev.gk (ev.at_ 5 (by rfl) (by rfl) (by decide)) SE.int) sRange_big (fun C okB => STests.nil) (fun C okB => (SE.tup (SEs.cons (SE.bin op_add (SE.bin op_mul SE.int (SE.idx (SE.var okB (by rfl)) (SE.var okB (by rfl)))) SE.int) (SEs.cons (SE.slice (SE.var okB (by rfl)) (SE.bin op_mul SE.int (SE.var okB (by rfl))) (SE.bin op_add (SE.bin op_mul SE.int (SE.var okB (by rfl))) (SE.idx (SE.var okB (by rfl)) (SE.var okB (by rfl))))) SEs.nil))))))
theorem s1_law_6 {g : Gl} (ev : Ev g) {pm cd doc : Value} {L a : Addr} : S1 g lawD (fmc lawI lawNames lawOwn pm cd doc L a) (nth (fnBody (st lawI)) 6) b_law_6 := S1.assign ok_law (by rfl) (.inr ⟨by rfl, List.mem_of_getElem? (i := 3) (by rfl)⟩) (SE.slice (SE.var ok_law (by rfl)) SE.int trivial)
theorem s1_law_7 {g : Gl} (ev : Ev g) {pm cd doc : Value} {L a : Addr} : S1 g lawD (fmc lawI lawNames lawOwn pm cd doc L a) (nth (fnBody (st lawI)) 7) b_law_7 := S1.assignComp' ok_law [] (by rfl) (.inl rfl) ⟨(fun C => FmOk.of _ ["p"] rfl rfl rfl rfl rfl (by decide) (by decide) (all_cons (.inl rfl) all_nil)), Caps.nil, by rfl, by decide, by rfl, by decide⟩ (by rfl) (SSrc.list (SE.list (SEs.cons (SE.bin op_mod (SE.idx (SE.var ok_law (by rfl)) SE.int) SE.int) (SEs.cons (SE.bin op_mod (SE.idx (SE.var ok_law (by rfl)) SE.int) SE.int) (SEs.cons (SE.bin op_mod (SE.idx (SE.var ok_law (by rfl)) SE.int) SE.int) SEs.nil))))) sList_big (fun C okB => STests.one (ST.cmp (by decide) cmp_lt (SE.var okB (by rfl)) SE.int)) (fun C okB => (SE.var okB (by rfl)))
theorem s1_law_8 {g : Gl} (ev : Ev g) {pm cd doc : Value} {L a : Addr} : S1 g lawD (fmc lawI lawNames lawOwn pm cd doc L a) (nth (fnBody (st lawI)) 8) b_law_8 := S1.assignComp' ok_law ["wide"] (by rfl) (.inl rfl) ⟨(fun C => FmOk.of _ ["p", "wide"] rfl rfl rfl rfl rfl (by decide) (by decide) (all_cons (.inl rfl) (all_cons (.inr (.inl rfl)) all_nil))), (Caps.cons (by rfl) (by rfl) (by rfl) (by rfl) (by rfl) Caps.nil), by rfl, by decide, by rfl, by decide⟩ (by rfl) (SSrc.list (SE.var ok_law (by rfl))) sList_big (fun C okB => STests.nil) (fun C okB => (SE.idx (SE.var okB (by rfl)) (SE.var okB (by rfl))))
theorem s1_law_9 {g : Gl} (ev : Ev g) {pm cd doc : Value} {L a : Addr} : S1 g lawD (fmc lawI lawNames lawOwn pm cd doc L a) (nth (fnBody (st lawI)) 9) b_law_9 := S1.assign ok_law (by rfl) (.inl rfl) (SE.call ok_law ev.gk ((fn__law_heap ev).le (by decide)) ⟨by rfl, by decide⟩ (SEs.cons (SE.var ok_law (by rfl)) (SEs.cons (SE.var ok_law (by rfl)) (SEs.cons (SE.var ok_law (by rfl)) SEs.nil))))
theorem s1_law_10 {g : Gl} (ev : Ev g) {pm cd doc : Value} {L a : Addr} : S1 g lawD (fmc lawI lawNames lawOwn pm cd doc L a) (nth (fnBody (st lawI)) 10) b_law_10 := S1.assign ok_law (by rfl) (.inl rfl) (SE.call ok_law ev.gk ((fn__law_order ev).le (by decide)) ⟨by rfl, by decide⟩ (SEs.cons (SE.var ok_law (by rfl)) (SEs.cons (SE.var ok_law (by rfl)) SEs.nil)))
theorem s1_law_11 {g : Gl} (ev : Ev g) {pm cd doc : Value} {L a : Addr} : S1 g lawD (fmc lawI lawNames lawOwn pm cd doc L a) (nth (fnBody (st lawI)) 11) b_law_11 := S1.assign ok_law (by rfl) (.inl rfl) (SE.call ok_law ev.gk ((fn__law_heap ev).le (by decide)) ⟨by rfl, by decide⟩ (SEs.cons (SE.var ok_law (by rfl)) (SEs.cons (SE.call ok_law ev.gk ((fn__law_order ev).le (by decide)) ⟨by rfl, by decide⟩ (SEs.cons (SE.var ok_law (by rfl)) (SEs.cons (SE.var ok_law (by rfl)) SEs.nil))) (SEs.cons (SE.var ok_law (by rfl)) SEs.nil))))
theorem s1_law_12 {g : Gl} (ev : Ev g) {pm cd doc : Value} {L a : Addr} : S1 g lawD (fmc lawI lawNames lawOwn pm cd doc L a) (nth (fnBody (st lawI)) 12) b_law_12 := S1.assign ok_law (by rfl) (.inl rfl) (SE.call ok_law ev.gk ((fn_collected_by_sweeping ev).le (by decide)) ⟨by rfl, by decide⟩ (SEs.cons (SE.var ok_law (by rfl)) (SEs.cons (SE.var ok_law (by rfl)) SEs.nil)))
theorem s1_law_13 {g : Gl} (ev : Ev g) {pm cd doc : Value} {L a : Addr} : S1 g lawD (fmc lawI lawNames lawOwn pm cd doc L a) (nth (fnBody (st lawI)) 13) b_law_13 := S1.assign ok_law (by rfl) (.inl rfl) (SE.call ok_law ev.gk ((fn_collected_by_sweeping ev).le (by decide)) ⟨by rfl, by decide⟩ (SEs.cons (SE.var ok_law (by rfl)) (SEs.cons (SE.var ok_law (by rfl)) SEs.nil)))
theorem s1_law_14 {g : Gl} (ev : Ev g) {pm cd doc : Value} {L a : Addr} : S1 g lawD (fmc lawI lawNames lawOwn pm cd doc L a) (nth (fnBody (st lawI)) 14) b_law_14 := S1.ite (ST.cmp (by decide) cmp_ne (SE.list (SEs.cons (SE.var ok_law (by rfl)) (SEs.cons (SE.var ok_law (by rfl)) (SEs.cons (SE.call ok_law ev.gk ((fn_collected_by_sweeping ev).le (by decide)) ⟨by rfl, by decide⟩ (SEs.cons (SE.var ok_law (by rfl)) (SEs.cons (SE.var ok_law (by rfl)) SEs.nil))) SEs.nil)))) (SE.list (SEs.cons (SE.call ok_law ev.gk ((fn__law_heap ev).le (by decide)) ⟨by rfl, by decide⟩ (SEs.cons (SE.var ok_law (by rfl)) (SEs.cons (SE.var ok_law (by rfl)) (SEs.cons (SE.var ok_law (by rfl)) SEs.nil)))) (SEs.cons (SE.var ok_law (by rfl)) (SEs.cons (SE.var ok_law (by rfl)) SEs.nil))))) (SS.cons (S1.ret SE.bool) SS.nil) SS.nil
theorem s1_law_15 {g : Gl} (ev : Ev g) {pm cd doc : Value} {L a : Addr} : S1 g lawD (fmc lawI lawNames lawOwn pm cd doc L a) (nth (fnBody (st lawI)) 15) b_law_15 := S1.assign ok_law (by rfl) (.inl rfl) (SE.call ok_law ev.gk ((fn_reachable ev).le (by decide)) ⟨by rfl, by decide⟩ (SEs.cons (SE.var ok_law (by rfl)) (SEs.cons (SE.slice (SE.var ok_law (by rfl)) trivial SE.int) SEs.nil)))
theorem s1_law_16 {g : Gl} (ev : Ev g) {pm cd doc : Value} {L a : Addr} : S1 g lawD (fmc lawI lawNames lawOwn pm cd doc L a) (nth (fnBody (st lawI)) 16) b_law_16 := S1.assign ok_law (by rfl) (.inl rfl) (SE.call ok_law ev.gk ((fn_reachable ev).le (by decide)) ⟨by rfl, by decide⟩ (SEs.cons (SE.var ok_law (by rfl)) (SEs.cons (SE.slice (SE.var ok_law (by rfl)) SE.int trivial) SEs.nil)))
theorem s1_law_17 {g : Gl} (ev : Ev g) {pm cd doc : Value} {L a : Addr} : S1 g lawD (fmc lawI lawNames lawOwn pm cd doc L a) (nth (fnBody (st lawI)) 17) b_law_17 := S1.assign ok_law (by rfl) (.inl rfl) (SE.call ok_law ev.gk ((fn__law_order ev).le (by decide)) ⟨by rfl, by decide⟩ (SEs.cons (SE.var ok_law (by rfl)) (SEs.cons (SE.slice (SE.var ok_law (by rfl)) trivial SE.int) SEs.nil)))
theorem s1_law_18 {g : Gl} (ev : Ev g) {pm cd doc : Value} {L a : Addr} : S1 g lawD (fmc lawI lawNames lawOwn pm cd doc L a) (nth (fnBody (st lawI)) 18) b_law_18 := S1.assign ok_law (by rfl) (.inr ⟨by rfl, List.mem_of_getElem? (i := 4) (by rfl)⟩) (SE.call ok_law ev.gk ((fn__law_order ev).le (by decide)) ⟨by rfl, by decide⟩ (SEs.cons (SE.var ok_law (by rfl)) (SEs.cons (SE.slice (SE.var ok_law (by rfl)) SE.int trivial) SEs.nil)))
theorem s1_law_19 {g : Gl} (ev : Ev g) {pm cd doc : Value} {L a : Addr} : S1 g lawD (fmc lawI lawNames lawOwn pm cd doc L a) (nth (fnBody (st lawI)) 19) b_law_19 := S1.assign ok_law (by rfl) (.inl rfl) (SE.call ok_law ev.gk ((fn__law_heap ev).le (by decide)) ⟨by rfl, by decide⟩ (SEs.cons (SE.var ok_law (by rfl)) (SEs.cons (SE.comp' ["two"] ⟨(fun C => FmOk.of _ ["p", "two"] rfl rfl rfl rfl rfl (by decide) (by decide) (all_cons (.inl rfl) (all_cons (.inr (.inl rfl)) all_nil))), (Caps.cons (by rfl) (by rfl) (by rfl) (by rfl) (by rfl) Caps.nil), by rfl, by decide, by rfl, by decide⟩ (by rfl) (SSrc.list (SE.var ok_law (by rfl))) sList_big (fun C okB => STests.one (ST.cmp (by decide) cmp_in (SE.var okB (by rfl)) (SE.var okB (by rfl)))) (fun C okB => (SE.var okB (by rfl)))) (SEs.cons (SE.var ok_law (by rfl)) SEs.nil))))
theorem s1_law_20 {g : Gl} (ev : Ev g) {pm cd doc : Value} {L a : Addr} : S1 g lawD (fmc lawI lawNames lawOwn pm cd doc L a) (nth (fnBody (st lawI)) 20) b_law_20 := S1.ite (ST.cmp (by decide) cmp_ne (SE.list (SEs.cons (SE.call ok_law ev.gk ((fn_swept ev).le (by decide)) ⟨by rfl, by decide⟩ (SEs.cons (SE.call ok_law ev.gk ((fn_swept ev).le (by decide)) ⟨by rfl, by decide⟩ (SEs.cons (SE.var ok_law (by rfl)) (SEs.cons (SE.var ok_law (by rfl)) SEs.nil))) (SEs.cons (SE.var ok_law (by rfl)) SEs.nil))) (SEs.cons (SE.call ok_law ev.gk ((fn_swept ev).le (by decide)) ⟨by rfl, by decide⟩ (SEs.cons (SE.call ok_law ev.gk ((fn_swept ev).le (by decide)) ⟨by rfl, by decide⟩ (SEs.cons (SE.var ok_law (by rfl)) (SEs.cons (SE.var ok_law (by rfl)) SEs.nil))) (SEs.cons (SE.var ok_law (by rfl)) SEs.nil))) (SEs.cons (SE.call ok_law ev.gk ((fn_swept ev).le (by decide)) ⟨by rfl, by decide⟩ (SEs.cons (SE.var ok_law (by rfl)) (SEs.cons (SE.bin op_add (SE.var ok_law (by rfl)) (SE.var ok_law (by rfl))) SEs.nil))) SEs.nil)))) (SE.list (SEs.cons (SE.var ok_law (by rfl)) (SEs.cons (SE.var ok_law (by rfl)) (SEs.cons (SE.var ok_law (by rfl)) SEs.nil))))) (SS.cons (S1.ret SE.bool) SS.nil) SS.nil
theorem s1_law_21 {g : Gl} (ev : Ev g) {pm cd doc : Value} {L a : Addr} : S1 g lawD (fmc lawI lawNames lawOwn pm cd doc L a) (nth (fnBody (st lawI)) 21) b_law_21 := S1.ite (ST.cmp (by decide) cmp_ne (SE.list (SEs.cons (SE.var ok_law (by rfl)) (SEs.cons (SE.var ok_law (by rfl)) SEs.nil))) (SE.list (SEs.cons (SE.comp' [] ⟨(fun C => FmOk.of _ ["p"] rfl rfl rfl rfl rfl (by decide) (by decide) (all_cons (.inl rfl) all_nil)), Caps.nil, by rfl, by decide, by rfl, by decide⟩ (by rfl) (SSrc.list (SE.var ok_law (by rfl))) sList_big (fun C okB => STests.nil) (fun C okB => (SE.bin op_div (SE.var okB (by rfl)) SE.int))) (SEs.cons (SE.comp' [] ⟨(fun C => FmOk.of _ ["p"] rfl rfl rfl rfl rfl (by decide) (by decide) (all_cons (.inl rfl) all_nil)), Caps.nil, by rfl, by decide, by rfl, by decide⟩ (by rfl) (SSrc.list (SE.var ok_law (by rfl))) sList_big (fun C okB => STests.nil) (fun C okB => (SE.bin op_div (SE.var okB (by rfl)) SE.int))) SEs.nil)))) (SS.cons (S1.ret SE.bool) SS.nil) SS.nil
theorem s1_law_22 {g : Gl} (ev : Ev g) {pm cd doc : Value} {L a : Addr} : S1 g lawD (fmc lawI lawNames lawOwn pm cd doc L a) (nth (fnBody (st lawI)) 22) b_law_22 := S1.assign ok_law (by rfl) (.inr ⟨by rfl, List.mem_of_getElem? (i := 5) (by rfl)⟩) (SE.call ok_law ev.gk ((fn_collected_by_copying ev).le (by decide)) ⟨by rfl, by decide⟩ (SEs.cons (SE.var ok_law (by rfl)) (SEs.cons (SE.var ok_law (by rfl)) SEs.nil)))
theorem s1_law_23 {g : Gl} (ev : Ev g) {pm cd doc : Value} {L a : Addr} : S1 g lawD (fmc lawI lawNames lawOwn pm cd doc L a) (nth (fnBody (st lawI)) 23) b_law_23 := S1.ite (ST.cmp (by decide) cmp_ne (SE.var ok_law (by rfl)) (SE.call ok_law ev.gk ((fn__law_packed ev).le (by decide)) ⟨by rfl, by decide⟩ (SEs.cons (SE.var ok_law (by rfl)) (SEs.cons (SE.var ok_law (by rfl)) (SEs.cons (SE.var ok_law (by rfl)) SEs.nil))))) (SS.cons (S1.ret SE.bool) SS.nil) SS.nil
theorem s1_law_24 {g : Gl} (ev : Ev g) {pm cd doc : Value} {L a : Addr} : S1 g lawD (fmc lawI lawNames lawOwn pm cd doc L a) (nth (fnBody (st lawI)) 24) b_law_24 := S1.assignComp' ok_law ["far"] (by rfl) (.inl rfl) ⟨(fun C => FmOk.of _ ["p", "far"] rfl rfl rfl rfl rfl (by decide) (by decide) (all_cons (.inl rfl) (all_cons (.inr (.inl rfl)) all_nil))), (Caps.cons (by rfl) (by rfl) (by rfl) (by rfl) (by rfl) Caps.nil), by rfl, by decide, by rfl, by decide⟩ (by rfl) (SSrc.list (SE.var ok_law (by rfl))) sList_big (fun C okB => STests.nil) (fun C okB => (SE.idx (SE.idx (SE.var okB (by rfl)) SE.int) (SE.var okB (by rfl))))
theorem s1_law_25 {g : Gl} (ev : Ev g) {pm cd doc : Value} {L a : Addr} : S1 g lawD (fmc lawI lawNames lawOwn pm cd doc L a) (nth (fnBody (st lawI)) 25) b_law_25 := S1.assign ok_law (by rfl) (.inl rfl) (SE.call ok_law ev.gk ((fn__law_packed ev).le (by decide)) ⟨by rfl, by decide⟩ (SEs.cons (SE.var ok_law (by rfl)) (SEs.cons (SE.var ok_law (by rfl)) (SEs.cons (SE.var ok_law (by rfl)) SEs.nil))))
theorem s1_law_26 {g : Gl} (ev : Ev g) {pm cd doc : Value} {L a : Addr} : S1 g lawD (fmc lawI lawNames lawOwn pm cd doc L a) (nth (fnBody (st lawI)) 26) b_law_26 := S1.for_ (SSrc.list (SE.list (SEs.cons (SE.tup (SEs.cons (SE.var ok_law (by rfl)) (SEs.cons (SE.var ok_law (by rfl)) SEs.nil))) (SEs.cons (SE.tup (SEs.cons (SE.var ok_law (by rfl)) (SEs.cons (SE.var ok_law (by rfl)) SEs.nil))) (SEs.cons (SE.tup (SEs.cons (SE.idx (SE.var ok_law (by rfl)) SE.int) (SEs.cons (SE.var ok_law (by rfl)) SEs.nil))) (SEs.cons (SE.tup (SEs.cons (SE.call ok_law ev.gk ((fn_collected_by_sweeping ev).le (by decide)) ⟨by rfl, by decide⟩ (SEs.cons (SE.idx (SE.var ok_law (by rfl)) SE.int) (SEs.cons (SE.var ok_law (by rfl)) SEs.nil))) (SEs.cons (SE.var ok_law (by rfl)) SEs.nil))) SEs.nil)))))) (SAsg.pair ok_law (by rfl) (.inl rfl) (by rfl) (.inl rfl)) (fun _ _ _ h => SLet.pair (sList_some h)) (SS.cons (S1.ite (ST.cmp (by decide) cmp_ne (SE.call ok_law ev.gk ((fn_collected_by_copying ev).le (by decide)) ⟨by rfl, by decide⟩ (SEs.cons (SE.var ok_law (by rfl)) (SEs.cons (SE.var ok_law (by rfl)) SEs.nil))) (SE.var ok_law (by rfl))) (SS.cons (S1.ret SE.bool) SS.nil) SS.nil) SS.nil)
theorem s1_law_27 {g : Gl} (ev : Ev g) {pm cd doc : Value} {L a : Addr} : S1 g lawD (fmc lawI lawNames lawOwn pm cd doc L a) (nth (fnBody (st lawI)) 27) b_law_27 := S1.assign ok_law (by rfl) (.inl rfl) (SE.bin op_mul (SE.list (SEs.cons SE.int SEs.nil)) (SE.var ok_law (by rfl)))
theorem s1_law_28 {g : Gl} (ev : Ev g) {pm cd doc : Value} {L a : Addr} : S1 g lawD (fmc lawI lawNames lawOwn pm cd doc L a) (nth (fnBody (st lawI)) 28) b_law_28 := S1.assign ok_law (by rfl) (.inl rfl) (SE.bin op_mul (SE.list (SEs.cons (SE.neg SE.int) SEs.nil)) (SE.var ok_law (by rfl)))
theorem s1_law_29 {g : Gl} (ev : Ev g) {pm cd doc : Value} {L a : Addr} : S1 g lawD (fmc lawI lawNames lawOwn pm cd doc L a) (nth (fnBody (st lawI)) 29) b_law_29 := S1.assign ok_law (by rfl) (.inl rfl) (SE.call ok_law ev.gk ((fn_forwarded ev).le (by decide)) ⟨by rfl, by decide⟩ (SEs.cons (SE.var ok_law (by rfl)) (SEs.cons (SE.var ok_law (by rfl)) (SEs.cons (SE.var ok_law (by rfl)) (SEs.cons SE.int (SEs.cons (SE.idx (SE.var ok_law (by rfl)) SE.int) SEs.nil))))))
theorem s1_law_30 {g : Gl} (ev : Ev g) {pm cd doc : Value} {L a : Addr} : S1 g lawD (fmc lawI lawNames lawOwn pm cd doc L a) (nth (fnBody (st lawI)) 30) b_law_30 := S1.ite (ST.cmp (by decide) cmp_ne (SE.list (SEs.cons (SE.var ok_law (by rfl)) (SEs.cons (SE.var ok_law (by rfl)) SEs.nil))) (SE.list (SEs.cons (SE.bin op_mul (SE.list (SEs.cons SE.int SEs.nil)) (SE.var ok_law (by rfl))) (SEs.cons (SE.bin op_mul (SE.list (SEs.cons (SE.neg SE.int) SEs.nil)) (SE.var ok_law (by rfl))) SEs.nil)))) (SS.cons (S1.ret SE.bool) SS.nil) SS.nil
theorem s1_law_31 {g : Gl} (ev : Ev g) {pm cd doc : Value} {L a : Addr} : S1 g lawD (fmc lawI lawNames lawOwn pm cd doc L a) (nth (fnBody (st lawI)) 31) b_law_31 := S1.ite (ST.cmp (by decide) cmp_ne (SE.call ok_law ev.gk ((fn_forwarded ev).le (by decide)) ⟨by rfl, by decide⟩ (SEs.cons (SE.var ok_law (by rfl)) (SEs.cons (SE.idx (SE.var ok_law (by rfl)) SE.int) (SEs.cons (SE.idx (SE.var ok_law (by rfl)) SE.int) (SEs.cons (SE.idx (SE.var ok_law (by rfl)) SE.int) (SEs.cons (SE.idx (SE.var ok_law (by rfl)) SE.int) SEs.nil)))))) (SE.var ok_law (by rfl))) (SS.cons (S1.ret SE.bool) SS.nil) SS.nil
theorem s1_law_32 {g : Gl} (ev : Ev g) {pm cd doc : Value} {L a : Addr} : S1 g lawD (fmc lawI lawNames lawOwn pm cd doc L a) (nth (fnBody (st lawI)) 32) b_law_32 := S1.assignComp2' ok_law ["table"] (by rfl) (.inl rfl) ⟨(fun C => FmOk.of _ ["p", "j", "table"] rfl rfl rfl rfl rfl (by decide) (by decide) (all_cons (.inl rfl) (all_cons (.inl rfl) (all_cons (.inr (.inl rfl)) all_nil)))), (Caps.cons (by rfl) (by rfl) (by rfl) (by rfl) (by rfl) Caps.nil), by rfl, by decide, by rfl, by decide⟩ (by rfl) (by rfl) (SSrc.list (SE.var ok_law (by rfl))) (fun C okB => (SSrc.range okB ev.gk (ev.at_ 5 (by rfl) (by rfl) (by decide)) (SE.len okB ev.gk (ev.at_ 0 (by rfl) (by rfl) (by decide)) (SE.idx (SE.var okB (by rfl)) (SE.var okB (by rfl)))))) (fun C okB => (SE.tup (SEs.cons (SE.var okB (by rfl)) (SEs.cons (SE.var okB (by rfl)) SEs.nil))))
theorem s1_law_33 {g : Gl} (ev : Ev g) {pm cd doc : Value} {L a : Addr} : S1 g lawD (fmc lawI lawNames lawOwn pm cd doc L a) (nth (fnBody (st lawI)) 33) b_law_33 := S1.ite (ST.cmp (by decide) cmp_gt (SE.len ok_law ev.gk (ev.at_ 0 (by rfl) (by rfl) (by decide)) (SE.var ok_law (by rfl))) SE.int) (SS.cons (S1.assign ok_law (by rfl) (.inl rfl) (SE.idx (SE.var ok_law (by rfl)) (SE.bin op_mod (SE.idx (SE.var ok_law (by rfl)) SE.int) (SE.len ok_law ev.gk (ev.at_ 0 (by rfl) (by rfl) (by decide)) (SE.var ok_law (by rfl)))))) (SS.cons (S1.assign ok_law (by rfl) (.inl rfl) (SE.idx (SE.var ok_law (by rfl)) (SE.bin op_mod (SE.idx (SE.var ok_law (by rfl)) SE.int) (SE.len ok_law ev.gk (ev.at_ 0 (by rfl) (by rfl) (by decide)) (SE.var ok_law (by rfl)))))) (SS.cons (S1.assign ok_law (by rfl) (.inl rfl) (SE.idx (SE.var ok_law (by rfl)) (SE.bin op_mod (SE.idx (SE.var ok_law (by rfl)) SE.int) SE.int))) (SS.cons (S1.assign ok_law (by rfl) (.inl rfl) (SE.idx (SE.var ok_law (by rfl)) (SE.bin op_mod (SE.bin op_add (SE.idx (SE.var ok_law (by rfl)) SE.int) SE.int) SE.int))) (SS.cons (S1.assign ok_law (by rfl) (.inl rfl) (SE.call ok_law ev.gk ((fn__law_write ev).le (by decide)) ⟨by rfl, by decide⟩ (SEs.cons (SE.call ok_law ev.gk ((fn__law_write ev).le (by decide)) ⟨by rfl, by decide⟩ (SEs.cons (SE.var ok_law (by rfl)) (SEs.cons (SE.var ok_law (by rfl)) (SEs.cons (SE.var ok_law (by rfl)) SEs.nil)))) (SEs.cons (SE.var ok_law (by rfl)) (SEs.cons (SE.var ok_law (by rfl)) SEs.nil))))) (SS.cons (S1.assign ok_law (by rfl) (.inl rfl) (SE.call ok_law ev.gk ((fn__law_write ev).le (by decide)) ⟨by rfl, by decide⟩ (SEs.cons (SE.call ok_law ev.gk ((fn__law_write ev).le (by decide)) ⟨by rfl, by decide⟩ (SEs.cons (SE.var ok_law (by rfl)) (SEs.cons (SE.var ok_law (by rfl)) (SEs.cons (SE.var ok_law (by rfl)) SEs.nil)))) (SEs.cons (SE.var ok_law (by rfl)) (SEs.cons (SE.var ok_law (by rfl)) SEs.nil))))) (SS.cons (S1.for_ (SSrc.list (SE.list (SEs.cons (SE.tup (SEs.cons (SE.var ok_law (by rfl)) (SEs.cons (SE.var ok_law (by rfl)) SEs.nil))) (SEs.cons (SE.tup (SEs.cons (SE.var ok_law (by rfl)) (SEs.cons (SE.var ok_law (by rfl)) SEs.nil))) SEs.nil)))) (SAsg.pair ok_law (by rfl) (.inl rfl) (by rfl) (.inl rfl)) (fun _ _ _ h => SLet.pair (sList_some h)) (SS.cons (S1.assign ok_law (by rfl) (.inl rfl) (SE.call ok_law ev.gk ((fn_with_field ev).le (by decide)) ⟨by rfl, by decide⟩ (SEs.cons (SE.call ok_law ev.gk ((fn_with_field ev).le (by decide)) ⟨by rfl, by decide⟩ (SEs.cons (SE.var ok_law (by rfl)) (SEs.cons (SE.bin op_div (SE.idx (SE.var ok_law (by rfl)) SE.int) SE.int) (SEs.cons (SE.idx (SE.var ok_law (by rfl)) SE.int) (SEs.cons (SE.var ok_law (by rfl)) SEs.nil))))) (SEs.cons (SE.bin op_div (SE.idx (SE.var ok_law (by rfl)) SE.int) SE.int) (SEs.cons (SE.idx (SE.var ok_law (by rfl)) SE.int) (SEs.cons (SE.var ok_law (by rfl)) SEs.nil)))))) (SS.cons (S1.assign ok_law (by rfl) (.inl rfl) (SE.call ok_law ev.gk ((fn_with_field ev).le (by decide)) ⟨by rfl, by decide⟩ (SEs.cons (SE.call ok_law ev.gk ((fn_with_field ev).le (by decide)) ⟨by rfl, by decide⟩ (SEs.cons (SE.var ok_law (by rfl)) (SEs.cons (SE.bin op_div (SE.idx (SE.var ok_law (by rfl)) SE.int) SE.int) (SEs.cons (SE.idx (SE.var ok_law (by rfl)) SE.int) (SEs.cons (SE.var ok_law (by rfl)) SEs.nil))))) (SEs.cons (SE.bin op_div (SE.idx (SE.var ok_law (by rfl)) SE.int) SE.int) (SEs.cons (SE.idx (SE.var ok_law (by rfl)) SE.int) (SEs.cons (SE.var ok_law (by rfl)) SEs.nil)))))) (SS.cons (S1.ite (ST.and (SAnd.cons (ST.cmp (by decide) cmp_ne (SE.var ok_law (by rfl)) (SE.var ok_law (by rfl))) (SAnd.cons (ST.cmp (by decide) cmp_ne (SE.var ok_law (by rfl)) (SE.var ok_law (by rfl))) SAnd.nil))) (SS.cons (S1.ret SE.bool) SS.nil) SS.nil) (SS.cons (S1.ite (ST.cmp (by decide) cmp_ne (SE.list (SEs.cons (SE.var ok_law (by rfl)) (SEs.cons (SE.var ok_law (by rfl)) SEs.nil))) (SE.list (SEs.cons (SE.call ok_law ev.gk ((fn__law_heap ev).le (by decide)) ⟨by rfl, by decide⟩ (SEs.cons (SE.var ok_law (by rfl)) (SEs.cons (SE.var ok_law (by rfl)) (SEs.cons (SE.var ok_law (by rfl)) SEs.nil)))) (SEs.cons (SE.call ok_law ev.gk ((fn__law_heap ev).le (by decide)) ⟨by rfl, by decide⟩ (SEs.cons (SE.var ok_law (by rfl)) (SEs.cons (SE.var ok_law (by rfl)) (SEs.cons (SE.var ok_law (by rfl)) SEs.nil)))) SEs.nil)))) (SS.cons (S1.ret SE.bool) SS.nil) SS.nil) (SS.cons (S1.ite (ST.cmp (by decide) cmp_ne (SE.call ok_law ev.gk ((fn_collected_by_sweeping ev).le (by decide)) ⟨by rfl, by decide⟩ (SEs.cons (SE.var ok_law (by rfl)) (SEs.cons (SE.var ok_law (by rfl)) SEs.nil))) (SE.call ok_law ev.gk ((fn__law_heap ev).le (by decide)) ⟨by rfl, by decide⟩ (SEs.cons (SE.var ok_law (by rfl)) (SEs.cons (SE.call ok_law ev.gk ((fn__law_order ev).le (by decide)) ⟨by rfl, by decide⟩ (SEs.cons (SE.var ok_law (by rfl)) (SEs.cons (SE.var ok_law (by rfl)) SEs.nil))) (SEs.cons (SE.var ok_law (by rfl)) SEs.nil))))) (SS.cons (S1.ret SE.bool) SS.nil) SS.nil) (SS.cons (S1.ite (ST.cmp (by decide) cmp_ne (SE.call ok_law ev.gk ((fn_collected_by_copying ev).le (by decide)) ⟨by rfl, by decide⟩ (SEs.cons (SE.var ok_law (by rfl)) (SEs.cons (SE.var ok_law (by rfl)) SEs.nil))) (SE.call ok_law ev.gk ((fn__law_packed ev).le (by decide)) ⟨by rfl, by decide⟩ (SEs.cons (SE.var ok_law (by rfl)) (SEs.cons (SE.var ok_law (by rfl)) (SEs.cons (SE.var ok_law (by rfl)) SEs.nil))))) (SS.cons (S1.ret SE.bool) SS.nil) SS.nil) SS.nil))))))) SS.nil))))))) SS.nil
theorem s1_law_34 {g : Gl} (ev : Ev g) {pm cd doc : Value} {L a : Addr} : S1 g lawD (fmc lawI lawNames lawOwn pm cd doc L a) (nth (fnBody (st lawI)) 34) b_law_34 := S1.assign ok_law (by rfl) (.inl rfl) (SE.bin op_sub (SE.bin op_mod (SE.idx (SE.var ok_law (by rfl)) SE.int) SE.int) SE.int)
theorem s1_law_35 {g : Gl} (ev : Ev g) {pm cd doc : Value} {L a : Addr} : S1 g lawD (fmc lawI lawNames lawOwn pm cd doc L a) (nth (fnBody (st lawI)) 35) b_law_35 := S1.ite (ST.cmp (by decide) cmp_ne (SE.cmp (by decide) cmp_is (SE.call ok_law ev.gk ((fn_blocks_of ev).le (by decide)) ⟨by rfl, by decide⟩ (SEs.cons (SE.bin op_add (SE.var ok_law (by rfl)) (SE.list (SEs.cons (SE.var ok_law (by rfl)) (SEs.cons SE.int SEs.nil)))) SEs.nil)) SE.none) (SE.cmp (by decide) cmp_in (SE.var ok_law (by rfl)) (SE.tup (SEs.cons (SE.neg SE.int) (SEs.cons SE.int SEs.nil))))) (SS.cons (S1.ret SE.bool) SS.nil) SS.nil
theorem s1_law_37 {g : Gl} (ev : Ev g) {pm cd doc : Value} {L a : Addr} : S1 g lawD (fmc lawI lawNames lawOwn pm cd doc L a) (nth (fnBody (st lawI)) 37) b_law_37 := S1.ite (ST.cmp (by decide) cmp_ne (SE.list (SEs.cons (SE.var ok_law (by rfl)) (SEs.cons (SE.var ok_law (by rfl)) (SEs.cons (SE.var ok_law (by rfl)) (SEs.cons (SE.var ok_law (by rfl)) SEs.nil))))) (SE.list (SEs.cons (SE.call ok_law ev.gk ((fn__law_heap ev).le (by decide)) ⟨by rfl, by decide⟩ (SEs.cons (SE.var ok_law (by rfl)) (SEs.cons (SE.var ok_law (by rfl)) (SEs.cons (SE.var ok_law (by rfl)) SEs.nil)))) (SEs.cons (SE.slice (SE.var ok_law (by rfl)) SE.int trivial) (SEs.cons (SE.comp' ["wide"] ⟨(fun C => FmOk.of _ ["p", "wide"] rfl rfl rfl rfl rfl (by decide) (by decide) (all_cons (.inl rfl) (all_cons (.inr (.inl rfl)) all_nil))), (Caps.cons (by rfl) (by rfl) (by rfl) (by rfl) (by rfl) Caps.nil), by rfl, by decide, by rfl, by decide⟩ (by rfl) (SSrc.list (SE.var ok_law (by rfl))) sList_big (fun C okB => STests.nil) (fun C okB => (SE.idx (SE.var okB (by rfl)) (SE.var okB (by rfl))))) (SEs.cons (SE.call ok_law ev.gk ((fn__law_heap ev).le (by decide)) ⟨by rfl, by decide⟩ (SEs.cons (SE.var ok_law (by rfl)) (SEs.cons (SE.var ok_law (by rfl)) (SEs.cons (SE.var ok_law (by rfl)) SEs.nil)))) SEs.nil)))))) (SS.cons (S1.ret SE.bool) SS.nil) SS.nil
theorem s1_law_38 {g : Gl} (ev : Ev g) {pm cd doc : Value} {L a : Addr} : S1 g lawD (fmc lawI lawNames lawOwn pm cd doc L a) (nth (fnBody (st lawI)) 38) b_law_38 := S1.ite (ST.cmp (by decide) cmp_ne (SE.var ok_law (by rfl)) (SE.call ok_law ev.gk ((fn__law_packed ev).le (by decide)) ⟨by rfl, by decide⟩ (SEs.cons (SE.var ok_law (by rfl)) (SEs.cons (SE.var ok_law (by rfl)) (SEs.cons (SE.var ok_law (by rfl)) SEs.nil))))) (SS.cons (S1.ret SE.bool) SS.nil) SS.nil
theorem s1_law_39 {g : Gl} (ev : Ev g) {pm cd doc : Value} {L a : Addr} : S1 g lawD (fmc lawI lawNames lawOwn pm cd doc L a) (nth (fnBody (st lawI)) 39) b_law_39 := S1.ret SE.bool
end Mine

/-! ## part E3 -/
set_option maxRecDepth 4000
set_option linter.unusedVariables false
namespace Mine
open PySem PySem.Calls PyProof.Rows PySem.SeqAt

abbrev lawBody : List Stmt := fnBody (st lawI)

/-- one statement, where more is known -/
def S1J (J : Around → (Addr → Option Obj) → Nat → List Addr → Shared → Prop) (g : Gl) (d : Nat) (f : Fm) (st : Stmt) (x : Stm) : Prop :=
  ∀ (A : Around) (B : Addr → Option Obj) (nb : Nat) (vs : Vars) (Λ : Led) (μ : List Addr) (s : Shared) (fl : Fl) (vs' : Vars) (Λ' : Led) (Q : Flow → Shared → Prop) (E : Value → Shared → Prop),
    J A B nb μ s → Rm d A → In g B f nb vs Λ μ s.heap → x nb vs Λ = some (fl, vs', Λ') → PostS g B f nb μ s fl vs' Λ' Q → wpAny (model g.prog g.w) A (exec st f.env) Q E s
theorem S1.j {J : Around → (Addr → Option Obj) → Nat → List Addr → Shared → Prop} {g : Gl} {d : Nat} {f : Fm} {st : Stmt} {x : Stm} (h : S1 g d f st x) : S1J J g d f st x :=
  fun A B nb vs Λ μ s fl vs' Λ' Q E _ hA I hx hQ => h A B nb vs Λ μ s fl vs' Λ' Q E hA I hx hQ

/-- statements that end in True -/
def SJ (J : Around → (Addr → Option Obj) → Nat → List Addr → Shared → Prop) (Fin : Shared → Prop) (g : Gl) (d : Nat) (f : Fm) (st : List Stmt) (x : Stm) : Prop :=
  ∀ (A : Around) (B : Addr → Option Obj) (nb : Nat) (vs : Vars) (Λ : Led) (μ : List Addr) (s : Shared) (vs' : Vars) (Λ' : Led) (E : Value → Shared → Prop),
    J A B nb μ s → Rm d A → In g B f nb vs Λ μ s.heap → x nb vs Λ = some (.ret (.bool true), vs', Λ') → wpAny (model g.prog g.w) A (execs st f.env) (fun fl s' => fl = .ret (.bool true) ∧ Fin s') E s

theorem SJ.cons {J : Around → (Addr → Option Obj) → Nat → List Addr → Shared → Prop} {Fin : Shared → Prop} {g : Gl} {d : Nat} {f : Fm} {st : Stmt} {rest : List Stmt} {a b : Stm}
    (hJ : ∀ A B nb μ s μ' s', J A B nb μ s → Same s s' → μ <+: μ' → J A B nb μ' s') (hF : ∀ A B nb vs Λ μ s, J A B nb μ s → In g B f nb vs Λ μ s.heap → Fin s)
    (ha : S1J J g d f st a) (hb : SJ J Fin g d f rest b) : SJ J Fin g d f (st :: rest) (sSeq a b) := by
  intro A B nb vs Λ μ s vs' Λ' E j hA I hx
  simp only [sSeq, Option.bind_eq_bind, Option.bind_eq_some_iff] at hx
  obtain ⟨⟨fl1, vs1, Λ1⟩, h1, h2⟩ := hx
  refine wpAny_execs_cons (ha A B nb vs Λ μ s fl1 vs1 Λ1 _ _ j hA I h1 fun flow s1 μ1 S1 p1 I1 r1 => ?_)
  cases fl1 with
  | next =>
    cases r1.nextOf
    exact hb A B nb vs1 Λ1 μ1 s1 vs' Λ' _ (hJ _ _ _ _ _ _ _ j S1 p1) hA I1 h2
  | ret v =>
    obtain ⟨x, rfl, r⟩ := r1.retOf
    cases h2
    cases r
    exact ⟨rfl, hF _ _ _ _ _ _ _ (hJ _ _ _ _ _ _ _ j S1 p1) I1⟩

/-- what is known beside the ledger -/
def J0 (h₀ : Heap) (s₀ : Shared) (μ₀ : List Addr) : Around → (Addr → Option Obj) → Nat → List Addr → Shared → Prop := fun A B nb μ s =>
  B = (fun b => h₀.get? b) ∧ μ₀ <+: μ ∧ Same s₀ s
theorem J0.step {h₀ : Heap} {s₀ : Shared} {μ₀ : List Addr} : ∀ A B nb μ s μ' s', J0 h₀ s₀ μ₀ A B nb μ s → Same s s' → μ <+: μ' → J0 h₀ s₀ μ₀ A B nb μ' s' :=
  fun A B nb μ s μ' s' j S p => ⟨j.1, pre_trans j.2.1 p, j.2.2.trans S⟩

section
variable {g : Gl} {pm cd doc : Value} {L a : Addr}
/-- the statement that reads the gaps -/
theorem s1_law_2 (ev : Ev g) {h₀ : Heap} {s₀ : Shared} {μ₀ : List Addr} {a0 : Addr} (h0 : μ₀[0]? = some a0) (hm : g.mg "_law_gaps" = some (.ref a0)) :
    S1J (J0 h₀ s₀ μ₀) g lawD (fmc lawI lawNames lawOwn pm cd doc L a) (nth lawBody 2) b_law_2 := by
  intro A B nb vs Λ μ s fl vs' Λ' Q E j hA I hx hQ
  simp only [b_law_2, sAssign, xCall, xs_, xIdx, xRef, Option.bind_eq_bind, Option.bind_eq_some_iff, Prod.exists] at hx
  obtain ⟨v, Λ1, ⟨l, Λ2, ⟨x1, Λ3, h1, l2, Λ4, ⟨x2, Λ5, ⟨x3, Λ6, h3, x4, Λ7, h4, x5, h5, h6⟩, l3, Λ8, h7, h8⟩, h9⟩, h10⟩, h11⟩ := hx
  cases h3; cases h6; cases h7; cases h8; cases h9; cases h11
  obtain ⟨fa, o, fd, k1, k2, k3, k4⟩ := ((fn__law_heads ev).le (show _ ≤ lawD by decide)).at_
  refine wpAny_Assign_Name (Call_ (name_glob ok_law ev.gk ⟨by rfl, by decide, .inl k1⟩ I (callWith_def k3 (args_cons (SE.var (i := 1) ok_law (by rfl) A B nb vs Λ μ s _ _ _ _ hA I h1 fun va s1 μ1 S1 p1 I1 r1 => ?_)) (by rfl)))) (by rfl)
  refine args_cons (Subscript_ (name_glob ok_law ev.gk ⟨by rfl, by decide, .inl hm⟩ I1 ?_))
  refine SE.bin (x := xIdx (xVar 0) (xInt 4)) (y := xInt 6) op_mod (SE.idx (SE.var ok_law (by rfl)) SE.int) SE.int A B nb vs _ μ1 s1 _ _ _ _ hA I1 h4 fun vb s2 μ2 S2 p2 I2 r2 => ?_
  have hr0 : VIs μ2 (.ref 0) (.ref a0) := VIs.mono (pre_trans j.2.1 (pre_trans p1 p2)) (.ref 0) _ ⟨a0, h0, rfl⟩
  refine idx_spec I2 hr0 r2 h5 (fun val tk r => args_nil ?_) (by intro _ _; rfl)
  have I3 : In g B (fmc lawI lawNames lawOwn pm cd doc L a) nb vs _ μ2 ({ s2 with toks := tk } : Shared).heap := I2
  refine ⟨I2.keep _ _ (I2.glob _ _ k2), k4 A B _ nb vs _ μ2 _ _ _ v Λ' _ E hA I3 (.cons (VIs.mono p2 _ _ r1) (.cons r .nil)) h10 fun val3 s3 μ3 S3 p3 I4 r3 => ?_⟩
  exact store (i := 2) ok_law (by rfl) (.inr ⟨by rfl, List.mem_of_getElem? (i := 0) (by rfl)⟩) I4 r3 fun s5 S5 I5 => hQ _ s5 μ3 ((S1.trans (S2.trans Same.of)).trans (S3.trans S5)) (pre_trans p1 (pre_trans p2 p3)) I5 trivial
end
end Mine

/-! ## part E4 -/
set_option maxRecDepth 4000
set_option linter.unusedVariables false
namespace Mine
open PySem PySem.Calls PyProof.Rows PySem.SeqAt

theorem areOf_ints {μ : List Addr} : ∀ {xs : List V} {l : List Int} {us : List Value}, allInts xs = some l → All2 (VIs μ) xs us → AreOf ItemKind.int us l
  | [], l, us, h, r => by cases h; cases r; exact .nil
  | .int i :: xs, l, us, h, r => by
    cases r with
    | cons r1 r2 =>
      simp only [allInts, Option.map_eq_some_iff] at h
      obtain ⟨l', h', rfl⟩ := h
      exact .cons r1 (areOf_ints h' r2)
  | .none :: xs, l, us, h, r => by simp [allInts] at h
  | .bool _ :: xs, l, us, h, r => by simp [allInts] at h
  | .ref _ :: xs, l, us, h, r => by simp [allInts] at h

/-- an expression that only adds to the heap -/
def Grow (s s' : Shared) : Prop := ∀ b o, s.heap.get? b = some o → s'.heap.get? b = some o
def SEk (g : Gl) (d : Nat) (f : Fm) (e : Expr) (x : Ex) : Prop :=
  ∀ (A : Around) (B : Addr → Option Obj) (nb : Nat) (vs : Vars) (Λ : Led) (μ : List Addr) (s : Shared) (v : V) (Λ' : Led) (Q : Value → Shared → Prop) (E : Value → Shared → Prop),
    Rm d A → In g B f nb vs Λ μ s.heap → x vs Λ = some (v, Λ') → (∀ val s' μ', Grow s s' → Same s s' → μ <+: μ' → In g B f nb vs Λ' μ' s'.heap → VIs μ' v val → Q val s') → wpAny (model g.prog g.w) A (eval e f.env) Q E s
section
variable {g : Gl} {d : Nat} {f : Fm}
theorem SEk.int {i : Int} {k : Nat} {pos : Pos} : SEk g d f (.Constant (.int i) k pos) (xInt i) := by
  intro A B nb vs Λ μ s v Λ' Q E hA I hx hQ
  cases hx
  exact wpAny_Constant_int (hQ _ _ μ (fun _ _ e => e) Same.of (List.prefix_refl _) I ⟨_, rfl⟩)
theorem SEk.var (ok : FmOk f) {x : Str} {i : Nat} {pos : Pos} (hi : f.names[i]? = some x) : SEk g d f (.Name x pos) (xVar i) := by
  intro A B nb vs Λ μ s v Λ' Q E hA I hx hQ
  simp only [xVar, Option.map_eq_some_iff, Prod.mk.injEq] at hx
  obtain ⟨v', hv, rfl, rfl⟩ := hx
  exact getV_name ok hi hv hA I fun val r => hQ val s μ (fun _ _ e => e) (Same.refl _) (List.prefix_refl _) I r
theorem SEk.idx {a i : Expr} {pos : Pos} {x y : Ex} (ha : SEk g d f a x) (hi : SEk g d f i y) (hs : ∀ o j, subscripted i false o j = operate [o, j] (getItem o j) := by intro _ _; rfl) : SEk g d f (.Subscript a i pos) (xIdx x y) := by
  intro A B nb vs Λ μ s v Λ' Q E hA I hx hQ
  simp only [xIdx, Option.bind_eq_bind, Option.bind_eq_some_iff, Prod.exists] at hx
  obtain ⟨u, Λ1, h1, j, Λ2, h2, v', h3, h4⟩ := hx
  cases h4
  refine Subscript_ (ha A B nb vs Λ μ s _ _ _ _ hA I h1 fun va s1 μ1 G1 S1 p1 I1 r1 => ?_)
  refine hi A B nb vs Λ1 μ1 s1 _ _ _ _ hA I1 h2 fun vb s2 μ2 G2 S2 p2 I2 r2 => ?_
  exact idx_spec I2 (VIs.mono p2 _ _ r1) r2 h3 (fun val tk r => hQ val _ μ2 (fun b o e => G2 b o (G1 b o e)) ((S1.trans S2).trans Same.of) (pre_trans p1 p2) I2 r) hs
theorem SEk.add {l r : Expr} {pos : Pos} {x y : Ex} (hl : SEk g d f l x) (hr : SEk g d f r y) : SEk g d f (.BinOp l .Add r pos) (xBin oAdd x y) := by
  intro A B nb vs Λ μ s v Λ' Q E hA I hx hQ
  simp only [xBin, Option.bind_eq_bind, Option.bind_eq_some_iff, Prod.exists] at hx
  obtain ⟨a, Λ1, h1, b, Λ2, h2, h3⟩ := hx
  refine wpAny_BinOp (hl A B nb vs Λ μ s a Λ1 _ _ hA I h1 fun va s1 μ1 G1 S1 p1 I1 r1 => ?_)
  refine hr A B nb vs Λ1 μ1 s1 b Λ2 _ _ hA I1 h2 fun vb s2 μ2 G2 S2 p2 I2 r2 => ?_
  have ra := VIs.mono p2 _ _ r1
  have S := S1.trans S2
  have G : Grow s s2 := fun b o e => G2 b o (G1 b o e)
  have p := pre_trans p1 p2
  unfold oAdd at h3
  split at h3
  · obtain ⟨t, rfl⟩ := ra.intOf
    obtain ⟨u, rfl⟩ := r2.intOf
    cases h3
    exact PyProof.Rows.add_int (hQ _ _ μ2 G (S.trans Same.of) p I2 ⟨_, rfl⟩)
  · obtain ⟨a, hka, rfl⟩ := ra.refOf
    obtain ⟨b, hkb, rfl⟩ := r2.refOf
    simp only [Option.bind_eq_bind, Option.bind_eq_some_iff] at h3
    obtain ⟨xs, h4, ys, h5, h6⟩ := h3
    obtain ⟨i1, n1, e1, q1⟩ := I2.list hka (asList_eq h4)
    obtain ⟨i2, n2, e2, q2⟩ := I2.list hkb (asList_eq h5)
    have hb := newList_big h6
    have l1 := q1.length
    have l2 := q2.length
    refine P.add_list e1 e2 (postList (Q := fun val s' => Grow s s' → Q val s') I2 h6 (items := i1 ++ i2) ?_ (fun val s3 μ3 S3 p3 I3 r3 G3 => hQ val s3 μ3 G3 (S.trans S3) (pre_trans p p3) I3 r3) _ Same.of rfl (fun b o e => Heap.get?_push_of_some _ (G b o e))) ?_
    · rw [Array.toList_append]; exact q1.append q2
    · have := big_line
      simp at hb l1 l2; lia
  · cases h3
end

/-- the ground once a block's record has grown -/
abbrev gro (g : Gl) (P : Addr) (ps : Array Value) : Gl := { g with hG := regrown g.hG P ps }

section
variable {g : Gl} {f : Fm} {nb : Nat} {vs : Vars} {Λ : Led} {μ : List Addr} {h h' : Heap} {P : Addr} {ps : Array Value}
abbrev Bare (h : Heap) (P : Addr) : Prop := h.get? P = some { cls := .none, data := .fields #[] }
theorem ns_ne {h : Heap} {b P : Addr} {m : Str → Option Value} (hP : Bare h P) (hn : h.Ns b m) : b ≠ P := by
  rintro rfl
  obtain ⟨o, es, ep, ho, hd, _⟩ := hn
  rw [hP] at ho; cases ho; cases hd
theorem gro_keep (hP : Bare g.hG P) : ∀ b o, b ≠ P → g.hG.get? b = some o → (regrown g.hG P ps).get? b = some o := fun b o hb e => (Heap.get?_update_other _ _ (Ne.symm hb)).trans e
theorem Ev.gro (ev : Ev g) (hP : Bare g.hG P) : Ev (gro g P ps) := by
  refine ⟨⟨?_, ?_, ?_⟩, ?_, ev.bl⟩
  · exact ev.gk.glb.extBut (fun b o hb e => gro_keep hP b o hb e) (ns_ne hP ev.gk.glb)
  · exact ev.gk.blt.extBut (fun b o hb e => gro_keep hP b o hb e) (ns_ne hP ev.gk.blt)
  · obtain ⟨mc, hn, _⟩ := id ev.gk.lim
    exact ev.gk.lim.extBut (fun b o hb e => gro_keep hP b o hb e) (ns_ne hP hn)
  · intro d hd
    obtain ⟨a, o, pm, code, doc, h1, h2, h3, c, oc, vs, t, e1, e2, e3, e4⟩ := ev.fn d hd
    refine ⟨a, o, pm, code, doc, h1, gro_keep hP a o ?_ h2, h3, c, oc, vs, t, e1, gro_keep hP c oc ?_ e2, e3, e4⟩
    · rintro rfl; rw [hP] at h2; cases h2; cases h3
    · rintro rfl; rw [hP] at e2; cases e2; cases e3; simp at e4

/-- all but the record stands -/
theorem Inv.regrown (I : In g (fun b => g.hG.get? b) f nb vs Λ μ h) (hP : Bare g.hG P)
    (hk : ∀ b o, b ≠ P → h.get? b = some o → h'.get? b = some o) (hr : ∀ b o, (PyProof.Rows.regrown g.hG P ps).get? b = some o → h'.get? b = some o) :
    In (Mine.gro g P ps) (fun b => (PyProof.Rows.regrown g.hG P ps).get? b) f nb vs Λ μ h' := by
  have hP' : Bare h P := I.keep _ _ hP
  have dom : ∀ b, g.hG.get? b = none → (PyProof.Rows.regrown g.hG P ps).get? b = none := fun b e => by
    have : b ≠ P := by rintro rfl; rw [hP] at e; cases e
    exact (Heap.get?_update_other _ _ (Ne.symm this)).trans e
  have same : ∀ b o, b ≠ P → h.get? b = some o → h'.get? b = h.get? b := fun b o hb e => by rw [e]; exact hk b o hb e
  have muP : ∀ (k : Nat) b, μ[k]? = some b → b ≠ P := by
    rintro k b e rfl
    obtain ⟨o, ho⟩ : ∃ o, Λ[k]? = some o := by
      have := (List.getElem?_eq_some_iff.mp e).1
      rw [I.len] at this
      exact ⟨_, List.getElem?_eq_getElem this⟩
    have q := I.obj k b o e ho
    cases o with
    | list xs => obtain ⟨_, _, q, _⟩ := q; have q' := hP'.symm.trans q; cases q'
    | tup xs => obtain ⟨_, _, q, _⟩ := q; have q' := hP'.symm.trans q; cases q'
    | dict es =>
      obtain ⟨_, kvs, ⟨o, es', ep, e1, _, e2, r⟩, _⟩ := q
      rw [hP'] at e1; cases e1; cases e2
  have nB : ∀ b, g.hG.get? b = none → b ≠ P := fun b e => by rintro rfl; rw [hP] at e; cases e
  have locP : f.env.locals ≠ P := nB _ I.bloc.1
  refine ⟨I.len, I.nbl, ?_, hr, fun b o e => e, ?_, I.nodup, I.nloc, ⟨dom _ I.bloc.1, ?_⟩, ?_, I.acel, ?_⟩
  · intro k b o e1 e2
    obtain ⟨x, hx⟩ := I.lt e1
    exact (I.obj k b o e1 e2).keep (List.prefix_refl _) (same b x (muP k b e1) hx)
  · intro k b hb e
    exact dom _ (I.fresh k b hb e)
  · obtain ⟨m, o, es, ep, e, q⟩ := I.bloc.2
    exact ⟨m, o, es, ep, hk _ _ locP e, q⟩
  · intro x hx
    obtain ⟨c, v, e1, ⟨q, e2, e3⟩, e4, e5⟩ := I.bcel x hx
    exact ⟨c, v, e1, ⟨q, hk c _ (nB _ e4) e2, e3⟩, dom _ e4, e5⟩
  · intro i x v e1 e2
    obtain ⟨val, r, l⟩ := I.vars i x v e1 e2
    refine ⟨val, r, ?_⟩
    rcases l with ⟨kd, m, ⟨o, es, ep, e, q⟩, em⟩ | ⟨kd, c, ec, q, eq, ed⟩
    · exact .inl ⟨kd, m, ⟨o, es, ep, hk _ _ locP e, q⟩, em⟩
    · refine .inr ⟨kd, c, ec, q, hk c _ ?_ eq, ed⟩
      rintro rfl
      rw [hP'] at eq; cases eq; cases ed
end

section
variable {g : Gl} {pm cd doc : Value} {a : Addr} {c P : Addr} {bm : Addr} {ob : Obj} {s₀ : Shared} {μ₀ : List Addr}
abbrev lawFm (g : Gl) (pm cd doc : Value) (a : Addr) : Fm := fmc lawI lawNames lawOwn pm cd doc g.hG.objs.size a
/-- what the law leaves -/
def Left (h₀ : Heap) (s₀ : Shared) (s' : Shared) : Prop := Same s₀ s' ∧ OldK h₀ s'.heap

theorem rest_law (ev : Ev g) {L : Addr} : SS g lawD (fmc lawI lawNames lawOwn pm cd doc L a) [nth lawBody 37, nth lawBody 38, nth lawBody 39] (sSeq b_law_37 (sSeq b_law_38 (sSeq b_law_39 sPass))) :=
  SS.cons (s1_law_37 ev) (SS.cons (s1_law_38 ev) (SS.cons (s1_law_39 ev) SS.nil))

theorem tail_law (ev : Ev g) (hP : Bare g.hG P) (Bs : Based g.hG g.hG c P #[]) (M : BMod g.hG mainGlobals g.mg bm ob) (hcd : cd = .ref c) (hb : AllBare s₀.gens) :
    SJ (J0 g.hG s₀ μ₀) (Left g.hG s₀) g lawD (lawFm g pm cd doc a) [nth lawBody 36, nth lawBody 37, nth lawBody 38, nth lawBody 39] (sSeq b_law_36 (sSeq b_law_37 (sSeq b_law_38 (sSeq b_law_39 sPass)))) := by
  intro A B nb vs Λ μ s vs' Λ' E j hA I hx
  obtain ⟨rfl, jp, jS⟩ := j
  have hlim := ev.gk.lim
  have hev : ∀ ps, Ev (Mine.gro g P ps) := fun ps => Ev.gro ev hP
  generalize hR : sSeq b_law_37 (sSeq b_law_38 (sSeq b_law_39 sPass)) = rest at hx
  simp only [sSeq, b_law_36, sIf, tNot, tOf, xAllInt, Option.bind_eq_bind, Option.bind_eq_some_iff, Prod.exists] at hx
  obtain ⟨fl, vs1, Λ1, ⟨b1, Λ2, ⟨b2, Λ3, ⟨v3, Λ4, ⟨v4, Λ5, h1, xs, h2, l, h3, h4⟩, b5, h5, h6⟩, h7⟩, h8⟩, hx⟩ := hx
  cases h4; cases h5; cases h6; cases h7
  simp only [Bool.not_true, Bool.false_eq_true, if_false, sPass] at h8
  cases h8
  simp only at hx
  obtain ⟨m, hns⟩ := I.bloc.2
  have hroom : A.depth < recursionLimit := by have := hA.2.1; lia
  refine wpAny_execs_cons (wpAny_If (wpAny_isTrue_Not (wpAny_isTrue_value (Call_ (name_glob ok_law ev.gk (ev.at_ 6 (by rfl) (by rfl) (by decide)) I (callWith_builtin1 (args_cons ?_)))) (by rfl))))
  refine GeneratorExp_DF (K := ItemKind.int) (L := g.hG.objs.size) (m := m) (pz := fun _ => true) (d := fun _ => .bool true) (cl := []) Bs M hcd (by rfl) hA.1 (by rfl) (by rfl) (by decide) (by rfl) (by rfl) (by rfl) hroom ?_ (by intro _; rfl)
  refine SEk.add (x := xBin oAdd (xBin oAdd (xBin oAdd (xBin oAdd (xVar 12) (xVar 13)) (xVar 14)) (xVar 15)) (xIdx (xVar 19) (xInt 0))) (y := xIdx (xVar 19) (xInt 1)) (SEk.add (SEk.add (SEk.add (SEk.add (SEk.var ok_law (by rfl)) (SEk.var ok_law (by rfl))) (SEk.var ok_law (by rfl))) (SEk.var ok_law (by rfl))) (SEk.idx (SEk.var ok_law (by rfl)) SEk.int)) (SEk.idx (SEk.var ok_law (by rfl)) SEk.int)
    A _ nb vs Λ μ s v4 Λ1 _ _ hA I h1 fun va s1 μ1 G1 S1 p1 I1 r1 => ?_
  obtain ⟨k, rfl, h4⟩ := asList_eq' h2
  obtain ⟨b, hbk, rfl⟩ := r1
  obtain ⟨items, n, hl, hr⟩ := I1.list hbk h4
  have hns1 : s1.heap.Ns g.hG.objs.size m := Heap.Ns.keeps hns G1
  have Sx := jS.trans S1
  have hkeep : ∀ b o, g.hG.get? b = some o → s1.heap.get? b = some o := I1.keep
  have hsz : g.hG.objs.size < s1.heap.objs.size := by obtain ⟨o, es, ep, e, _⟩ := hns1; exact Heap.lt_size e
  refine ⟨b, items.toList, l, s1.heap.objs.size - 1, rfl, by simpa using hl.isList, areOf_ints h3 hr, ⟨hns1, hkeep, Nat.le_refl _⟩, Sx.2 hb, hlim.keeps hkeep, Nat.le_sub_one_of_lt hsz, Nat.sub_lt (Nat.lt_of_le_of_lt (Nat.zero_le _) hsz) Nat.one_pos, ?_, ?_, ?_⟩
  · intro c' C A' E' i v u m₂ hA' hD hU hm hK hF hv hC hk
    exact wpAny_pure ⟨rfl, u.heap, u.toks, rfl, fun _ _ e => e⟩
  · intro c' C A' E' i v u m₂ hA' hD hU hm hK hp hF hv hC hk
    obtain ⟨t, rfl⟩ := hK
    have hg := Heap.Ns.keeps (hev _).gk.glb hF.keep
    have hbl := Heap.Ns.keeps (hev _).gk.blt hF.keep
    refine wpAny_Compare1 (Call_ (Name_function_global (by rfl) (by rfl) (loadGlobal_builtin hg (ev.bl _ (List.mem_of_getElem? (i := 7) (by rfl))).1 hbl (ev.bl _ (List.mem_of_getElem? (i := 7) (by rfl))).2
      (Pv.callWith_type1 (args_cons (wpAny_Name (wpAny_loadName_local (by rfl) (by rfl) hF.ns hv (args_nil ?_)) (by decide))))))) (by rfl)
    refine call_type_of (Tx := "int") (by rfl) (by rfl) ?_
    refine Name_function_global (by rfl) (by rfl) (loadGlobal_builtin hg (ev.bl _ (List.mem_of_getElem? (i := 8) (by rfl))).1 hbl (ev.bl _ (List.mem_of_getElem? (i := 8) (by rfl))).2 ?_)
    exact wpAny_is_self (by rfl) ⟨.bool true, u.heap, u.toks, rfl, fun _ _ e => e⟩
  · intro c' ga s5 Bs' F5 G5 hos hk5 X
    refine args_nil ?_
    refine all_genD (q := fun _ => true) F5 G5 X (Nat.le_sub_one_of_lt hsz) fun s6 F6 G6 hos6 hk6 => ?_
    have hall : (List.filter (fun _ => true) l).all (fun _ => true) = true := by simp
    rw [hall]
    refine wpAny_truthy_bool ?_
    simp only [Bool.not_true, Bool.false_eq_true, if_false]
    refine wpAny_execs_nil ?_
    have hk : ∀ b o, b ≠ P → s1.heap.get? b = some o → s6.heap.get? b = some o := fun b o hb e => hk6 b o (Nat.le_sub_one_of_lt (Heap.lt_size e)) (hk5 b o hb e)
    have I6 := Inv.regrown I1 hP hk F6.keep
    have S6 : Same s₀ s6 := ⟨(hos6.trans hos).trans Sx.1, fun _ => G6⟩
    refine rest_law (hev _) A _ nb vs Λ1 μ1 s6 _ vs' Λ' _ E hA I6 (hR ▸ hx) fun flow s7 μ7 S7 p7 I7 r7 => ?_
    obtain ⟨y, rfl, r⟩ := r7.retOf
    cases r
    exact ⟨rfl, S6.trans S7, Bs'.old.step_keeps I7.keep⟩
end
end Mine

/-! ## part E5 -/
set_option maxRecDepth 4000
set_option linter.unusedVariables false
namespace Mine
open PySem PySem.Calls PyProof.Rows PySem.SeqAt

section
variable {g : Gl} {pm cd doc : Value} {a : Addr} {c P : Addr} {bm : Addr} {ob : Obj} {s₀ : Shared} {μ₀ : List Addr}
theorem sj_law (ev : Ev g) (hP : Bare g.hG P) (Bs : Based g.hG g.hG c P #[]) (M : BMod g.hG mainGlobals g.mg bm ob) (hcd : cd = .ref c) (hb : AllBare s₀.gens) {a0 : Addr} (h0 : μ₀[0]? = some a0) (hm : g.mg "_law_gaps" = some (.ref a0)) :
    SJ (J0 g.hG s₀ μ₀) (Left g.hG s₀) g lawD (lawFm g pm cd doc a) lawBody b_law := by
  have hF : ∀ (A : Around) (B : Addr → Option Obj) (nb : Nat) (vs : Vars) (Λ : Led) (μ : List Addr) (s : Shared), J0 g.hG s₀ μ₀ A B nb μ s → In g B (lawFm g pm cd doc a) nb vs Λ μ s.heap → Left g.hG s₀ s := by
    rintro A B nb vs Λ μ s ⟨rfl, _, S⟩ I
    exact ⟨S, (OldK.refl _).step_keeps I.keep⟩
  exact SJ.cons J0.step hF (s1_law_0 ev).j (SJ.cons J0.step hF (s1_law_1 ev).j (SJ.cons J0.step hF (s1_law_2 ev h0 hm) (SJ.cons J0.step hF (s1_law_3 ev).j (SJ.cons J0.step hF (s1_law_4 ev).j (SJ.cons J0.step hF (s1_law_5 ev).j (SJ.cons J0.step hF (s1_law_6 ev).j (SJ.cons J0.step hF (s1_law_7 ev).j (SJ.cons J0.step hF (s1_law_8 ev).j (SJ.cons J0.step hF (s1_law_9 ev).j (SJ.cons J0.step hF (s1_law_10 ev).j (SJ.cons J0.step hF (s1_law_11 ev).j (SJ.cons J0.step hF (s1_law_12 ev).j (SJ.cons J0.step hF (s1_law_13 ev).j (SJ.cons J0.step hF (s1_law_14 ev).j (SJ.cons J0.step hF (s1_law_15 ev).j (SJ.cons J0.step hF (s1_law_16 ev).j (SJ.cons J0.step hF (s1_law_17 ev).j (SJ.cons J0.step hF (s1_law_18 ev).j (SJ.cons J0.step hF (s1_law_19 ev).j (SJ.cons J0.step hF (s1_law_20 ev).j (SJ.cons J0.step hF (s1_law_21 ev).j (SJ.cons J0.step hF (s1_law_22 ev).j (SJ.cons J0.step hF (s1_law_23 ev).j (SJ.cons J0.step hF (s1_law_24 ev).j (SJ.cons J0.step hF (s1_law_25 ev).j (SJ.cons J0.step hF (s1_law_26 ev).j (SJ.cons J0.step hF (s1_law_27 ev).j (SJ.cons J0.step hF (s1_law_28 ev).j (SJ.cons J0.step hF (s1_law_29 ev).j (SJ.cons J0.step hF (s1_law_30 ev).j (SJ.cons J0.step hF (s1_law_31 ev).j (SJ.cons J0.step hF (s1_law_32 ev).j (SJ.cons J0.step hF (s1_law_33 ev).j (SJ.cons J0.step hF (s1_law_34 ev).j (SJ.cons J0.step hF (s1_law_35 ev).j (tail_law ev hP Bs M hcd hb))))))))))))))))))))))))))))))))))))

theorem Inv.enter0 {prog : Program} {w : World} {hG h h' : Heap} {f' : Fm} {vs' : Vars} {Λ : Led} {μ : List Addr} (hlen : μ.length = Λ.length) (hobj : ∀ (k : Nat) a o, μ[k]? = some a → Λ[k]? = some o → ObjIs prog w μ h a o) (hgl : ∀ b o, hG.get? b = some o → h.get? b = some o)
    (hk : ∀ b o, h.get? b = some o → h'.get? b = some o)
    (hL : h.get? f'.env.locals = none) (hns : ∃ m, h'.Ns f'.env.locals m)
    (hc : ∀ x, x ∈ f'.own → ∃ c v, f'.env.cells.lookup x = some c ∧ h'.IsCell c v ∧ h.get? c = none ∧ c ≠ f'.env.locals)
    (ha : ∀ x y c, x ∈ f'.own → f'.env.cells.lookup x = some c → f'.env.cells.lookup y = some c → x = y)
    (hv : ∀ (i : Nat) x v, f'.names[i]? = some x → getV vs' i = some v → ∃ val, VIs μ v val ∧ Loc f'.env x h' val) : Inv prog w hG (fun b => h.get? b) f' Λ.length vs' Λ μ h' := by
  have hlt : ∀ (k : Nat) a, μ[k]? = some a → ∃ x, h.get? a = some x := fun k a e => by
    have : k < Λ.length := by rw [← hlen]; exact (List.getElem?_eq_some_iff.mp e).1
    exact (hobj k a _ e (List.getElem?_eq_getElem this)).get
  refine ⟨hlen, by rw [hlen]; exact Nat.le_refl _, fun k a o e1 e2 => ?_, hk, hgl, ?_, ?_, ?_, ⟨hL, hns⟩, hc, ha, hv⟩
  · obtain ⟨x, hx⟩ := hlt k a e1
    exact (hobj k a o e1 e2).keep (List.prefix_refl _) (by rw [hx]; exact hk _ _ hx)
  · intro k a hb e
    have := (List.getElem?_eq_some_iff.mp e).1
    rw [hlen] at this; lia
  · intro j k a hb e1 e2
    have := (List.getElem?_eq_some_iff.mp e2).1
    rw [hlen] at this; lia
  · intro k a e
    obtain ⟨o, ho⟩ := hlt k a e
    refine ⟨?_, ?_⟩
    · rintro rfl; rw [hL] at ho; cases ho
    · rintro x c hx hcl rfl
      obtain ⟨c', v, e1, _, e3, _⟩ := hc x hx
      rw [e1] at hcl; cases hcl
      rw [e3] at ho; cases ho

/-- the call of the law -/
theorem law_call {w : World} {mg mb : Str → Option Value} (ev : Ev ⟨pw, w, s₀.heap, mg, mb⟩) (hP : Bare s₀.heap P) (Bs : Based s₀.heap s₀.heap c P #[]) (M : BMod s₀.heap mainGlobals mg bm ob) (hcc : cd = .ref c) (hb : AllBare s₀.gens) {a0 : Addr} (h0 : μ₀[0]? = some a0)
    (hm : mg "_law_gaps" = some (.ref a0)) {o : Obj} (ho : s₀.heap.get? a = some o) (hd : o.data = .func (fdOf lawI pm cd doc)) (hcd : s₀.heap.CodeRec cd (fnName (st lawI))) {Λ0 Λ' : Led} (hlen : μ₀.length = Λ0.length)
    (hobj : ∀ (k : Nat) a o, μ₀[k]? = some a → Λ0[k]? = some o → ObjIs pw w μ₀ s₀.heap a o) {v : V} {val : Value} (hv : VIs μ₀ v val) (hrun : f_law [v] Λ0 = some (.bool true, Λ')) {A : Around} {E : Value → Shared → Prop} (hA : Rm (lawD + 1) A) :
    wpAny (model pw w) A (call (.ref a) [val]) (fun x s' => x = .bool true ∧ Left s₀.heap s₀ s') E s₀ := by
  unfold f_law def_ at hrun
  simp only [List.length_cons, List.length_nil, if_true, Option.bind_eq_bind, Option.bind_eq_some_iff] at hrun
  obtain ⟨⟨fl, vs1, Λ1⟩, h1, h2⟩ := hrun
  obtain rfl : fl = .ret (.bool true) := by
    cases fl with
    | next => cases h2
    | ret u => cases h2; rfl
  cases h2
  refine wpAny_call (codeAny_call_function (fd := fdOf lawI pm cd doc) (body := lawBody) (by have := hA.2.1; lia) ho hd (by rfl) (by rfl) (by rfl) hcd ?_)
  rw [show bindArgs (fdOf lawI pm cd doc) ⟨[val], []⟩ = pure ((["script"] : List Str).zip [val]) from rfl]
  refine wpAny_pure (wpAny_newFunctionEnv_cells (by rfl) (fun y hy => .inl ?_) fun env he s' hin => ?_)
  · simp at hy; subst hy; rfl
  have he' : env = callEnvC (fdOf lawI pm cd doc) s₀.heap.objs.size a := he
  subst he'
  obtain ⟨h₀, tk, rfl, _⟩ := hin.done
  have hk₀ : ∀ b o, s₀.heap.get? b = some o → h₀.get? b = some o := hin.toInCall.keep
  refine ⟨ev.gk.lim.keeps hk₀, codeAny_func ?_⟩
  have J : In ⟨pw, w, s₀.heap, mg, mb⟩ (fun b => s₀.heap.get? b) (lawFm ⟨pw, w, s₀.heap, mg, mb⟩ pm cd doc a) Λ0.length ([v].map some ++ List.replicate 37 none) Λ0 μ₀ h₀ := by
    refine Inv.enter0 hlen hobj (fun b o e => e) hk₀ (get_size _) ⟨_, hin.toInCall.ns⟩ (fun y hy => ?_) (fun y z c hy e1 e2 => ?_) fun i y u e1 e2 => ?_
    · have hsome : ((cellsFrom (s₀.heap.objs.size + 1) (fnScope (st lawI)).names []).lookup y).isSome = true :=
        (show ∀ x ∈ lawOwn, ((cellsFrom (s₀.heap.objs.size + 1) (fnScope (st lawI)).names []).lookup x).isSome = true from all_cons (by rfl) (all_cons (by rfl) (all_cons (by rfl) (all_cons (by rfl) (all_cons (by rfl) (all_cons (by rfl) (all_cons (by rfl) all_nil))))))) y hy
      cases hq : (cellsFrom (s₀.heap.objs.size + 1) (fnScope (st lawI)).names []).lookup y with
      | none => rw [hq] at hsome; cases hsome
      | some c =>
        have hlt : s₀.heap.objs.size < c := hin.above y c (pair_mem hq)
        exact ⟨c, _, hq, hin.cell y c hq, get_above (Nat.le_of_lt hlt), Nat.ne_of_gt hlt⟩
    · have m1 := pair_mem e1
      have m2 := pair_mem e2
      have hp := hin.apart
      by_cases hyz : y = z
      · exact hyz
      · exfalso
        have : ∀ (l : List (Str × Addr)), l.Pairwise (fun x y => x.2 ≠ y.2) → (y, c) ∈ l → (z, c) ∈ l → False := by
          intro l hl q1 q2
          induction hl with
          | nil => cases q1
          | cons hh _ ih =>
            rcases List.mem_cons.mp q1 with e | q1 <;> rcases List.mem_cons.mp q2 with e' | q2
            · rw [← e] at e'; cases e'; exact hyz rfl
            · exact hh _ q2 (by rw [← e])
            · exact hh _ q1 (by rw [← e'])
            · exact ih q1 q2
        exact this _ hp m1 m2
    · have e3 := getV_args e2
      cases i with
      | succ n => simp at e3
      | zero =>
        simp at e3; subst e3
        cases e1
        refine ⟨val, hv, .inl ⟨by rfl, _, hin.toInCall.ns, ?_⟩⟩
        rw [bindL_all _ _ (fun p hp => by simp at hp; subst hp; rfl)]
        rfl
  refine wpAny_mono (sj_law ev hP Bs M hcc hb h0 hm (A.deeper _) _ _ _ Λ0 μ₀ { s₀ with heap := h₀, toks := tk } vs1 _ _ ⟨rfl, List.prefix_refl _, Same.of⟩ hA.deeper J h1) (fun f s' hf => ?_) fun _ _ e => e
  obtain ⟨rfl, hl⟩ := hf
  exact ⟨rfl, hl⟩
end
end Mine

/-! ## part F1 -/
open PySem PySem.W PyProof.Rows
set_option Elab.async false
set_option maxRecDepth 100000
set_option maxHeartbeats 8000000
set_option linter.unusedVariables false
namespace Mine

/-! the head: the text's top, run whole by the kernel -/
def vw : Program := { pw with main := { pw.main with body := (pw.main.body.eraseIdx 12).eraseIdx 0 } }
abbrev rr : OpenRow := PySem.Challenge.rw_sx_vcinder_8.row
noncomputable def en (P : Params) (x : String) (t : Nat) (v : Value) : DictEntry := { hash := PyData.keyHash P (Str.ofString x), key := .str (Str.ofString x) t, val := v }
noncomputable def nsO (P : Params) : Obj := { cls := .type "dict", data := .dict #[en P "__name__" 165 (.str (Str.ofString "law_sx_vcinder_8") 303), en P "__doc__" 166 .none, en P "__package__" 167 .none, en P "__loader__" 168 (.builtin "__main__.__loader__#opaque"), en P "__spec__" 169 .none, en P "__annotations__" 170 (.ref 6), en P "__builtins__" 171 (.ref 4), en P "__file__" 173 (.str (Str.ofString "/claim/cut.py") 172), en P "__cached__" 174 .none,
  en P "is_pointer" 195 (.ref 21), en P "pointer_to" 202 (.ref 28), en P "address_of" 209 (.ref 35), en P "blocks_of" 221 (.ref 42), en P "fields_of" 229 (.ref 49), en P "with_field" 240 (.ref 56), en P "reachable" 251 (.ref 63), en P "swept" 264 (.ref 70), en P "collected_by_sweeping" 272 (.ref 77), en P "forwarded" 285 (.ref 84), en P "collected_by_copying" 302 (.ref 91),
  en P "_law_gaps" 335 (.ref 98), en P "_law_gap" 342 (.ref 105), en P "_law_heads" 353 (.ref 112), en P "_law_words" 363 (.ref 119), en P "_law_order" 374 (.ref 126), en P "_law_heap" 385 (.ref 133), en P "_law_packed" 391 (.ref 138), en P "_law_write" 401 (.ref 145), en P "law" 407 (.ref 150)] 29 }
noncomputable def tO (vs : Array Value) : Obj := { cls := .type "tuple", data := .seq vs }
noncomputable def K8 (P : Params) : Frag := [(3, nsO P), (92, tO #[.int 0 305, .int 0 306, .int 0 307, .int 0 308, .int 0 309]), (93, tO #[.int 0 310, .int 0 311, .int 0 312, .int 0 313, .int 1 314]), (94, tO #[.int 1 315, .int 0 316, .int 0 317, .int 0 318, .int 0 319]),
  (95, tO #[.int 0 320, .int 2 321, .int 0 322, .int 1 323, .int 0 324]), (96, tO #[.int 0 325, .int 0 326, .int 1 327, .int 0 328, .int 3 329]), (97, tO #[.int 2 330, .int 1 331, .int 0 332, .int 0 333, .int 0 334]), (98, tO #[.ref 92, .ref 93, .ref 94, .ref 95, .ref 96, .ref 97])]
noncomputable abbrev H8 : Hook := kHook K8 [3, 92, 93, 94, 95, 96, 97, 98] (fun _ => rfl)
theorem left8 : LeftO rr.prog vw [] (fun s => xlAt vw [] s && recOk (RowW.records rr.toRowW) s) (Hook.obs H8) (Hook.val H8) 1466 := fun w => by kernel_rfl
theorem head8 (walk : WalkO vw [] (XL vw []) (Hook.says H8) rr.toRowW (rc lawI) [] fun f vs => PySem.call f vs) : PySem.Challenge.rw_sx_vcinder_8.Holds := by
  w_on
  o_law
  exact holds_open (r := rr) (q := vw) (loose := []) (Xt := fun s => xlAt vw [] s && recOk (RowW.records rr.toRowW) s) (XP := XL vw []) (Yf := Hook.obs H8) (Ya := Hook.val H8) (YP := Hook.says H8) (d := (rc lawI)) (kwd := []) (N := 1466) left8 (Hook.of H8) (Hook.keeps H8) (fun s e => xl_of s (Bool.and_eq_true_iff.mp e).1) XL.keeps (by kernel_rfl) (by kernel_rfl) (by kernel_rfl) (fun s e => recFacts_of (Bool.and_eq_true_iff.mp e).2) (by kernel_rfl) (by assumption) (by decide +kernel) ⟨rfl, rfl, rfl, rfl, rfl, by decide +kernel⟩ (by w_witness2) walk

theorem base_objs {w : World} {h : Heap} {la : Addr} {us : List Value} {ns : List Int} (KX : (K8 w.params).In h) (hl : h.get? la = some { cls := .type "list", data := .seq us.toArray }) (hI : IntsAre us ns) :
    ∀ (k : Nat) a o, ([98, 92, 93, 94, 95, 96, 97, la] : List Addr)[k]? = some a → (gaps0 ++ [.list (ns.map .int)])[k]? = some o → ObjIs pw w [98, 92, 93, 94, 95, 96, 97, la] h a o := by
  intro k a o e1 e2
  match k with
  | 0 => cases e1; cases e2; exact ⟨_, _, KX 98 _ rfl, .cons ⟨92, rfl, rfl⟩ (.cons ⟨93, rfl, rfl⟩ (.cons ⟨94, rfl, rfl⟩ (.cons ⟨95, rfl, rfl⟩ (.cons ⟨96, rfl, rfl⟩ (.cons ⟨97, rfl, rfl⟩ .nil)))))⟩
  | 1 => cases e1; cases e2; exact ⟨_, _, KX 92 _ rfl, .cons ⟨_, rfl⟩ (.cons ⟨_, rfl⟩ (.cons ⟨_, rfl⟩ (.cons ⟨_, rfl⟩ (.cons ⟨_, rfl⟩ .nil))))⟩
  | 2 => cases e1; cases e2; exact ⟨_, _, KX 93 _ rfl, .cons ⟨_, rfl⟩ (.cons ⟨_, rfl⟩ (.cons ⟨_, rfl⟩ (.cons ⟨_, rfl⟩ (.cons ⟨_, rfl⟩ .nil))))⟩
  | 3 => cases e1; cases e2; exact ⟨_, _, KX 94 _ rfl, .cons ⟨_, rfl⟩ (.cons ⟨_, rfl⟩ (.cons ⟨_, rfl⟩ (.cons ⟨_, rfl⟩ (.cons ⟨_, rfl⟩ .nil))))⟩
  | 4 => cases e1; cases e2; exact ⟨_, _, KX 95 _ rfl, .cons ⟨_, rfl⟩ (.cons ⟨_, rfl⟩ (.cons ⟨_, rfl⟩ (.cons ⟨_, rfl⟩ (.cons ⟨_, rfl⟩ .nil))))⟩
  | 5 => cases e1; cases e2; exact ⟨_, _, KX 96 _ rfl, .cons ⟨_, rfl⟩ (.cons ⟨_, rfl⟩ (.cons ⟨_, rfl⟩ (.cons ⟨_, rfl⟩ (.cons ⟨_, rfl⟩ .nil))))⟩
  | 6 => cases e1; cases e2; exact ⟨_, _, KX 97 _ rfl, .cons ⟨_, rfl⟩ (.cons ⟨_, rfl⟩ (.cons ⟨_, rfl⟩ (.cons ⟨_, rfl⟩ (.cons ⟨_, rfl⟩ .nil))))⟩
  | 7 => cases e1; cases e2; exact ⟨_, _, hl, by simpa using ints_of hI⟩
  | k + 8 => simp at e1

theorem recs_vw : recsOf pw = recsOf vw := by kernel_rfl
theorem join (hplain : ∀ ns : List Int, ns.length ≤ 63 → ∃ Λ', f_law [.ref 7] (gaps0 ++ [.list (ns.map .int)]) = some (.bool true, Λ')) : PySem.Challenge.rw_sx_vcinder_8.Holds := head8 (by
  intro w s₀ s₁ mg mb G Y fa o pm cd doc dV kV ho hd hcd hD hmg hg args vals as hpre hlay hrd hwl hlo
  have KX := kIn_of Y
  have X := (Ground.X G).1
  have V := (Ground.X G).2
  refine Ground.open G ?_
  intro T B D TE TW
  obtain ⟨bm, ob, hbm⟩ := bmod_of_top T
  obtain ⟨c, P, hcc, hba⟩ := based_of_top T (d := rc lawI) rfl hmg ho hd
  wrow_args hpre hlay hrd hwl hlo
  rename_i ns hs hlay0 hL hr hl2 as1 as2 la us as3 hl ra w1 r0 hI hr2 hc1 hc2
  have hn : ns.length ≤ 63 := by lia
  obtain ⟨Λ', hrun⟩ := hplain ns hn
  have he := Dflts.none hD rfl
  have hk := Dflts.kw_none hD rfl
  subst he; subst hk
  have hfree : ∀ x ∈ blts.map (·.1), mg x = none := fun x hx => by
    have hall : ∀ x ∈ blts.map (·.1), x ∉ startupNames ∧ x ∉ looseW vw [] ∧ x ∉ (recsOf vw).map (·.name) ∧ x ∉ (litsOf vw).map (·.1) ∧ x ∉ (clssOf vw (looseW vw [])).map (·.name) := by decide +kernel
    obtain ⟨h1, h2, h3, h4, h5⟩ := hall x hx
    exact T.free x h1 h2 h3 h4 h5
  have ev : Ev ⟨pw, w, s₁.heap, mg, mb⟩ := by
    refine ⟨⟨T.g, T.b, T.nolimit⟩, fun d hd => T.fn d (recs_vw ▸ hd), fun p hp => ⟨hfree p.1 (List.mem_map_of_mem hp), ?_⟩⟩
    have hb : ∀ p ∈ blts, p.1 ≠ "__name__" ∧ bootBuiltins p.1 = some p.2 := by decide +kernel
    exact (T.builtins p.1 (hb p hp).1).trans (hb p hp).2
  have hle : s₁.heap.get? la = some { cls := .type "list", data := .seq us.toArray } := by
    obtain ⟨o1, e1, _, n1, e2⟩ := hl
    cases w1 with
    | list q _ => rw [q] at e1; cases e1; cases e2; exact q
  have hm : mg "_law_gaps" = some (.ref 98) := mg_of KX T.g (by kernel_rfl)
  have hbare : Bare s₁.heap P := hba.tab.2
  have hbg : AllBare s₁.gens := AllBare.of_eq hg
  refine wpAny_mono (law_call (μ₀ := [98, 92, 93, 94, 95, 96, 97, la]) (v := .ref 7) (val := .ref la) ev hbare hba hbm hcc hbg rfl hm ho hd hcd rfl (base_objs KX hle hI) ⟨la, rfl, rfl⟩ hrun ⟨rfl, by decide, by decide⟩ (E := fun _ _ => False)) (fun v s' hv => ?_) fun _ _ e => e.elim
  obtain ⟨rfl, S, hold⟩ := hv
  exact ⟨.inl ⟨_, _, _, rfl, raisesW_false (by wrow_none_raised), PySem.W.ReadsW.bool true, postW_of (by wrow_shape) (by wtm_val) (by w_fin), unshared_nil⟩, hold, S.1, S.2 hbg⟩)
end Mine

theorem PySem.Challenge.cw_sx_vcinder_8_holds : PySem.Challenge.rw_sx_vcinder_8.Holds := by
  exact Mine.join Mine.hplain
