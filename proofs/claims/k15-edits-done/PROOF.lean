import PyProof.Rows.All
import Wide.All
import OpenK.AllK
import Wide.FinOn
import PySem.Challenge.RW_defterms_k15_edits_done
import PySem.PyData
import HandS.ForMost
import HandS.Exc
import HandS.Flow
import HandS.TupAny
import HandS.TupMul
import HandS.Conv
import HandS.IsInst
import HandS.RevRange
import HandS.Style
import KE.KeyNested
import KE.KDictWalk
import KE.DataEq
import KE.DataIsa
import HandS.Lambda
import KE.GoesNew
import KE.GoesEnum
import KE.KDictPairs
import KE.KDictKeyed
import HandS.TupLen
import KE.KDictCopyH
import KE.SortData
import KE.DataMinMax
import KE.KDictSum
import KE.SortKeyHeap
import KE.KSortKey
import PyProof.DictValues
import HandS.WordsExc
import HandS.ExcOwn
import HandS.ExcIs
import KE.DataFind
import HandS.ExcInit
import HandS.FStr
import HandS.ExcField
import KE.KIsAll
import KE.KTryMore
import HandS.EndOwn
import KE.KNestM
set_option autoImplicit false
set_option Elab.async false
set_option linter.all false
set_option maxRecDepth 100000
/-! A small semantics of what the programs at hand use: values as plain data, mutable objects in a store, constructs as functions. No model of the machine in sight. -/
namespace Df
open PySem (Str)

/-- a value: plain data (lists and dicts here are ones that nobody changes any more), or the i-th object of the store -/
inductive D where
  | non
  | bl (b : Bool)
  | int (i : Int)
  | str (s : Str)
  | tup (xs : List D)
  | lst (xs : List D)
  | dct (kvs : List (D × D))
  | ref (i : Nat)
  | scr (ns : List Int)
  | xc (c : String) (v : D)
  | clo (t : Nat) (ds : List D)

instance : Inhabited D := ⟨.non⟩

namespace D
mutual
def beq : D → D → Bool
  | .non, .non => true
  | .bl a, .bl b => a == b
  | .int a, .int b => a == b
  | .str a, .str b => a == b
  | .tup a, .tup b => beqL a b
  | .lst a, .lst b => beqL a b
  | .dct a, .dct b => beqP a b
  | .ref a, .ref b => a == b
  | .scr a, .scr b => a == b
  | .xc a x, .xc b y => a == b && beq x y
  | .clo a x, .clo b y => a == b && beqL x y
  | _, _ => false
def beqL : List D → List D → Bool
  | [], [] => true
  | a :: as, b :: bs => beq a b && beqL as bs
  | _, _ => false
def beqP : List (D × D) → List (D × D) → Bool
  | [], [] => true
  | (a, x) :: as, (b, y) :: bs => beq a b && beq x y && beqP as bs
  | _, _ => false
end
mutual
theorem beq_self : ∀ a : D, beq a a = true
  | .non => rfl
  | .bl a => by simp [beq]
  | .int a => by simp [beq]
  | .str a => by simp [beq]
  | .tup a => by rw [beq]; exact beqL_self a
  | .lst a => by rw [beq]; exact beqL_self a
  | .dct a => by rw [beq]; exact beqP_self a
  | .ref a => by simp [beq]
  | .scr a => by simp [beq]
  | .xc a x => by rw [beq, beq_self x]; simp
  | .clo a x => by rw [beq, beqL_self x]; simp
theorem beqL_self : ∀ a : List D, beqL a a = true
  | [] => rfl
  | a :: as => by rw [beqL, beq_self a, beqL_self as]; rfl
theorem beqP_self : ∀ a : List (D × D), beqP a a = true
  | [] => rfl
  | (a, x) :: as => by rw [beqP, beq_self a, beq_self x, beqP_self as]; rfl
end
mutual
theorem eq_of_beq : ∀ a b : D, beq a b = true → a = b
  | .non, b, h => by cases b <;> simp_all [beq]
  | .bl a, b, h => by cases b <;> simp_all [beq]
  | .int a, b, h => by cases b <;> simp_all [beq]
  | .str a, b, h => by cases b <;> simp_all [beq]
  | .tup a, b, h => by
    cases b <;> simp only [beq] at h <;> first | exact absurd h Bool.false_ne_true | skip
    rw [eq_of_beqL _ _ h]
  | .lst a, b, h => by
    cases b <;> simp only [beq] at h <;> first | exact absurd h Bool.false_ne_true | skip
    rw [eq_of_beqL _ _ h]
  | .dct a, b, h => by
    cases b <;> simp only [beq] at h <;> first | exact absurd h Bool.false_ne_true | skip
    rw [eq_of_beqP _ _ h]
  | .ref a, b, h => by cases b <;> simp_all [beq]
  | .scr a, b, h => by cases b <;> simp_all [beq]
  | .xc a x, b, h => by
    cases b <;> simp only [beq] at h <;> first | exact absurd h Bool.false_ne_true | skip
    rw [Bool.and_eq_true] at h
    rw [beq_iff_eq.mp h.1, eq_of_beq _ _ h.2]
  | .clo a x, b, h => by
    cases b <;> simp only [beq] at h <;> first | exact absurd h Bool.false_ne_true | skip
    rw [Bool.and_eq_true] at h
    rw [beq_iff_eq.mp h.1, eq_of_beqL _ _ h.2]
theorem eq_of_beqL : ∀ a b : List D, beqL a b = true → a = b
  | [], b, h => by cases b <;> simp_all [beqL]
  | a :: as, b, h => by
    cases b with
    | nil => simp [beqL] at h
    | cons b bs =>
      rw [beqL, Bool.and_eq_true] at h
      rw [eq_of_beq _ _ h.1, eq_of_beqL _ _ h.2]
theorem eq_of_beqP : ∀ a b : List (D × D), beqP a b = true → a = b
  | [], b, h => by cases b <;> simp_all [beqP]
  | (a, x) :: as, b, h => by
    cases b with
    | nil => simp [beqP] at h
    | cons b bs =>
      obtain ⟨b, y⟩ := b
      rw [beqP, Bool.and_eq_true, Bool.and_eq_true] at h
      rw [eq_of_beq _ _ h.1.1, eq_of_beq _ _ h.1.2, eq_of_beqP _ _ h.2]
end
instance : DecidableEq D := fun a b => if h : beq a b = true then .isTrue (eq_of_beq a b h) else .isFalse fun e => h (e ▸ beq_self a)

mutual
/-- no object of the store, no closure within -/
def flat : D → Bool
  | .tup xs => flatL xs
  | .lst xs => flatL xs
  | .dct kvs => flatP kvs
  | .ref _ => false
  | .clo _ ds => flatL ds
  | .xc _ v => flat v
  | _ => true
def flatL : List D → Bool
  | [] => true
  | x :: xs => flat x && flatL xs
def flatP : List (D × D) → Bool
  | [] => true
  | (k, v) :: r => flat k && flat v && flatP r
end
mutual
/-- numbers, truth values, None, texts, tuples and lists -/
def plain : D → Bool
  | .non | .bl _ | .int _ | .str _ => true
  | .tup xs => plainL xs
  | .lst xs => plainL xs
  | .dct _ | .ref _ | .xc _ _ | .clo _ _ | .scr _ => false
def plainL : List D → Bool
  | [] => true
  | x :: xs => plain x && plainL xs
end
mutual
/-- no truth value within -/
def noB : D → Bool
  | .bl _ => false
  | .tup xs => noBL xs
  | .lst xs => noBL xs
  | .dct _ | .ref _ | .xc _ _ | .clo _ _ | .scr _ => false
  | .non | .int _ | .str _ => true
def noBL : List D → Bool
  | [] => true
  | x :: xs => noB x && noBL xs
end
mutual
def depth : D → Nat
  | .tup xs => depthL xs + 1
  | .lst xs => depthL xs + 1
  | _ => 0
def depthL : List D → Nat
  | [] => 0
  | x :: xs => max (depth x) (depthL xs)
end
mutual
/-- True is 1, False is 0 -/
def norm : D → D
  | .bl b => .int (if b = true then 1 else 0)
  | .tup xs => .tup (normL xs)
  | .lst xs => .lst (normL xs)
  | d => d
def normL : List D → List D
  | [] => []
  | x :: xs => norm x :: normL xs
end
/-- a == b -/
def eqv (a b : D) : Bool := norm a == norm b
mutual
theorem norm_of : ∀ d : D, noB d = true → norm d = d
  | .non, _ => rfl
  | .bl _, h => by simp [noB] at h
  | .int _, _ => rfl
  | .str _, _ => rfl
  | .tup xs, h => by rw [norm, normL_of xs (by simpa [noB] using h)]
  | .lst xs, h => by rw [norm, normL_of xs (by simpa [noB] using h)]
  | .dct _, _ => rfl
  | .ref _, _ => rfl
  | .scr _, _ => rfl
  | .xc _ _, _ => rfl
  | .clo _ _, _ => rfl
theorem normL_of : ∀ xs : List D, noBL xs = true → normL xs = xs
  | [], _ => rfl
  | x :: xs, h => by
    rw [noBL, Bool.and_eq_true] at h
    rw [normL, norm_of x h.1, normL_of xs h.2]
end
theorem eqv_of {a b : D} (ha : noB a = true) (hb : noB b = true) : eqv a b = decide (a = b) := by
  unfold eqv
  rw [norm_of a ha, norm_of b hb]
  by_cases h : a = b
  · rw [decide_eq_true h]; exact beq_iff_eq.mpr h
  · rw [decide_eq_false h]; exact beq_eq_false_iff_ne.mpr h
end D

/-- a mutable object -/
inductive MO where
  | lst (xs : List D)
  | dct (kvs : List (D × D))
  | ins (c : String) (fs : List (String × D))
  | dead
abbrev Store := List MO
/-- an exception: its class's name, its value -/
structure XD where
  c : String
  v : D
inductive R (α : Type) where
  | ok (a : α) (L : Store)
  | err (x : XD) (L : Store)
  | bad
@[simp] def R.andThen {α β : Type} (r : R α) (f : α → Store → R β) : R β := match r with
  | .ok a L => f a L
  | .err x L => .err x L
  | .bad => .bad
def R.noErr {α : Type} : R α → R α
  | .err _ _ => .bad
  | r => r
abbrev Sl := List (Option D)
abbrev Ev := Sl → Store → R D
abbrev Tv := Sl → Store → R Bool
abbrev Av := Sl → Store → R (List D)
/-- how a statement ends -/
inductive Fl where
  | nx (δ : Sl)
  | rt (d : D)
  | bk (δ : Sl)
  | ct (δ : Sl)
abbrev Sv := Sl → Store → R Fl
abbrev Fn := List D → Store → R D

/-! ### values -/
/-- the list that a value is, or the value -/
def look (L : Store) : D → D
  | .ref i => match L[i]? with
    | some (.lst xs) => .lst xs
    | _ => .ref i
  | d => d
/-- the items of a list or tuple -/
def seqOf (L : Store) : D → Option (List D)
  | .tup xs => some xs
  | .lst xs => some xs
  | .scr ns => some (ns.map .int)
  | .ref i => match L[i]? with
    | some (.lst xs) => some xs
    | _ => none
  | _ => none
def lstOf (L : Store) : D → Option (List D)
  | .lst xs => some xs
  | .ref i => match L[i]? with
    | some (.lst xs) => some xs
    | _ => none
  | _ => none
def dctOf (L : Store) : D → Option (List (D × D))
  | .dct kvs => some kvs
  | .ref i => match L[i]? with
    | some (.dct kvs) => some kvs
    | _ => none
  | _ => none
/-- lengths that are safe -/
def most : Nat := 16000000
/-- the place that an index of any sign means -/
def ixI (n : Nat) (i : Int) : Option Nat := if 0 ≤ i then (if i < n then some i.toNat else none) else if -(n : Int) ≤ i then some (i + n).toNat else none
def atInt {α : Type} (xs : List α) (i : Int) : Option α := (ixI xs.length i).bind fun j => xs[j]?
def ixOf (n : Nat) (d : Nat) : Option Int → Nat
  | none => d
  | some i => if i < 0 then (i + (n : Int)).toNat else min i.toNat n
def cutL {α : Type} (xs : List α) (lo hi : Option Int) : List α :=
  (xs.drop (ixOf xs.length 0 lo)).take (ixOf xs.length xs.length hi - ixOf xs.length 0 lo)
def dget : List (D × D) → D → Option D
  | [], _ => none
  | (a, x) :: r, k => if D.eqv a k then some x else dget r k
def dput : List (D × D) → D → D → List (D × D)
  | [], k, v => [(k, v)]
  | (a, x) :: r, k, v => if D.eqv a k then (a, v) :: r else (a, x) :: dput r k v

/-! ### expressions -/
def eVar (i : Nat) : Ev := fun δ L => match δ[i]? with
  | some (some d) => .ok d L
  | _ => .bad
def eC (d : D) : Ev := fun _ L => .ok d L
def eNever : Ev := fun _ _ => .bad
def aNil : Av := fun _ L => .ok [] L
def aCons (e : Ev) (a : Av) : Av := fun δ L => (e δ L).andThen fun d L => (a δ L).andThen fun ds L => .ok (d :: ds) L
def eTup (a : Av) : Ev := fun δ L => (a δ L).andThen fun ds L => if ds.length ≤ most then .ok (.tup ds) L else .bad
/-- a new object -/
def alloc (o : MO) (L : Store) : R D := .ok (.ref L.length) (L ++ [o])
def eLst (a : Av) : Ev := fun δ L => (a δ L).andThen fun ds L => if ds.length ≤ most then alloc (.lst ds) L else .bad
def eDct0 : Ev := fun _ L => alloc (.dct []) L
/-- a two-place operation -/
def eOp (f : D → D → Store → R D) (a b : Ev) : Ev := fun δ L => (a δ L).andThen fun x L => (b δ L).andThen fun y L => f x y L
def eUn (f : D → Store → R D) (a : Ev) : Ev := fun δ L => (a δ L).andThen fun x L => f x L
def oAdd : D → D → Store → R D := fun x y L => match x, y with
  | .int i, .int j => .ok (.int (i + j)) L
  | .str i, .str j => if i.length + j.length ≤ most then .ok (.str (i ++ j)) L else .bad
  | .tup xs, .tup ys => if xs.length + ys.length ≤ most then .ok (.tup (xs ++ ys)) L else .bad
  | x, y => match lstOf L x, lstOf L y with
    | some xs, some ys => if xs.length + ys.length ≤ most then alloc (.lst (xs ++ ys)) L else .bad
    | _, _ => .bad
def oSub : D → D → Store → R D := fun x y L => match x, y with
  | .int i, .int j => .ok (.int (i - j)) L
  | _, _ => .bad
def oMul : D → D → Store → R D := fun x y L => match x, y with
  | .int i, .int j => if -(2 ^ 64) < j ∧ j < 2 ^ 64 then .ok (.int (i * j)) L else .bad
  | .tup xs, .int k => if 2 ≤ k ∧ k ≤ 1000 ∧ xs.length ≤ 1000 ∧ xs ≠ [] then .ok (.tup (List.replicate k.toNat xs).flatten) L else .bad
  | _, _ => .bad
def oDiv : D → D → Store → R D := fun x y L => match x, y with
  | .int i, .int j => if 0 < j ∧ j < 1073741824 then .ok (.int (i / j)) L else .bad
  | _, _ => .bad
def oMod : D → D → Store → R D := fun x y L => match x, y with
  | .int i, .int j => if 0 < j then .ok (.int (i % j)) L else .bad
  | _, _ => .bad
def oPow : D → D → Store → R D := fun x y L => match x, y with
  | .int i, .int j => if 0 ≤ j ∧ j ≤ 1000 ∧ i.natAbs < 2 ^ 64 then .ok (.int (i ^ j.toNat)) L else .bad
  | _, _ => .bad
def uNeg : D → Store → R D := fun x L => match x with
  | .int i => .ok (.int (-i)) L
  | _ => .bad
/-- comparisons of numbers -/
def cInt (p : Int → Int → Bool) : D → D → Store → R D := fun x y L => match x, y with
  | .int i, .int j => .ok (.bl (p i j)) L
  | _, _ => .bad
def cLt := cInt fun i j => decide (i < j)
def cLe := cInt fun i j => decide (i ≤ j)
def cGt := cInt fun i j => decide (j < i)
def cGe := cInt fun i j => decide (j ≤ i)
def eqOk (x y : D) : Bool := D.plain x && D.plain y && (decide (D.depth x ≤ 50) || decide (D.depth y ≤ 50))
def cEq : D → D → Store → R D := fun x y L => if eqOk (look L x) (look L y) then .ok (.bl (D.eqv (look L x) (look L y))) L else .bad
def cNe : D → D → Store → R D := fun x y L => if eqOk (look L x) (look L y) then .ok (.bl (!D.eqv (look L x) (look L y))) L else .bad
def isNon (x : D) (L : Store) : Option Bool := match x with
  | .non => some true
  | .ref i => match L[i]? with
    | some .dead => none
    | some _ => some false
    | none => none
  | _ => some false
def cIsN : D → D → Store → R D := fun x y L => match y with
  | .non => match isNon x L with
    | some b => .ok (.bl b) L
    | none => .bad
  | _ => .bad
def cNotN : D → D → Store → R D := fun x y L => match y with
  | .non => match isNon x L with
    | some b => .ok (.bl (!b)) L
    | none => .bad
  | _ => .bad
/-- is x in y -/
def isIn (x y : D) (L : Store) : Option Bool := match y with
  | .str z => match x with
    | .str c => if c.length = 1 then some (c.cps.toList.all fun s => decide (s ∈ z.cps.toList)) else none
    | _ => none
  | y => match seqOf L y with
    | some ys => if D.plain x && D.plainL ys && decide (D.depth x ≤ 50) then some (ys.any fun z => D.eqv z x) else none
    | none => none
def cIn : D → D → Store → R D := fun x y L => match isIn x y L with
  | some b => .ok (.bl b) L
  | none => .bad
def cNotIn : D → D → Store → R D := fun x y L => match isIn x y L with
  | some b => .ok (.bl (!b)) L
  | none => .bad
mutual
/-- None, numbers, texts, tuples of such -/
def keyish : D → Bool
  | .non => true
  | .int _ => true
  | .str _ => true
  | .tup xs => keyishL xs
  | _ => false
def keyishL : List D → Bool
  | [] => true
  | x :: xs => keyish x && keyishL xs
end
mutual
theorem keyish_noB : ∀ d : D, keyish d = true → D.noB d = true
  | .non, _ => rfl
  | .int _, _ => rfl
  | .str _, _ => rfl
  | .tup xs, h => by rw [D.noB]; exact keyishL_noB xs (by simpa [keyish] using h)
  | .bl _, h => absurd h Bool.false_ne_true
  | .lst _, h => absurd h Bool.false_ne_true
  | .dct _, h => absurd h Bool.false_ne_true
  | .ref _, h => absurd h Bool.false_ne_true
  | .scr _, h => absurd h Bool.false_ne_true
  | .xc _ _, h => absurd h Bool.false_ne_true
  | .clo _ _, h => absurd h Bool.false_ne_true
theorem keyishL_noB : ∀ xs : List D, keyishL xs = true → D.noBL xs = true
  | [], _ => rfl
  | x :: xs, h => by
    rw [keyishL, Bool.and_eq_true] at h
    rw [D.noBL, keyish_noB x h.1, keyishL_noB xs h.2]; rfl
end
/-- keys: None, numbers, texts, tuples of such, not too deep -/
def isKey (k : D) : Bool := keyish k && decide (D.depth k ≤ 6)
theorem isKey_noB {k : D} (h : isKey k = true) : D.noB k = true := by
  simp only [isKey, Bool.and_eq_true] at h
  exact keyish_noB k h.1
theorem key_eqv {a b : D} (ha : isKey a = true) (hb : isKey b = true) : D.eqv a b = decide (a = b) := D.eqv_of (isKey_noB ha) (isKey_noB hb)
def cInD : D → D → Store → R D := fun x y L => match dctOf L y with
  | some kvs => if isKey x then .ok (.bl (dget kvs x).isSome) L else .bad
  | none => .bad
def cNotInD : D → D → Store → R D := fun x y L => match dctOf L y with
  | some kvs => if isKey x then .ok (.bl (!(dget kvs x).isSome)) L else .bad
  | none => .bad
/-- a op1 b op2 c -/
def eChain (f g : D → D → Store → R D) (a b c : Ev) : Ev := fun δ L => (a δ L).andThen fun x L => (b δ L).andThen fun y L => (f x y L).andThen fun z L => match z with
  | .bl true => (c δ L).andThen fun w L => g y w L
  | .bl false => .ok (.bl false) L
  | _ => .bad
def eAnd (a b : Ev) : Ev := fun δ L => (a δ L).andThen fun x L => match x with
  | .bl true => b δ L
  | .bl false => .ok (.bl false) L
  | _ => .bad
def eOr (a b : Ev) : Ev := fun δ L => (a δ L).andThen fun x L => match x with
  | .bl false => b δ L
  | .bl true => .ok (.bl true) L
  | _ => .bad
def eNot (a : Ev) : Ev := fun δ L => (a δ L).andThen fun x L => match x with
  | .bl k => .ok (.bl (!k)) L
  | _ => .bad
/-- a value that is True or False, as a test -/
def tVal (a : Ev) : Tv := fun δ L => (a δ L).andThen fun x L => match x with
  | .bl k => .ok k L
  | _ => .bad
def tAnd (a b : Tv) : Tv := fun δ L => (a δ L).andThen fun x L => if x = true then b δ L else .ok false L
def tOr (a b : Tv) : Tv := fun δ L => (a δ L).andThen fun x L => if x = true then .ok true L else b δ L
def tNot (a : Tv) : Tv := fun δ L => (a δ L).andThen fun x L => .ok (!x) L
def tYes : Tv := fun _ L => .ok true L
def eIf (t : Tv) (a b : Ev) : Ev := fun δ L => (t δ L).andThen fun k L => if k = true then a δ L else b δ L
/-- x[i] -/
def oIx : D → D → Store → R D := fun x y L => match y with
  | .int i => match x with
    | .str s => match atInt s.cps.toList i with
      | some c => if s.length ≤ most then .ok (.str ⟨#[c]⟩) L else .bad
      | none => .bad
    | x => match seqOf L x with
      | some xs => match atInt xs i with
        | some d => .ok d L
        | none => .bad
      | none => .bad
  | _ => .bad
/-- d[k] -/
def oKey : D → D → Store → R D := fun x y L => match dctOf L x with
  | some kvs => if isKey y then (match dget kvs y with
    | some v => .ok v L
    | none => .bad) else .bad
  | none => .bad
/-- an end of a slice -/
inductive Pt where
  | no
  | at (e : Ev)
def Pt.run (p : Pt) (δ : Sl) (L : Store) : R (Option Int) := match p with
  | .no => .ok none L
  | .at e => (e δ L).andThen fun d L => match d with
    | .int i => if -(2 ^ 62) < i ∧ i < 2 ^ 62 then .ok (some i) L else .bad
    | _ => .bad
/-- x[lo:hi]; a list's is a new one -/
def eSlice (a : Ev) (lo hi : Pt) : Ev := fun δ L => (a δ L).andThen fun x L => (lo.run δ L).andThen fun i L => (hi.run δ L).andThen fun j L => match x with
  | .tup xs => .ok (.tup (cutL xs i j)) L
  | .str s => if s.length ≤ most then .ok (.str ⟨(cutL s.cps.toList i j).toArray⟩) L else .bad
  | x => match lstOf L x with
    | some xs => alloc (.lst (cutL xs i j)) L
    | none => .bad

/-! ### calls of built-ins -/
/-- a call by values -/
def eB (f : List D → Store → R D) (a : Av) : Ev := fun δ L => (a δ L).andThen fun ds L => f ds L
def bLenS : List D → Store → R D := fun ds L => match ds with
  | [.str s] => if s.length ≤ most then .ok (.int s.length) L else .bad
  | [x] => match seqOf L x with
    | some xs => .ok (.int xs.length) L
    | none => .bad
  | _ => .bad
inductive Ty where
  | int | bool | str | tuple | list
  deriving DecidableEq
def isTy (d : D) : Ty → Bool
  | .int => match d with
    | .int _ => true
    | .bl _ => true
    | _ => false
  | .bool => match d with
    | .bl _ => true
    | _ => false
  | .str => match d with
    | .str _ => true
    | _ => false
  | .tuple => match d with
    | .tup _ => true
    | _ => false
  | .list => match d with
    | .lst _ => true
    | _ => false
/-- isinstance(x, (T, ..)) -/
def eIsi (a : Ev) (ts : List Ty) : Ev := fun δ L => (a δ L).andThen fun x L => if D.plain (look L x) then .ok (.bl (ts.any (isTy (look L x)))) L else .bad
def bTuple : List D → Store → R D := fun ds L => match ds with
  | [x] => match seqOf L x with
    | some xs => .ok (.tup xs) L
    | none => .bad
  | _ => .bad
def bList : List D → Store → R D := fun ds L => match ds with
  | [x] => match seqOf L x with
    | some xs => alloc (.lst xs) L
    | none => .bad
  | _ => .bad
def pairsOf : List D → Option (List (D × D))
  | [] => some []
  | .tup [k, v] :: r => if isKey k then (pairsOf r).map ((k, v) :: ·) else none
  | _ => none
def mkD (ps kvs : List (D × D)) : List (D × D) := ps.foldl (fun kvs p => dput kvs p.1 p.2) kvs
def bDict : List D → Store → R D := fun ds L => match ds with
  | [x] => match lstOf L x with
    | some xs => match pairsOf xs with
      | some ps => if xs.length ≤ most then alloc (.dct (mkD ps [])) L else .bad
      | none => .bad
    | none => .bad
  | _ => .bad

/-! order -/
mutual
/-- the two can be compared, place by place -/
def D.like : D → D → Bool
  | .int _, .int _ => true
  | .str _, .str _ => true
  | .tup xs, .tup ys => likeL xs ys
  | _, _ => false
def likeL : List D → List D → Bool
  | x :: xs, y :: ys => D.like x y && likeL xs ys
  | [], _ => true
  | _ :: _, [] => true
end
mutual
def D.lt : D → D → Bool
  | .int a, .int b => decide (a < b)
  | .str a, .str b => decide (a.cps.toList < b.cps.toList)
  | .tup xs, .tup ys => ltL xs ys
  | _, _ => false
def ltL : List D → List D → Bool
  | [], [] => false
  | [], _ :: _ => true
  | _ :: _, [] => false
  | x :: xs, y :: ys => if x = y then ltL xs ys else D.lt x y
end
def likeAll (xs : List D) : Bool := xs.all fun a => xs.all fun b => D.like a b
def isPlus : D → Bool
  | .tup (_ :: _) => true
  | _ => false
def isAtom : D → Bool
  | .int _ => true
  | .str _ => true
  | _ => false
def sortOk (xs : List D) : Bool := likeAll xs && (xs.all isPlus || xs.all isAtom) && decide (D.depthL xs ≤ 50) && decide (xs.length ≤ most)
def itemsOf (L : Store) (d : D) : Option (List D) := match lstOf L d with
  | some xs => some xs
  | none => (dctOf L d).map fun kvs => kvs.map (·.1)
def sortD (xs : List D) : List D := xs.mergeSort fun a b => !D.lt b a
def bSort : List D → Store → R D := fun ds L => match ds with
  | [x] => match itemsOf L x with
    | some xs => if sortOk xs = true then alloc (.lst (sortD xs)) L else .bad
    | none => .bad
  | _ => .bad
def fstD : D → D
  | .tup (x :: _) => x
  | _ => .non
/-- sorted by the items' first -/
def sortF (xs : List D) : List D := xs.mergeSort fun a b => !D.lt (fstD b) (fstD a)
def bSortK : List D → Store → R D := fun ds L => match ds with
  | [x] => match lstOf L x with
    | some xs => if (xs.all isPlus && sortOk (xs.map fstD)) = true then alloc (.lst (sortF xs)) L else .bad
    | none => .bad
  | _ => .bad
/-- what may not raise, in a def that may -/
def eNE (f : Ev) : Ev := fun δ L => (f δ L).noErr
def tNE (f : Tv) : Tv := fun δ L => (f δ L).noErr
/-- raise c(..) without a value -/
def sRaise0 (c : String) : Sv := fun _ L => .err ⟨c, .non⟩ L
/-- the word of what a work raises -/
def wordOf (c : String) : Option Str := match c with
  | "BadPlace" => some "place"
  | "BadRow" => some "row"
  | "Full" => some "full"
  | "TooLong" => some "long"
  | "TooMany" => some "many"
  | _ => none
/-- S: the errors that are known, none with a value -/
def eWord (S : List String) (g : Ev) : Ev := fun δ L => match g δ L with
  | .ok _ L' => .ok (.str "") L'
  | .err x L' => if S.contains x.c then (match wordOf x.c, x.v with
    | some w, .non => .ok (.str w) L'
    | _, _ => .bad) else .bad
  | .bad => .bad
/-- list(o.values()) -/
def eVals (fo : Ev) : Ev := fun δ L => (fo δ L).andThen fun x L => match dctOf L x with
  | some kvs => if kvs.length ≤ most then alloc (.lst (kvs.map (·.2))) L else .bad
  | none => .bad
def bMax : List D → Store → R D := fun ds L => match ds with
  | [x] => match lstOf L x with
    | some (y :: ys) => if (likeAll (y :: ys) && decide (D.depthL (y :: ys) ≤ 50)) = true then .ok (ys.foldl (fun a z => if D.lt a z = true then z else a) y) L else .bad
    | _ => .bad
  | _ => .bad
def bMin : List D → Store → R D := fun ds L => match ds with
  | [x] => match lstOf L x with
    | some (y :: ys) => if (likeAll (y :: ys) && decide (D.depthL (y :: ys) ≤ 50)) = true then .ok (ys.foldl (fun a z => if D.lt z a = true then z else a) y) L else .bad
    | _ => .bad
  | _ => .bad
def strsOf : List D → Option (List Str)
  | [] => some []
  | .str s :: r => (strsOf r).map (s :: ·)
  | _ => none
def joinLn (sep : List Nat) : List (List Nat) → List Nat
  | [] => []
  | [x] => x
  | x :: y :: r => x ++ (sep ++ joinLn sep (y :: r))
def joinS (a : Str) (ys : List Str) : Str := ⟨(joinLn a.cps.toList (ys.map fun s => s.cps.toList)).toArray⟩
def mJoin : D → List D → Store → R D := fun o ds L => match o, ds with
  | .str a, [x] => match seqOf L x with
    | some xs => match strsOf xs with
      | some ys => if (ys.map fun s => s.length).sum + ys.length * a.length ≤ most then .ok (.str (joinS a ys)) L else .bad
      | none => .bad
    | none => .bad
  | _, _ => .bad

/-! ### ghosts: what nobody changes any more is plain data -/
def freeze (d : D) (L : Store) : R D := match d with
  | .ref i => match L[i]? with
    | some (.lst xs) => if D.flatL xs then .ok (.lst xs) (L.set i .dead) else .bad
    | some (.dct kvs) => if D.flatP kvs then .ok (.dct kvs) (L.set i .dead) else .bad
    | _ => .bad
  | d => .ok d L
def eFrz (a : Ev) : Ev := fun δ L => (a δ L).andThen fun x L => freeze x L

/-! what is made and never changed: plain data at once -/
def frozen (m : MO) (L : Store) : R D := match m with
  | .lst xs => if D.flatL xs then .ok (.lst xs) L else .bad
  | .dct kvs => if D.flatP kvs then .ok (.dct kvs) L else .bad
  | _ => .bad
def eLstF (a : Av) : Ev := fun δ L => (a δ L).andThen fun ds L => if ds.length ≤ most then frozen (.lst ds) L else .bad
def oAddF : D → D → Store → R D := fun x y L => match lstOf L x, lstOf L y with
  | some xs, some ys => if xs.length + ys.length ≤ most then frozen (.lst (xs ++ ys)) L else .bad
  | _, _ => .bad
def eSliceF (a : Ev) (lo hi : Pt) : Ev := fun δ L => (a δ L).andThen fun x L => (lo.run δ L).andThen fun i L => (hi.run δ L).andThen fun j L => match lstOf L x with
  | some xs => frozen (.lst (cutL xs i j)) L
  | none => .bad
def bListF : List D → Store → R D := fun ds L => match ds with
  | [x] => match seqOf L x with
    | some xs => frozen (.lst xs) L
    | none => .bad
  | _ => .bad

def bSortF : List D → Store → R D := fun ds L => match ds with
  | [x] => match itemsOf L x with
    | some xs => if sortOk xs = true then frozen (.lst (sortD xs)) L else .bad
    | none => .bad
  | _ => .bad
def bDictF : List D → Store → R D := fun ds L => match ds with
  | [x] => match lstOf L x with
    | some xs => match pairsOf xs with
      | some ps => if xs.length ≤ most then frozen (.dct (mkD ps [])) L else .bad
      | none => .bad
    | none => .bad
  | _ => .bad

/-! ### calls -/
inductive Out where
  | v (d : D)
  | o (m : MO)
  | e (x : XD)
  | bad
def MO.flat : MO → Bool
  | .lst xs => D.flatL xs
  | .dct kvs => D.flatP kvs
  | _ => false
/-- what a call with plain data tells -/
def out (r : R D) : Out := match r with
  | .ok (.ref k) L => match L[k]? with
    | some m => if m.flat then .o m else .bad
    | none => .bad
  | .ok d _ => if d.flat then .v d else .bad
  | .err x _ => if x.v.flat then .e x else .bad
  | .bad => .bad
def eCall (n : Nat) (F : Fn) (a : Av) : Ev := fun δ L => (a δ L).andThen fun ds L => if ds.length = n ∧ D.flatL ds = true then (match out (F ds []) with
  | .v d => .ok d L
  | .o m => alloc m L
  | .e x => .err x L
  | .bad => .bad) else .bad
def eCallF (n : Nat) (F : Fn) (a : Av) : Ev := fun δ L => (a δ L).andThen fun ds L => if ds.length = n ∧ D.flatL ds = true then (match out (F ds []) with
  | .v d => .ok d L
  | .o m => frozen m L
  | .e x => .err x L
  | .bad => .bad) else .bad
/-- what a call with one object at the front tells: a value, and the object behind -/
inductive Out1 where
  | v (d : D) (m : MO)
  | e (x : XD) (m : MO)
  | bad
def out1 (r : R D) : Out1 := match r with
  | .ok d L => match L[0]? with
    | some m => if d.flat && m.flat then .v d m else .bad
    | none => .bad
  | .err x L => match L[0]? with
    | some m => if x.v.flat && m.flat then .e x m else .bad
    | none => .bad
  | .bad => .bad
def run1 (F : Fn) (ds : List D) (m : MO) : Out1 := out1 (F (.ref 0 :: ds) [m])
def eCall1 (n : Nat) (F : Fn) (a : Av) : Ev := fun δ L => (a δ L).andThen fun ds L => match ds with
  | .ref i :: r => match L[i]? with
    | some m => if r.length + 1 = n ∧ D.flatL r = true ∧ m.flat = true then (match run1 F r m with
      | .v d m' => .ok d (L.set i m')
      | .e x m' => .err x (L.set i m')
      | .bad => .bad) else .bad
    | none => .bad
  | _ => .bad
/-- with the whole store -/
def eCallA (n : Nat) (F : Fn) (a : Av) : Ev := fun δ L => (a δ L).andThen fun ds L => if ds.length = n then F ds L else .bad

/-! ### what is walked; comprehensions -/
abbrev Iv := Sl → Store → R (List D)
inductive Tg where
  | nm (i : Nat)
  | tp (is : List Nat)
  | tl (is : List Nat)
def setAll : List Nat → List D → Sl → Sl
  | i :: is, d :: ds, δ => setAll is ds (δ.set i (some d))
  | _, _, δ => δ
def Tg.put (t : Tg) (d : D) (δ : Sl) : Option Sl := match t with
  | .nm i => some (δ.set i (some d))
  | .tp is => match d with
    | .tup ds => if ds.length = is.length then some (setAll is ds δ) else none
    | _ => none
  | .tl is => match d with
    | .lst ds => if ds.length = is.length then some (setAll is ds δ) else none
    | _ => none
/-- the items of a tuple, a list that nobody changes, a text; the keys of a dict that nobody changes -/
def iSeq (a : Ev) : Iv := fun δ L => (a δ L).andThen fun x L => match x with
  | .tup xs => .ok xs L
  | .lst xs => .ok xs L
  | _ => .bad
def iStr (a : Ev) : Iv := fun δ L => (a δ L).andThen fun x L => match x with
  | .str s => .ok (s.cps.toList.map fun c => D.str ⟨#[c]⟩) L
  | _ => .bad
def iKeys (a : Ev) : Iv := fun δ L => (a δ L).andThen fun x L => match x with
  | .dct kvs => .ok (kvs.map (·.1)) L
  | _ => .bad
def rngU (lo : Int) (n : Nat) : List D := (List.range n).map fun (i : Nat) => D.int (lo + i)
def rngD (lo : Int) (n : Nat) : List D := (List.range n).map fun (i : Nat) => D.int (lo - i)
def small (i : Int) : Bool := decide (-(16000000 : Int) ≤ i) && decide (i ≤ 16000000)
def iRng1 (a : Ev) : Iv := fun δ L => (a δ L).andThen fun x L => match x with
  | .int n => if small n then .ok (rngU 0 n.toNat) L else .bad
  | _ => .bad
def iRng2 (a b : Ev) : Iv := fun δ L => (a δ L).andThen fun x L => (b δ L).andThen fun y L => match x, y with
  | .int m, .int n => if small m && small n then .ok (rngU m (n - m).toNat) L else .bad
  | _, _ => .bad
/-- range(a, b, -1) -/
def iRngD (a b : Ev) : Iv := fun δ L => (a δ L).andThen fun x L => (b δ L).andThen fun y L => match x, y with
  | .int m, .int n => if small m && small n then .ok (rngD m (m - n).toNat) L else .bad
  | _, _ => .bad
/-- reversed(range(n)) -/
def iRevR (a : Ev) : Iv := fun δ L => (a δ L).andThen fun x L => match x with
  | .int n => if small n then .ok (rngD (n - 1) n.toNat) L else .bad
  | _ => .bad
def number (k : Nat) : List D → List D
  | [] => []
  | x :: xs => .tup [.int k, x] :: number (k + 1) xs
def iEnum (a : Ev) : Iv := fun δ L => (a δ L).andThen fun x L => match x with
  | .tup xs => .ok (number 0 xs) L
  | .lst xs => .ok (number 0 xs) L
  | _ => .bad
def wipe (δ : Sl) : List Nat → Sl
  | [] => δ
  | v :: vs => (wipe δ vs).set v none
def lcL (tg : Tg) (c : Tv) (e : Ev) (δ : Sl) : List D → List D → Store → R (List D)
  | [], acc, L => .ok acc L
  | x :: xs, acc, L => match tg.put x δ with
    | none => .bad
    | some δ1 => (c δ1 L).noErr.andThen fun b L => if b = true then (e δ1 L).noErr.andThen fun d L => lcL tg c e δ xs (acc ++ [d]) L else lcL tg c e δ xs acc L
/-- [e for tg in it if c]; own: the comprehension's own names -/
def eLc (it : Iv) (own : List Nat) (tg : Tg) (c : Tv) (e : Ev) : Ev := fun δ L => (it δ L).andThen fun xs L => if xs.length ≤ most then
  (lcL tg c e (wipe δ own) xs [] L).andThen fun ys L => alloc (.lst ys) L else .bad

def eLcF (it : Iv) (own : List Nat) (tg : Tg) (c : Tv) (e : Ev) : Ev := fun δ L => (it δ L).andThen fun xs L => if xs.length ≤ most then
  (lcL tg c e (wipe δ own) xs [] L).andThen fun ys L => frozen (.lst ys) L else .bad

/-! ### methods of lists and dicts -/
def mAppend : D → List D → Store → R D := fun o ds L => match o, ds with
  | .ref i, [d] => match L[i]? with
    | some (.lst xs) => if xs.length < most then .ok .non (L.set i (.lst (xs ++ [d]))) else .bad
    | _ => .bad
  | _, _ => .bad
def mExtend : D → List D → Store → R D := fun o ds L => match o, ds with
  | .ref i, [y] => match L[i]?, lstOf L y with
    | some (.lst xs), some ys => if xs.length + ys.length ≤ most ∧ y ≠ .ref i then .ok .non (L.set i (.lst (xs ++ ys))) else .bad
    | _, _ => .bad
  | _, _ => .bad
def mPop : D → List D → Store → R D := fun o ds L => match o, ds with
  | .ref i, [] => match L[i]? with
    | some (.lst xs) => match xs[xs.length - 1]? with
      | some y => .ok y (L.set i (.lst xs.dropLast))
      | none => .bad
    | _ => .bad
  | _, _ => .bad
def mUpdate : D → List D → Store → R D := fun o ds L => match o, ds with
  | .ref i, [y] => match L[i]?, lstOf L y with
    | some (.dct kvs), some xs => match pairsOf xs with
      | some ps => if kvs.length + xs.length ≤ most then .ok .non (L.set i (.dct (mkD ps kvs))) else .bad
      | none => .bad
    | _, _ => .bad
  | _, _ => .bad
def mSetdef : D → List D → Store → R D := fun o ds L => match o, ds with
  | .ref i, [k, y] => match L[i]? with
    | some (.dct kvs) => if isKey k && decide (kvs.length < most) then (match dget kvs k with
      | some d => .ok d L
      | none => .ok y (L.set i (.dct (dput kvs k y)))) else .bad
    | _ => .bad
  | _, _ => .bad
def mGet : D → List D → Store → R D := fun o ds L => match dctOf L o, ds with
  | some kvs, [k] => if isKey k then .ok ((dget kvs k).getD .non) L else .bad
  | some kvs, [k, x] => if isKey k then .ok ((dget kvs k).getD x) L else .bad
  | _, _ => .bad
/-- o.m(..), o a list -/
def eM (f : D → List D → Store → R D) (o : Ev) (a : Av) : Ev := fun δ L => (o δ L).andThen fun x L => match lstOf L x with
  | some _ => (a δ L).andThen fun ds L => f x ds L
  | none => .bad
mutual
/-- no list, no object within -/
def D.noL : D → Bool
  | .non => true
  | .bl _ => true
  | .int _ => true
  | .str _ => true
  | .tup xs => D.noLL xs
  | .dct kvs => D.noLP kvs
  | _ => false
def D.noLL : List D → Bool
  | [] => true
  | x :: xs => D.noL x && D.noLL xs
def D.noLP : List (D × D) → Bool
  | [] => true
  | (k, x) :: xs => D.noL k && (D.noL x && D.noLP xs)
end
def MO.noL : MO → Bool
  | .dead => true
  | .lst xs => D.noLL xs
  | .dct kvs => D.noLP kvs
  | .ins _ _ => false
/-- f, while the list of slot i is not changed by anybody -/
def eLock (i : Nat) (f : Ev) : Ev := fun δ L => match δ[i]? with
  | some (some (.ref k)) => match L[k]? with
    | some (.lst xs) => if D.flatL xs = true then (match f (δ.set i (some (.lst xs))) (L.set k .dead) with
      | .ok d L' => if (d.noL && L'.all MO.noL) = true ∧ k < L'.length then .ok d (L'.set k (.lst xs)) else .bad
      | _ => .bad) else .bad
    | _ => .bad
  | _ => .bad
/-- a call that tells a pair: data, and a list of its own -/
def eCallT (n : Nat) (F : Fn) (a : Av) : Ev := fun δ L => (a δ L).andThen fun ds L => if ds.length = n ∧ D.flatL ds = true then (match F ds [] with
  | .ok (.tup [x, .ref k]) L2 => match L2[k]? with
    | some (.lst xs) => if x.flat = true ∧ D.flatL xs = true then (alloc (.lst xs) L).andThen fun d L => .ok (.tup [x, d]) L else .bad
    | _ => .bad
  | _ => .bad) else .bad
/-- the errors of the program; the slots of a handler: the error alone -/
def eight : List String := ["BadPaper", "BadEdit", "BadText", "BadPlace", "BadRow", "Full", "TooLong", "TooMany"]
def hSl (n j : Nat) (c0 : String) : Sl := (List.replicate n none).set j (some (.xc c0 .non))
/-- int(x), x a truth value or a number -/
def eInt (f : Ev) : Ev := fun δ L => (f δ L).andThen fun d L => match d with
  | .bl b => .ok (.int (if b = true then 1 else 0)) L
  | .int i => .ok (.int i) L
  | _ => .bad
/-- o.count(x), o.index(x), o a list of plain data -/
def mCount : D → List D → Store → R D := fun o xs L => match lstOf L o, xs with
  | some ys, [x] => if (D.plainL ys && D.plain x && decide (D.depth x ≤ 50)) = true then .ok (.int ((ys.countP fun y => D.eqv y x : Nat) : Int)) L else .bad
  | _, _ => .bad
def mIndex : D → List D → Store → R D := fun o xs L => match lstOf L o, xs with
  | some ys, [x] => if (D.plainL ys && D.plain x && decide (D.depth x ≤ 50)) = true then (match ys.findIdx? fun y => D.eqv y x with
    | some j => .ok (.int (j : Int)) L
    | none => .bad) else .bad
  | _, _ => .bad
/-- isinstance(e, C): e the exception that is held, cs: C's name and its subclasses' -/
def eIsX (cs : List String) (f : Ev) : Ev := fun δ L => (f δ L).andThen fun d L => match d with
  | .xc c _ => .ok (.bl (cs.contains c)) L
  | _ => .bad
/-- o.m(..), o a dict -/
def eMD (f : D → List D → Store → R D) (o : Ev) (a : Av) : Ev := fun δ L => (o δ L).andThen fun x L => match dctOf L x with
  | some _ => (a δ L).andThen fun ds L => f x ds L
  | none => .bad
/-- o.m(..), o a text -/
def eMS (f : D → List D → Store → R D) (o : Ev) (a : Av) : Ev := fun δ L => (o δ L).andThen fun x L => match x with
  | .str _ => (a δ L).andThen fun ds L => f x ds L
  | _ => .bad

/-! ### statements -/
/-- a ghost: the list or dict that a name means is plain data from here on -/
def sFrz (i : Nat) : Sv := fun δ L => match δ[i]? with
  | some (some d) => (freeze d L).andThen fun d L => .ok (.nx (δ.set i (some d))) L
  | _ => .bad
def sNil : Sv := fun δ L => .ok (.nx δ) L
def sSeq (a b : Sv) : Sv := fun δ L => (a δ L).andThen fun f L => match f with
  | .nx δ => b δ L
  | f => .ok f L
def sNever : Sv := fun _ _ => .bad
def sExpr (e : Ev) : Sv := fun δ L => (e δ L).andThen fun _ L => .ok (.nx δ) L
def sRet (e : Ev) : Sv := fun δ L => (e δ L).andThen fun d L => .ok (.rt d) L
def sRetN : Sv := fun _ L => .ok (.rt .non) L
def sBreak : Sv := fun δ L => .ok (.bk δ) L
def sCont : Sv := fun δ L => .ok (.ct δ) L
def sIf (c : Tv) (a b : Sv) : Sv := fun δ L => (c δ L).andThen fun k L => if k = true then a δ L else b δ L
def sSet (tg : Tg) (e : Ev) : Sv := fun δ L => (e δ L).andThen fun d L => match tg.put d δ with
  | some δ => .ok (.nx δ) L
  | none => .bad
/-- a, b = x, y (two plain locals) -/
def sPar (i j : Nat) (a : Av) : Sv := fun δ L => (a δ L).andThen fun ds L => match ds with
  | [x, y] => .ok (.nx ((δ.set i (some x)).set j (some y))) L
  | _ => .bad
/-- o[i] = e -/
def sPut (f : D → D → D → Store → R Unit) (o i e : Ev) : Sv := fun δ L => (e δ L).andThen fun d L => (o δ L).andThen fun x L => (i δ L).andThen fun y L => (f x y d L).andThen fun _ L => .ok (.nx δ) L
def pLst : D → D → D → Store → R Unit := fun o y d L => match o, y with
  | .ref i, .int k => match L[i]? with
    | some (.lst xs) => match ixI xs.length k with
      | some j => .ok () (L.set i (.lst (xs.set j d)))
      | none => .bad
    | _ => .bad
  | _, _ => .bad
def pDct : D → D → D → Store → R Unit := fun o k d L => match o with
  | .ref i => match L[i]? with
    | some (.dct kvs) => if isKey k && decide (kvs.length < most) then .ok () (L.set i (.dct (dput kvs k d))) else .bad
    | _ => .bad
  | _ => .bad
/-- behind a turn -/
def forL (tg : Tg) (b : Sv) : List D → Sl → Store → R Fl
  | [], δ, L => .ok (.nx δ) L
  | x :: xs, δ, L => match tg.put x δ with
    | none => .bad
    | some δ1 => (b δ1 L).andThen fun f L => match f with
      | .nx δ => forL tg b xs δ L
      | .ct δ => forL tg b xs δ L
      | .bk δ => .ok (.nx δ) L
      | .rt d => .ok (.rt d) L
def sFor (tg : Tg) (it : Iv) (b : Sv) : Sv := fun δ L => (it δ L).andThen fun xs L => forL tg b xs δ L
def whileN (c : Tv) (b : Sv) : Nat → Sl → Store → R Fl
  | 0, _, _ => .bad
  | n + 1, δ, L => (c δ L).andThen fun k L => if k = true then (b δ L).andThen fun f L => match f with
      | .nx δ => whileN c b n δ L
      | .ct δ => whileN c b n δ L
      | .bk δ => .ok (.nx δ) L
      | .rt d => .ok (.rt d) L
    else .ok (.nx δ) L
open Classical in
noncomputable def sWhile (c : Tv) (b : Sv) : Sv := fun δ L => if h : ∃ n, whileN c b n δ L ≠ .bad then whileN c b h.choose δ L else .bad
/-- a def: n names, the parameters first -/
def fnOf (n : Nat) (b : Sv) : Fn := fun ds L => match b (ds.map some ++ List.replicate (n - ds.length) none) L with
  | .ok (.nx _) L => .ok .non L
  | .ok (.rt d) L => .ok d L
  | .err x L => .err x L
  | _ => .bad
/-- d.update(e), e a dict that nobody changes -/
def byVal : D → Bool
  | .non => true
  | .int _ => true
  | .str _ => true
  | _ => false
def mUpdD : D → List D → Store → R D := fun o ds L => match o, ds with
  | .ref i, [.dct ps] => match L[i]? with
    | some (.dct kvs) => if (ps.all fun p => byVal p.1) = true ∧ kvs.length + ps.length ≤ most then .ok .non (L.set i (.dct (mkD ps kvs))) else .bad
    | _ => .bad
  | _, _ => .bad
/-- None, truth values, numbers, texts, tuples (whatever stands within), lists -/
def D.kindly : D → Bool
  | .non => true
  | .bl _ => true
  | .int _ => true
  | .str _ => true
  | .tup _ => true
  | .lst _ => true
  | _ => false
/-- isinstance(x, (T, ..)), x a tuple with objects within, too -/
def eIsiH (a : Ev) (ts : List Ty) : Ev := fun δ L => (a δ L).andThen fun x L => if D.kindly (look L x) then .ok (.bl (ts.any (isTy (look L x)))) L else .bad
/-- a call that tells a pair, or raises -/
def eCallTX (n : Nat) (F : Fn) (a : Av) : Ev := fun δ L => (a δ L).andThen fun ds L => if ds.length = n ∧ D.flatL ds = true then (match F ds [] with
  | .ok (.tup [x, .ref k]) L2 => match L2[k]? with
    | some (.lst xs) => if x.flat = true ∧ D.flatL xs = true then (alloc (.lst xs) L).andThen fun d L => .ok (.tup [x, d]) L else .bad
    | _ => .bad
  | .err x _ => if x.v.flat = true then .err x L else .bad
  | _ => .bad) else .bad
/-- raise C(e): e a number -/
def sRaise1 (c : String) (e : Ev) : Sv := fun δ L => (e δ L).noErr.andThen fun d L => match d with
  | .int i => if i.natAbs.log2 < 1920 then .err ⟨c, .int i⟩ L else .bad
  | _ => .bad
/-- the word of an error that keeps a number -/
def wordV (c : String) : Option Str := match c with
  | "BadEdit" => some "edit"
  | "BadText" => some "text"
  | _ => none
/-- the slots of a handler: the error alone, with its number -/
def hSlV (n j : Nat) (c0 : String) (i : Int) : Sl := (List.replicate n none).set j (some (.xc c0 (.int i)))
/-- S: the errors that are known, all with a number -/
def eWordV (S : List String) (g : Ev) : Ev := fun δ L => match g δ L with
  | .ok _ L' => .ok (.str "") L'
  | .err x L' => if S.contains x.c then (match wordV x.c, x.v with
    | some w, .int i => .ok (.tup [.str w, .int i]) L'
    | _, _ => .bad) else .bad
  | .bad => .bad
/-- e.f, e the exception that is held, which keeps a number there -/
def eXf (f : Ev) : Ev := fun δ L => (f δ L).andThen fun d L => match d with
  | .xc _ (.int i) => .ok (.int i) L
  | _ => .bad
/-- o.pop(k), o a list, k not below 0 -/
def mPopAt : D → List D → Store → R D := fun o ds L => match o, ds with
  | .ref i, [.int k] => match L[i]? with
    | some (.lst xs) => if 0 ≤ k ∧ k < 2 ^ 62 then (match xs[k.toNat]? with
      | some y => .ok y (L.set i (.lst (xs.eraseIdx k.toNat)))
      | none => .bad) else .bad
    | _ => .bad
  | _, _ => .bad
/-- a text, so many times -/
def repS (z : Str) (k : Nat) : Str := ⟨(List.replicate k z.cps).foldl (· ++ ·) #[]⟩
def oMulS : D → D → Store → R D := fun x y L => match x, y with
  | .str z, .int k => if 2 ≤ k ∧ k ≤ 1000 ∧ 1 ≤ z.length ∧ z.length ≤ 100 then .ok (.str (repS z k.toNat)) L else .bad
  | _, _ => .bad
/-- a list, so many times -/
def oMulL : D → D → Store → R D := fun x y L => match x, y with
  | .ref i, .int k => match L[i]? with
    | some (.lst xs) => if 0 ≤ k ∧ k ≤ 1000 ∧ xs.length ≤ 1000 then alloc (.lst (List.replicate k.toNat xs).flatten) L else .bad
    | _ => .bad
  | _, _ => .bad
end Df
namespace Df
open PySem PySem.Spec PyProof.Rows L2

/-- where the classes stand; the tables of code objects, and the name that a def's own lambdas bear -/
structure Cl where
  f : String → Addr
  T : List (Addr × Str)
  /-- the exception that a suite holds -/
  e : Addr → String → D → Prop := fun _ _ _ => False
  /-- what it bears: dicts that stay -/
  xs : List (Addr × List (Str × V)) := []
/-- what the relations lean on: the world, the written part, the classes, the tables -/
structure Gm where
  w : World
  K : PySem.W.Frag
  cl : Cl

/-- no table -/
def Nt (o : HO) : Prop := ∀ ps, o ≠ .tbl ps
theorem nt_lst {xs : List V} : Nt (.lst xs) := fun _ z => nomatch z
theorem nt_tup {xs : List V} : Nt (.tup xs) := fun _ z => nomatch z
theorem nt_frz {o : Obj} {u : HO} : Nt (.frz o u) := fun _ z => nomatch z
theorem nt_ext {φ : Heap → Prop} : Nt (.ext φ) := fun _ z => nomatch z
theorem nt_ins {C : Addr} {dx : Addr} {fs : List (Str × V)} : Nt (.ins C dx fs) := fun _ z => nomatch z
theorem nt_own {a : Addr} : Nt (.own a) := fun _ z => nomatch z
theorem nt_xd {fs : List (Str × V)} : Nt (.xd fs) := fun _ z => nomatch z
abbrev Rho := List (Option Addr)
/-- a list that nobody changes any more -/
def FzL (K : PySem.W.Frag) (H : Hp) (a : Addr) (vs : List V) : Prop :=
  (∃ o, H a = some (.frz o (.lst vs))) ∨
    ∃ (o : Obj) (its : Array Value) (n : Nat), K.lookup a = some o ∧ o.cls = .type "list" ∧ o.dict = none ∧ o.data = .seq its n ∧ its.size ≤ sizeLine ∧ Vals vs its.toList
theorem nt_raw {a : Addr} {es : Array DictEntry} {ep : Nat} : Nt (.ext fun h => h.DictRaw a es ep ∧ (a == sysModules) = false) := nt_ext
theorem FzL.seq {K : PySem.W.Frag} {H : Hp} {a : Addr} {vs : List V} (h : FzL K H a vs) : SqL K H a vs := by
  rcases h with h | h
  · exact .inl (.inr h)
  · exact .inr h
/-- a dict by its raw entries -/
def rawO (a : Addr) (es : Array DictEntry) (ep : Nat) : HO := .ext fun h => h.DictRaw a es ep ∧ (a == sysModules) = false

mutual
def toKey : D → NestedKey
  | .int i => .num i
  | .str x => .text x
  | .tup xs => .tup (toKeys xs)
  | _ => .none
def toKeys : List D → List NestedKey
  | [] => []
  | x :: xs => toKey x :: toKeys xs
end

mutual
/-- the value v stands for d -/
inductive Rep (G : Gm) (H : Hp) (ρ : Rho) : D → V → Prop
  | non : Rep G H ρ .non .non
  | bl (b : Bool) : Rep G H ρ (.bl b) (.bl b)
  | int (i : Int) : Rep G H ρ (.int i) (.int i)
  | str (x : Str) : Rep G H ρ (.str x) (.str x)
  | tup {a : Addr} {vs : List V} {xs : List D} : SqT G.K H a vs → RepL G H ρ xs vs → Rep G H ρ (.tup xs) (.ref a)
  | lst {a : Addr} {o : Obj} {vs : List V} {xs : List D} : H a = some (.frz o (.lst vs)) → RepL G H ρ xs vs → Rep G H ρ (.lst xs) (.ref a)
  | dct {a : Addr} {es : Array DictEntry} {ep : Nat} {o : Obj} {kvs : List (D × D)} : H a = some (.frz o (rawO a es ep)) → RepE G H ρ kvs es.toList → Rep G H ρ (.dct kvs) (.ref a)
  | scr {a : Addr} {ns : List Int} : FzL G.K H a (ns.map V.int) → Rep G H ρ (.scr ns) (.ref a)
  | ref {i : Nat} {v : V} : i < ρ.length → (∀ a, ρ[i]? = some (some a) → v = .ref a) → Rep G H ρ (.ref i) v
  | xc {c : String} {x : D} {a : Addr} : G.cl.e a c x → (∀ p ∈ G.cl.xs, H p.1 = some (.xd p.2)) → Rep G H ρ (.xc c x) (.ref a)
inductive RepL (G : Gm) (H : Hp) (ρ : Rho) : List D → List V → Prop
  | nil : RepL G H ρ [] []
  | cons {d : D} {ds : List D} {v : V} {vs : List V} : Rep G H ρ d v → RepL G H ρ ds vs → RepL G H ρ (d :: ds) (v :: vs)
inductive RepE (G : Gm) (H : Hp) (ρ : Rho) : List (D × D) → List DictEntry → Prop
  | nil : RepE G H ρ [] []
  | cons {k x : D} {r : List (D × D)} {e : DictEntry} {es : List DictEntry} {kv xv : V} : isKey k = true ∧ dget r k = none → Rep G H ρ k kv → RelV kv e.key → e.hash = (toKey k).hash G.w → Rep G H ρ x xv → RelV xv e.val → RepE G H ρ r es → RepE G H ρ ((k, x) :: r) (e :: es)
end

section
variable {G : Gm} {H : Hp} {ρ : Rho}
theorem RepL.length : ∀ {ds : List D} {vs : List V}, RepL G H ρ ds vs → ds.length = vs.length
  | _, _, .nil => rfl
  | _, _, .cons _ t => by rw [List.length_cons, List.length_cons, RepL.length t]
theorem RepL.get : ∀ {ds : List D} {vs : List V} {i : Nat} {d : D}, RepL G H ρ ds vs → ds[i]? = some d → ∃ v, vs[i]? = some v ∧ Rep G H ρ d v
  | _, _, _, _, .nil, e => by simp at e
  | _, _, 0, _, .cons r _, e => by simp at e; subst e; exact ⟨_, rfl, r⟩
  | _, _, i + 1, d, .cons _ t, e => by
    obtain ⟨v, h1, h2⟩ := RepL.get (i := i) (d := d) t (by simpa using e)
    exact ⟨v, by simpa using h1, h2⟩
theorem RepL.append : ∀ {xs ys : List D} {us ws : List V}, RepL G H ρ xs us → RepL G H ρ ys ws → RepL G H ρ (xs ++ ys) (us ++ ws)
  | _, _, _, _, .nil, s => s
  | _, _, _, _, .cons r t, s => .cons r (RepL.append t s)
theorem RepL.set {d : D} {v : V} (r : Rep G H ρ d v) : ∀ {xs : List D} {us : List V} (i : Nat), RepL G H ρ xs us → RepL G H ρ (xs.set i d) (us.set i v)
  | _, _, _, .nil => .nil
  | _, _, 0, .cons _ t => .cons r t
  | _, _, i + 1, .cons q t => .cons q (RepL.set r i t)
theorem RepL.take : ∀ {xs : List D} {us : List V} (n : Nat), RepL G H ρ xs us → RepL G H ρ (xs.take n) (us.take n)
  | _, _, 0, _ => .nil
  | _, _, _ + 1, .nil => .nil
  | _, _, n + 1, .cons r t => .cons r (RepL.take n t)
theorem RepL.drop : ∀ {xs : List D} {us : List V} (n : Nat), RepL G H ρ xs us → RepL G H ρ (xs.drop n) (us.drop n)
  | _, _, 0, r => r
  | _, _, _ + 1, .nil => .nil
  | _, _, n + 1, .cons _ t => RepL.drop n t
theorem RepL.dropLast {xs : List D} {us : List V} (r : RepL G H ρ xs us) : RepL G H ρ xs.dropLast us.dropLast := by
  rw [List.dropLast_eq_take, List.dropLast_eq_take, r.length]
  exact r.take _
theorem RepL.rep {xs : List D} {us : List V} (r : RepL G H ρ xs us) : ∀ n : Nat, RepL G H ρ (List.replicate n xs).flatten (List.replicate n us).flatten
  | 0 => .nil
  | n + 1 => by
    rw [List.replicate_succ, List.replicate_succ, List.flatten_cons, List.flatten_cons]
    exact r.append (RepL.rep r n)
theorem RepL.getV : ∀ {ds : List D} {vs : List V} {i : Nat} {v : V}, RepL G H ρ ds vs → vs[i]? = some v → ∃ d, ds[i]? = some d ∧ Rep G H ρ d v
  | _, _, _, _, .nil, e => by simp at e
  | _, _, 0, _, .cons r _, e => by simp at e; subst e; exact ⟨_, rfl, r⟩
  | _, _, i + 1, v, .cons _ t, e => by
    obtain ⟨d, h1, h2⟩ := RepL.getV (i := i) (v := v) t (by simpa using e)
    exact ⟨d, by simpa using h1, h2⟩
end

/-- the object of the store stands at its address -/
def ORel (G : Gm) (H : Hp) (ρ : Rho) (sl : Option Addr) : MO → Prop
  | .dead => sl = none
  | .lst xs => ∃ a vs, sl = some a ∧ H a = some (.lst vs) ∧ RepL G H ρ xs vs
  | .dct kvs => ∃ a es ep, sl = some a ∧ H a = some (rawO a es ep) ∧ RepE G H ρ kvs es.toList
  | .ins c fs => ∃ a dx fs', sl = some a ∧ H a = some (.ins (G.cl.f c) dx fs') ∧ H dx = some (.own a) ∧ Paired (fun (p : String × D) (q : Str × V) => (p.1 : Str) = q.1 ∧ Rep G H ρ p.2 q.2) fs fs'
structure AbsL (G : Gm) (H : Hp) (ρ : Rho) (L : Store) : Prop where
  len : ρ.length = L.length
  obj : ∀ (i : Nat) (o : MO), L[i]? = some o → ∃ sl, ρ[i]? = some sl ∧ ORel G H ρ sl o
  live : ∀ (i : Nat) (a : Addr), ρ[i]? = some (some a) → Mut (H a)
  inj : ∀ (i j : Nat) (a : Addr), ρ[i]? = some (some a) → ρ[j]? = some (some a) → i = j
  tab : LamX.Tabs G.cl.T H
def SlOk (G : Gm) (H : Hp) (ρ : Rho) (σ : L2.St) (δ : Sl) : Prop :=
  δ.length = σ.length ∧ ∀ (i : Nat) (d : D), δ[i]? = some (some d) → ∃ v, σ[i]? = some (some v) ∧ Rep G H ρ d v
/-- from one state to a later one -/
structure Step (H : Hp) (ρ : Rho) (H' : Hp) (ρ' : Rho) : Prop where
  len : ρ.length ≤ ρ'.length
  old : ∀ (i : Nat) (a : Addr), i < ρ.length → ρ'[i]? = some (some a) → ρ[i]? = some (some a)
  new : ∀ (i : Nat) (a : Addr) (o : HO), ρ.length ≤ i → ρ'[i]? = some (some a) → H a = some o → ¬ Nt o
  fr : ∀ (a : Addr) (o : HO), H a = some o → Nt o → (∀ i : Nat, ρ[i]? ≠ some (some a)) → H' a = some o
  dom : ∀ (a : Addr) (o : HO), H a = some o → Nt o → ∃ o', H' a = some o' ∧ Nt o'
theorem Step.refl (H : Hp) (ρ : Rho) : Step H ρ H ρ := ⟨Nat.le_refl _, fun _ _ _ h => h, fun i a _ hi h => (by rw [List.getElem?_eq_none hi] at h; cases h), fun _ _ h _ _ => h, fun _ o h n => ⟨o, h, n⟩⟩
theorem Nt.of_mut {o : HO} (m : Mut (some o)) : Nt o := fun ps e => by rw [e] at m; exact m
section
variable {H H1 H2 H' : Hp} {ρ ρ1 ρ2 ρ' : Rho}
theorem Step.trans (s : Step H ρ H1 ρ1) (t : Step H1 ρ1 H2 ρ2) : Step H ρ H2 ρ2 where
  len := Nat.le_trans s.len t.len
  old := fun i a hi h => s.old i a hi (t.old i a (Nat.lt_of_lt_of_le hi s.len) h)
  new := fun i a o hi h e n => by
    by_cases h1 : i < ρ1.length
    · exact s.new i a o hi (t.old i a h1 h) e n
    · obtain ⟨o', e', n'⟩ := s.dom a o e n
      exact t.new i a o' (Nat.le_of_not_lt h1) h e' n'
  fr := fun a o h q n => by
    refine t.fr a o (s.fr a o h q n) q fun i e => ?_
    by_cases h1 : i < ρ.length
    · exact n i (s.old i a h1 e)
    · exact s.new i a o (Nat.le_of_not_lt h1) e h q
  dom := fun a o h n => let ⟨o', h', n'⟩ := s.dom a o h n; t.dom a o' h' n'
end
section
variable {G : Gm} {H H' : Hp} {ρ ρ' : Rho}
theorem notLive {a : Addr} {o : HO} (live : ∀ (i : Nat) (a : Addr), ρ[i]? = some (some a) → Mut (H a)) (h : H a = some o) (n : ¬ Mut (some o)) : ∀ i : Nat, ρ[i]? ≠ some (some a) := fun i e => by
  have q := live i a e
  rw [h] at q
  exact n q
theorem SqT.step {K : PySem.W.Frag} {a : Addr} {vs : List V} (live : ∀ (i : Nat) (a : Addr), ρ[i]? = some (some a) → Mut (H a)) (s : Step H ρ H' ρ') (h : SqT K H a vs) : SqT K H' a vs := by
  rcases h with (h | ⟨o, h⟩) | h
  · exact .inl (.inl (s.fr _ _ h nt_tup (notLive live h fun z => z)))
  · exact .inl (.inr ⟨o, s.fr _ _ h nt_frz (notLive live h fun z => z)⟩)
  · exact .inr h
theorem FzL.step {K : PySem.W.Frag} {a : Addr} {vs : List V} (live : ∀ (i : Nat) (a : Addr), ρ[i]? = some (some a) → Mut (H a)) (s : Step H ρ H' ρ') (h : FzL K H a vs) : FzL K H' a vs := by
  rcases h with ⟨o, h⟩ | h
  · exact .inl ⟨o, s.fr _ _ h nt_frz (notLive live h fun z => z)⟩
  · exact .inr h
mutual
theorem Rep.step (live : ∀ (i : Nat) (a : Addr), ρ[i]? = some (some a) → Mut (H a)) (s : Step H ρ H' ρ') : ∀ {d : D} {v : V}, Rep G H ρ d v → Rep G H' ρ' d v
  | _, _, .non => .non
  | _, _, .bl b => .bl b
  | _, _, .int i => .int i
  | _, _, .str x => .str x
  | _, _, .tup h r => .tup (SqT.step live s h) (RepL.step live s r)
  | _, _, .lst h r => .lst (s.fr _ _ h nt_frz (notLive live h fun z => z)) (RepL.step live s r)
  | _, _, .scr h => .scr (FzL.step live s h)
  | _, _, .dct h r => .dct (s.fr _ _ h nt_frz (notLive live h fun z => z)) (RepE.step live s r)
  | _, _, .ref hi h => .ref (Nat.lt_of_lt_of_le hi s.len) fun a e => h a (s.old _ a hi e)
  | _, _, .xc h k => .xc h fun p hp => s.fr _ _ (k p hp) nt_xd (notLive live (k p hp) fun z => z)
theorem RepL.step (live : ∀ (i : Nat) (a : Addr), ρ[i]? = some (some a) → Mut (H a)) (s : Step H ρ H' ρ') : ∀ {ds : List D} {vs : List V}, RepL G H ρ ds vs → RepL G H' ρ' ds vs
  | _, _, .nil => .nil
  | _, _, .cons r t => .cons (Rep.step live s r) (RepL.step live s t)
theorem RepE.step (live : ∀ (i : Nat) (a : Addr), ρ[i]? = some (some a) → Mut (H a)) (s : Step H ρ H' ρ') : ∀ {kvs : List (D × D)} {es : List DictEntry}, RepE G H ρ kvs es → RepE G H' ρ' kvs es
  | _, _, .nil => .nil
  | _, _, .cons g a b c d e t => .cons g (Rep.step live s a) b c (Rep.step live s d) e (RepE.step live s t)
end
theorem SlOk.step {σ : L2.St} {δ : Sl} (live : ∀ (i : Nat) (a : Addr), ρ[i]? = some (some a) → Mut (H a)) (s : Step H ρ H' ρ') (h : SlOk G H ρ σ δ) : SlOk G H' ρ' σ δ :=
  ⟨h.1, fun i d e => let ⟨v, h1, h2⟩ := h.2 i d e; ⟨v, h1, h2.step live s⟩⟩
theorem SlOk.set {σ : L2.St} {δ : Sl} {i : Nat} {d : D} {v : V} (h : SlOk G H ρ σ δ) (r : Rep G H ρ d v) : SlOk G H ρ (σ.set i (some v)) (δ.set i (some d)) := by
  refine ⟨by rw [List.length_set, List.length_set, h.1], fun j e he => ?_⟩
  by_cases hj : i = j
  · subst hj
    by_cases hi : i < δ.length
    · rw [List.getElem?_set_self hi] at he
      cases he
      exact ⟨v, List.getElem?_set_self (by rw [← h.1]; exact hi), r⟩
    · rw [List.getElem?_eq_none (by rw [List.length_set]; omega)] at he
      cases he
  · rw [List.getElem?_set_ne hj] at he
    obtain ⟨w, h1, h2⟩ := h.2 j e he
    exact ⟨w, by rw [List.getElem?_set_ne hj]; exact h1, h2⟩
theorem SlOk.put {σ : L2.St} {δ : Sl} {i : Nat} (h : SlOk G H ρ σ δ) : SlOk G H ρ (σ.set i none) (δ.set i none) := by
  refine ⟨by rw [List.length_set, List.length_set, h.1], fun j e he => ?_⟩
  by_cases hj : i = j
  · subst hj
    by_cases hi : i < δ.length
    · rw [List.getElem?_set_self hi] at he; cases he
    · rw [List.getElem?_eq_none (by rw [List.length_set]; omega)] at he; cases he
  · rw [List.getElem?_set_ne hj] at he
    obtain ⟨w, h1, h2⟩ := h.2 j e he
    exact ⟨w, by rw [List.getElem?_set_ne hj]; exact h1, h2⟩
end

/-! ### a new object, a changed object, a frozen object -/
section
variable {G : Gm} {H : Hp} {ρ : Rho} {L : Store}
/-- the tables, when another thing is written -/
theorem tabs_upd {T : List (Addr × Str)} {p : Addr} {o : HO} (t : LamX.Tabs T H) (h1 : ∀ ps, H p ≠ some (.tbl ps)) (h2 : ∀ q, H p ≠ some (LamX.CodeO p q)) : LamX.Tabs T (upd H p o) := fun y hy => by
  obtain ⟨ps, e1, e2, e3⟩ := t y hy
  refine ⟨ps, by rw [upd_ne (fun e => h1 ps (by rw [← e]; exact e1))]; exact e1, e2, fun pos cv hc => ?_⟩
  obtain ⟨c, g1, g2⟩ := e3 pos cv hc
  exact ⟨c, g1, by rw [upd_ne (fun e => h2 y.2 (by rw [← e]; exact g2))]; exact g2⟩
theorem tabs_new {T : List (Addr × Str)} {p : Addr} {o : HO} (t : LamX.Tabs T H) (hp : H p = none) : LamX.Tabs T (upd H p o) := tabs_upd t (fun ps e => by rw [hp] at e; cases e) (fun q e => by rw [hp] at e; cases e)
theorem raw_ne_code {a : Addr} {es : Array DictEntry} {ep : Nat} {q : Str} : rawO a es ep ≠ LamX.CodeO a q := fun z => by
  unfold rawO LamX.CodeO at z
  injection z with z
  have hb : Heap.get? ⟨Array.replicate (a + 1) { cls := .none, data := .fields #[.none, .str q 0] }, {}⟩ a = some { cls := .none, data := .fields #[.none, .str q 0] } := by
    unfold Heap.get?
    simp
  have k := congrFun z ⟨Array.replicate (a + 1) { cls := .none, data := .fields #[.none, .str q 0] }, {}⟩
  have r := (eq_iff_iff.mp k).mpr ⟨_, _, 0, hb, rfl, rfl⟩
  obtain ⟨⟨o, ho, _, hd⟩, _⟩ := r
  rw [hb] at ho
  cases ho
  cases hd
theorem orel_code {p : Addr} {m : MO} {q : Str} (h : ORel G H ρ (some p) m) : H p ≠ some (LamX.CodeO p q) := fun z => by
  cases m with
  | dead => cases h
  | lst xs =>
    obtain ⟨a, vs, e1, e2, _⟩ := h
    cases e1
    rw [e2] at z
    cases z
  | dct kvs =>
    obtain ⟨a, es, ep, e1, e2, _⟩ := h
    cases e1
    rw [e2] at z
    exact raw_ne_code (Option.some.inj z)
  | ins c fs =>
    obtain ⟨a, dx, fs', e1, e2, _⟩ := h
    cases e1
    rw [e2] at z
    cases z
theorem AbsL.code {p : Addr} {i : Nat} {q : Str} (A : AbsL G H ρ L) (hi : ρ[i]? = some (some p)) : H p ≠ some (LamX.CodeO p q) := by
  have hl : i < L.length := by
    rw [← A.len]
    exact (List.getElem?_eq_some_iff.mp hi).1
  obtain ⟨sl, h1, h2⟩ := A.obj i L[i] (List.getElem?_eq_getElem hl)
  rw [hi] at h1
  cases h1
  exact orel_code h2
theorem AbsL.noTbl {p : Addr} {i : Nat} {ps : Array Value} (A : AbsL G H ρ L) (hi : ρ[i]? = some (some p)) : H p ≠ some (.tbl ps) := fun e => by
  have q := A.live i p hi
  rw [e] at q
  exact q
/-- a heap with a new thing: nothing of the store -/
theorem Step.grow {p : Addr} {o : HO} (hp : H p = none) : Step H ρ (upd H p o) ρ :=
  ⟨Nat.le_refl _, fun _ _ _ h => h, fun i a _ hi h => (by rw [List.getElem?_eq_none hi] at h; cases h), fun a u h _ _ => (by rw [upd_ne (ne_of_none h hp)]; exact h),
    fun a u h n => ⟨u, by rw [upd_ne (ne_of_none h hp)]; exact h, n⟩⟩
theorem AbsL.grow {p : Addr} {o : HO} (A : AbsL G H ρ L) (hp : H p = none) : AbsL G (upd H p o) ρ L := by
  have st : Step H ρ (upd H p o) ρ := Step.grow hp
  have keep : ∀ a u, H a = some u → upd H p o a = some u := fun a u h => by rw [upd_ne (ne_of_none h hp)]; exact h
  refine ⟨A.len, fun i ob h => ?_, fun i a h => ?_, A.inj, tabs_new A.tab hp⟩
  · obtain ⟨sl, h1, h2⟩ := A.obj i ob h
    refine ⟨sl, h1, ?_⟩
    cases ob with
    | dead => exact h2
    | lst xs => obtain ⟨a, vs, e1, e2, e3⟩ := h2; exact ⟨a, vs, e1, keep _ _ e2, e3.step A.live st⟩
    | dct kvs => obtain ⟨a, es, ep, e1, e2, e3⟩ := h2; exact ⟨a, es, ep, e1, keep _ _ e2, e3.step A.live st⟩
    | ins c fs =>
      obtain ⟨a, dx, fs', e1, e2, e3, e4⟩ := h2
      exact ⟨a, dx, fs', e1, keep _ _ e2, keep _ _ e3, Paired.mapP e4 fun p q z => ⟨z.1, z.2.step A.live st⟩⟩
  · have q := A.live i a h
    cases e : H a with
    | none => rw [e] at q; exact q.elim
    | some u => rw [keep _ _ e]; rw [e] at q; exact q
theorem slot_new {p : Addr} : ∀ (i : Nat) (a : Addr), (ρ ++ [some p])[i]? = some (some a) → ρ[i]? = some (some a) ∨ (i = ρ.length ∧ a = p) := fun i a h => by
  by_cases hi : i < ρ.length
  · rw [List.getElem?_append_left hi] at h; exact .inl h
  · rw [List.getElem?_append_right (by omega)] at h
    have : i - ρ.length = 0 := by
      cases e : i - ρ.length with
      | zero => rfl
      | succ n => rw [e] at h; simp at h
    rw [this] at h
    simp at h
    exact .inr ⟨by omega, h.symm⟩
theorem Step.alloc {p : Addr} {o : HO} (hp : H p = none) : Step H ρ (upd H p o) (ρ ++ [some p]) := by
  refine ⟨by simp, fun i a hi h => ?_, fun i a u hi h e _ => ?_, fun a u h _ _ => by rw [upd_ne (ne_of_none h hp)]; exact h, fun a u h n => ⟨u, by rw [upd_ne (ne_of_none h hp)]; exact h, n⟩⟩
  · rw [List.getElem?_append_left hi] at h; exact h
  · rcases slot_new i a h with q | ⟨_, q⟩
    · rw [List.getElem?_eq_none hi] at q; cases q
    · rw [q, hp] at e; cases e
theorem Step.over {p : Addr} {o : HO} {i : Nat} (hi : ρ[i]? = some (some p)) (no : Nt o) : Step H ρ (upd H p o) ρ := by
  refine ⟨Nat.le_refl _, fun _ _ _ h => h, fun j a _ hj h => (by rw [List.getElem?_eq_none hj] at h; cases h), fun a u h _ n => (by rw [upd_ne (fun e => n i (by rw [e]; exact hi))]; exact h), fun a u h n => ?_⟩
  by_cases e : a = p
  · subst e; exact ⟨o, upd_same, no⟩
  · exact ⟨u, by rw [upd_ne e]; exact h, n⟩
/-- .. that the store tracks -/
theorem AbsL.alloc {p : Addr} {o : HO} {m : MO} (A : AbsL G H ρ L) (hp : H p = none) (mu : Mut (some o)) (hm : ORel G (upd H p o) (ρ ++ [some p]) (some p) m) :
    Step H ρ (upd H p o) (ρ ++ [some p]) ∧ AbsL G (upd H p o) (ρ ++ [some p]) (L ++ [m]) ∧ Rep G (upd H p o) (ρ ++ [some p]) (.ref L.length) (.ref p) := by
  have keep : ∀ a u, H a = some u → upd H p o a = some u := fun a u h => by rw [upd_ne (ne_of_none h hp)]; exact h
  have sp : ∀ (i : Nat) a, (ρ ++ [some p])[i]? = some (some a) → ρ[i]? = some (some a) ∨ (i = ρ.length ∧ a = p) := fun i a h => by
    by_cases hi : i < ρ.length
    · rw [List.getElem?_append_left hi] at h; exact .inl h
    · rw [List.getElem?_append_right (by omega)] at h
      have : i - ρ.length = 0 := by
        cases e : i - ρ.length with
        | zero => rfl
        | succ n => rw [e] at h; simp at h
      rw [this] at h
      simp at h
      exact .inr ⟨by omega, h.symm⟩
  have st : Step H ρ (upd H p o) (ρ ++ [some p]) := Step.alloc hp
  refine ⟨st, ⟨by simp [A.len], fun i ob h => ?_, fun i a h => ?_, fun i j a h h' => ?_, tabs_new A.tab hp⟩, .ref (by rw [← A.len]; simp) fun a h => ?_⟩
  · by_cases hi : i < L.length
    · rw [List.getElem?_append_left hi] at h
      obtain ⟨sl, h1, h2⟩ := A.obj i ob h
      refine ⟨sl, by rw [List.getElem?_append_left (by rw [A.len]; exact hi)]; exact h1, ?_⟩
      cases ob with
      | dead => exact h2
      | lst xs => obtain ⟨a, vs, e1, e2, e3⟩ := h2; exact ⟨a, vs, e1, keep _ _ e2, e3.step A.live st⟩
      | dct kvs => obtain ⟨a, es, ep, e1, e2, e3⟩ := h2; exact ⟨a, es, ep, e1, keep _ _ e2, e3.step A.live st⟩
      | ins c fs =>
        obtain ⟨a, dx, fs', e1, e2, e3, e4⟩ := h2
        exact ⟨a, dx, fs', e1, keep _ _ e2, keep _ _ e3, Paired.mapP e4 fun p q z => ⟨z.1, z.2.step A.live st⟩⟩
    · rw [List.getElem?_append_right (by omega)] at h
      have e : i - L.length = 0 := by
        cases e : i - L.length with
        | zero => rfl
        | succ n => rw [e] at h; simp at h
      rw [e] at h
      simp at h
      subst h
      have ei : i = ρ.length := by rw [A.len]; omega
      refine ⟨some p, ?_, hm⟩
      rw [ei, List.getElem?_append_right (Nat.le_refl _)]
      simp
  · rcases sp i a h with q | ⟨_, q⟩
    · have z := A.live i a q
      cases e : H a with
      | none => rw [e] at z; exact z.elim
      | some u => rw [keep _ _ e]; rw [e] at z; exact z
    · rw [q, upd_same]; exact mu
  · rcases sp i a h with q | ⟨q1, q2⟩ <;> rcases sp j a h' with q' | ⟨q1', q2'⟩
    · exact A.inj i j a q q'
    · subst q2'
      have z := A.live i a q
      rw [hp] at z; exact z.elim
    · subst q2
      have z := A.live j a q'
      rw [hp] at z; exact z.elim
    · rw [q1, q1']
  · rcases sp _ a h with q | ⟨_, q⟩
    · rw [← A.len, List.getElem?_eq_none (Nat.le_refl _)] at q; cases q
    · rw [q]
/-- the i-th object is changed -/
theorem AbsL.write {p : Addr} {o : HO} {m : MO} {i : Nat} (A : AbsL G H ρ L) (hi : ρ[i]? = some (some p)) (mu : Mut (some o)) (hm : ORel G (upd H p o) ρ (some p) m) :
    Step H ρ (upd H p o) ρ ∧ AbsL G (upd H p o) ρ (L.set i m) := by
  have keep : ∀ a u, a ≠ p → H a = some u → upd H p o a = some u := fun a u n h => by rw [upd_ne n]; exact h
  have ne : ∀ j a, j ≠ i → ρ[j]? = some (some a) → a ≠ p := fun j a n h e => n (A.inj j i a h (e ▸ hi))
  have st : Step H ρ (upd H p o) ρ := Step.over hi (Nt.of_mut mu)
  refine ⟨st, ⟨by rw [List.length_set]; exact A.len, fun j ob h => ?_, fun j a h => ?_, A.inj, tabs_upd A.tab (fun ps => A.noTbl hi) (fun q => A.code hi)⟩⟩
  · by_cases hj : i = j
    · subst hj
      have hl : i < L.length := by
        rw [← A.len]
        exact (List.getElem?_eq_some_iff.mp hi).1
      rw [List.getElem?_set_self hl] at h
      cases h
      exact ⟨some p, hi, hm⟩
    · rw [List.getElem?_set_ne hj] at h
      obtain ⟨sl, h1, h2⟩ := A.obj j ob h
      refine ⟨sl, h1, ?_⟩
      cases ob with
      | dead => exact h2
      | lst xs => obtain ⟨a, vs, e1, e2, e3⟩ := h2; exact ⟨a, vs, e1, keep _ _ (ne j a (Ne.symm hj) (e1 ▸ h1)) e2, e3.step A.live st⟩
      | dct kvs => obtain ⟨a, es, ep, e1, e2, e3⟩ := h2; exact ⟨a, es, ep, e1, keep _ _ (ne j a (Ne.symm hj) (e1 ▸ h1)) e2, e3.step A.live st⟩
      | ins c fs =>
        obtain ⟨a, dx, fs', e1, e2, e3, e4⟩ := h2
        have nd : dx ≠ p := fun e => by
          have z := A.live i p hi
          rw [← e, e3] at z; exact z.elim
        exact ⟨a, dx, fs', e1, keep _ _ (ne j a (Ne.symm hj) (e1 ▸ h1)) e2, keep _ _ nd e3, Paired.mapP e4 fun p q z => ⟨z.1, z.2.step A.live st⟩⟩
  · by_cases e : a = p
    · subst e; rw [upd_same]; exact mu
    · rw [upd_ne e]; exact A.live j a h
/-- the i-th object is given up: it is frozen -/
theorem AbsL.kill {p : Addr} {o : HO} {i : Nat} (A : AbsL G H ρ L) (hi : ρ[i]? = some (some p)) (no : Nt o) :
    Step H ρ (upd H p o) (ρ.set i none) ∧ AbsL G (upd H p o) (ρ.set i none) (L.set i .dead) := by
  have keep : ∀ a u, a ≠ p → H a = some u → upd H p o a = some u := fun a u n h => by rw [upd_ne n]; exact h
  have ne : ∀ j a, j ≠ i → ρ[j]? = some (some a) → a ≠ p := fun j a n h e => n (A.inj j i a h (e ▸ hi))
  have sp : ∀ (j : Nat) a, (ρ.set i none)[j]? = some (some a) → j ≠ i ∧ ρ[j]? = some (some a) := fun j a h => by
    by_cases hj : i = j
    · subst hj
      rw [List.getElem?_set_self (List.getElem?_eq_some_iff.mp hi).1] at h
      cases h
    · rw [List.getElem?_set_ne hj] at h
      exact ⟨Ne.symm hj, h⟩
  have st : Step H ρ (upd H p o) (ρ.set i none) := by
    have s0 : Step H ρ (upd H p o) ρ := Step.over hi no
    exact ⟨by rw [List.length_set]; exact Nat.le_refl _, fun j a _ h => (sp j a h).2, fun j a _ hj h => (by rw [List.getElem?_eq_none (by rw [List.length_set]; exact hj)] at h; cases h), fun a u h m n => s0.fr a u h m n, s0.dom⟩
  refine ⟨st, ⟨by rw [List.length_set, List.length_set]; exact A.len, fun j ob h => ?_, fun j a h => ?_, fun j k a h h' => A.inj j k a (sp j a h).2 (sp k a h').2, tabs_upd A.tab (fun ps => A.noTbl hi) (fun q => A.code hi)⟩⟩
  · by_cases hj : i = j
    · subst hj
      have hl : i < L.length := by
        rw [← A.len]
        exact (List.getElem?_eq_some_iff.mp hi).1
      rw [List.getElem?_set_self hl] at h
      cases h
      exact ⟨none, List.getElem?_set_self (List.getElem?_eq_some_iff.mp hi).1, rfl⟩
    · rw [List.getElem?_set_ne hj] at h
      obtain ⟨sl, h1, h2⟩ := A.obj j ob h
      refine ⟨sl, by rw [List.getElem?_set_ne hj]; exact h1, ?_⟩
      cases ob with
      | dead => exact h2
      | lst xs => obtain ⟨a, vs, e1, e2, e3⟩ := h2; exact ⟨a, vs, e1, keep _ _ (ne j a (Ne.symm hj) (e1 ▸ h1)) e2, e3.step A.live st⟩
      | dct kvs => obtain ⟨a, es, ep, e1, e2, e3⟩ := h2; exact ⟨a, es, ep, e1, keep _ _ (ne j a (Ne.symm hj) (e1 ▸ h1)) e2, e3.step A.live st⟩
      | ins c fs =>
        obtain ⟨a, dx, fs', e1, e2, e3, e4⟩ := h2
        have nd : dx ≠ p := fun e => by
          have z := A.live i p hi
          rw [← e, e3] at z; exact z.elim
        exact ⟨a, dx, fs', e1, keep _ _ (ne j a (Ne.symm hj) (e1 ▸ h1)) e2, keep _ _ nd e3, Paired.mapP e4 fun p q z => ⟨z.1, z.2.step A.live st⟩⟩
  · obtain ⟨n, h'⟩ := sp j a h
    rw [upd_ne (ne j a n h')]
    exact A.live j a h'
end
end Df
namespace Df
open PySem PySem.Spec PyProof.Rows L2

/-! ### the judgements -/
abbrev gm (cl : Cl) (X : Cx) : Gm := ⟨X.w, X.K, cl⟩
/-- the field in which a class of errors keeps its value -/
def fldOf (c : String) : Str := if c = "BadPaper" then "place" else if c = "BadEdit" then "number" else "row"
/-- an exception: its class, the value that it bears -/
def XRep (G : Gm) (H : Hp) (ρ : Rho) (x : XD) (cls : Value) (dx : Option Addr) : Prop :=
  cls = .ref (G.cl.f x.c) ∧ ((x.v = .non ∧ dx = none) ∨ x.v ≠ .non ∧ ∃ d f v, dx = some d ∧ H d = some (.xd [(f, v)]) ∧ Rep G H ρ x.v v ∧ f = fldOf x.c)
/-- what is wanted behind an evaluation -/
def After {α : Type} (G : Gm) (W : WX) (σ : L2.St) (ρ : Rho) (H : Hp) (r : R α) (Q : α → Hp → Rho → Store → Prop) : Prop := match r with
  | .ok a L' => ∀ H' ρ', Step H ρ H' ρ' → AbsL G H' ρ' L' → Q a H' ρ' L'
  | .err x L' => ∀ cls dx H' ρ', Step H ρ H' ρ' → XRep G H' ρ' x cls dx → AbsL G H' ρ' L' → W cls dx σ H'
  | .bad => False
section
variable {G : Gm} {W : WX} {σ : L2.St} {ρ : Rho} {H : Hp}
theorem After.mono {α : Type} {r : R α} {Q Q' : α → Hp → Rho → Store → Prop} (h : After G W σ ρ H r Q) (f : ∀ a H' ρ' L', Step H ρ H' ρ' → AbsL G H' ρ' L' → Q a H' ρ' L' → Q' a H' ρ' L') : After G W σ ρ H r Q' := by
  cases r with
  | ok a L => exact fun H' ρ' st ab => f a H' ρ' L st ab (h H' ρ' st ab)
  | err x L => exact h
  | bad => exact h
theorem After.andThen {α β : Type} {r : R α} {f : α → Store → R β} {Q : β → Hp → Rho → Store → Prop} (h : After G W σ ρ H (r.andThen f) Q) : After G W σ ρ H r fun a H1 ρ1 L1 => After G W σ ρ1 H1 (f a L1) Q := by
  cases r with
  | ok a L =>
    intro H1 ρ1 st ab
    have h' : After G W σ ρ H (f a L) Q := h
    cases e : f a L with
    | ok b L2 =>
      rw [e] at h'
      exact fun H2 ρ2 st2 ab2 => h' H2 ρ2 (st.trans st2) ab2
    | err x L2 =>
      rw [e] at h'
      exact fun cls dx H2 ρ2 st2 hx ab2 => h' cls dx H2 ρ2 (st.trans st2) hx ab2
    | bad => rw [e] at h'; exact h'
  | err x L => exact h
  | bad => exact h
end
def tE (G : Gm) (W : WX) (f : Ev) : TE := fun σ H Q => ∃ ρ δ L, SlOk G H ρ σ δ ∧ AbsL G H ρ L ∧ After G W σ ρ H (f δ L) fun d H' ρ' _ => ∀ v, Rep G H' ρ' d v → Q v H'
def tT (G : Gm) (W : WX) (f : Tv) : TT := fun σ H Q => ∃ ρ δ L, SlOk G H ρ σ δ ∧ AbsL G H ρ L ∧ After G W σ ρ H (f δ L) fun b H' _ _ => Q b H'
def tA (G : Gm) (W : WX) (f : Av) : TA := fun σ H Q => ∃ ρ δ L, SlOk G H ρ σ δ ∧ AbsL G H ρ L ∧ After G W σ ρ H (f δ L) fun ds H' ρ' _ => ∀ vs, RepL G H' ρ' ds vs → Q vs H'
def DE (cl : Cl) (W : WX) (X : Cx) (e : Expr) (f : Ev) : Prop := PE X e (tE (gm cl X) W f)
def DT (cl : Cl) (W : WX) (X : Cx) (e : Expr) (f : Tv) : Prop := PT X e (tT (gm cl X) W f)
def DA (cl : Cl) (W : WX) (X : Cx) (es : List Expr) (f : Av) : Prop := PA X es (tA (gm cl X) W f)
theorem imp_e {X : Cx} {e : Expr} {t t' : TE} (h : PE X e t) (i : ∀ σ H Q, t' σ H Q → t σ H Q) : PE X e t' := ⟨fun pins s σ H Q I q => h.run pins s σ H Q I (i σ H Q q)⟩
theorem imp_t {X : Cx} {e : Expr} {t t' : TT} (h : PT X e t) (i : ∀ σ H Q, t' σ H Q → t σ H Q) : PT X e t' := ⟨fun pins s σ H Q I q => h.run pins s σ H Q I (i σ H Q q)⟩
theorem imp_a {X : Cx} {es : List Expr} {t t' : TA} (h : PA X es t) (i : ∀ σ H Q, t' σ H Q → t σ H Q) : PA X es t' := ⟨fun pos pins s σ H Q I q => h.run pos pins s σ H Q I (i σ H Q q)⟩
theorem imp_s {X : Cx} {e : Stmt} {t t' : TS} (h : PS X e t) (i : ∀ D σ H, t' D σ H → t D σ H) : PS X e t' := ⟨fun pins s σ H D I q => h.run pins s σ H D I (i D σ H q)⟩
theorem imp_ss {X : Cx} {e : List Stmt} {t t' : TS} (h : PSs X e t) (i : ∀ D σ H, t' D σ H → t D σ H) : PSs X e t' := ⟨fun pins s σ H D I q => h.run pins s σ H D I (i D σ H q)⟩

/-! ### operations by values -/
/-- a two-place operation of the machine does what g says -/
def Op2 (cl : Cl) (X : Cx) (g : D → D → Store → R D) (r : R2) : Prop :=
  ∀ (W : WX) (σ : L2.St) (H : Hp) (ρ : Rho) (L : Store) (x y : D) (v u : V) (Q : VK), AbsL (gm cl X) H ρ L → Rep (gm cl X) H ρ x v → Rep (gm cl X) H ρ y u →
    After (gm cl X) W σ ρ H (g x y L) (fun d H' ρ' _ => ∀ w, Rep (gm cl X) H' ρ' d w → Q w H') → r v u H Q
def Op1 (cl : Cl) (X : Cx) (g : D → Store → R D) (r : V → Hp → VK → Prop) : Prop :=
  ∀ (W : WX) (σ : L2.St) (H : Hp) (ρ : Rho) (L : Store) (x : D) (v : V) (Q : VK), AbsL (gm cl X) H ρ L → Rep (gm cl X) H ρ x v →
    After (gm cl X) W σ ρ H (g x L) (fun d H' ρ' _ => ∀ w, Rep (gm cl X) H' ρ' d w → Q w H') → r v H Q
def OpA (cl : Cl) (X : Cx) (g : List D → Store → R D) (r : List V → Hp → VK → Prop) : Prop :=
  ∀ (W : WX) (σ : L2.St) (H : Hp) (ρ : Rho) (L : Store) (xs : List D) (vs : List V) (Q : VK), AbsL (gm cl X) H ρ L → RepL (gm cl X) H ρ xs vs →
    After (gm cl X) W σ ρ H (g xs L) (fun d H' ρ' _ => ∀ w, Rep (gm cl X) H' ρ' d w → Q w H') → r vs H Q
section
variable {cl : Cl} {W : WX} {X : Cx} {a b c e : Expr} {fa fb fc f : Ev} {pos : Pos} {g g' : D → D → Store → R D} {r r' : R2}
theorem run2 (op : Op2 cl X g r) {σ : L2.St} {H : Hp} {Q : VK} (h : tE (gm cl X) W (eOp g fa fb) σ H Q) : tOp r (tE (gm cl X) W fa) (tE (gm cl X) W fb) σ H Q := by
  obtain ⟨ρ, δ, L, hs, ha, h⟩ := h
  refine ⟨ρ, δ, L, hs, ha, After.mono (After.andThen h) fun x H1 ρ1 L1 st1 a1 h1 v rv => ?_⟩
  refine ⟨ρ1, δ, L1, hs.step ha.live st1, a1, After.mono (After.andThen h1) fun y H2 ρ2 L2 st2 a2 h2 u ru => ?_⟩
  exact op W σ H2 ρ2 L2 x y v u Q a2 (rv.step a1.live st2) ru h2
theorem de_op {op : Operator} (ho : OpR X (binaryOp op) r) (hd : Op2 cl X g r) (ha : DE cl W X a fa) (hb : DE cl W X b fb) : DE cl W X (.BinOp a op b pos) (eOp g fa fb) :=
  imp_e (pe_op ho ha hb) fun _ _ _ h => run2 hd h
theorem de_cmp {op : CmpOp} (ho : OpR X (compareOp op) r) (hd : Op2 cl X g r) (ha : DE cl W X a fa) (hb : DE cl W X b fb) (hm : behindInMarks op b = false) : DE cl W X (.Compare a [op] [b] pos) (eOp g fa fb) :=
  imp_e (pe_cmpR ho ha hb hm) fun _ _ _ h => run2 hd h
/-- a comparison tells True or False -/
def Bl2 (g : D → D → Store → R D) : Prop := ∀ x y L, match g x y L with
  | .ok (.bl _) _ => True
  | .ok _ _ => False
  | _ => True
theorem tv_op {σ : L2.St} {H : Hp} {Q : Bool → Hp → Prop} (h : tT (gm cl X) W (tVal f) σ H Q) : tE (gm cl X) W f σ H fun v H' => ∃ k, v = .bl k ∧ Q k H' := by
  obtain ⟨ρ, δ, L, hs, ha, h⟩ := h
  refine ⟨ρ, δ, L, hs, ha, After.mono (After.andThen h) fun x H1 ρ1 L1 st1 a1 h1 v rv => ?_⟩
  cases x with
  | bl k => cases rv; exact ⟨k, rfl, h1 H1 ρ1 (Step.refl _ _) a1⟩
  | _ => exact (show False from h1).elim
theorem dt_cmp {op : CmpOp} (ho : OpR X (compareOp op) r) (hd : Op2 cl X g r) (ha : DE cl W X a fa) (hb : DE cl W X b fb) (hm : behindInMarks op b = false) : DT cl W X (.Compare a [op] [b] pos) (tVal (eOp g fa fb)) :=
  imp_t (pt_cmpR ho ha hb hm) fun _ _ _ h => run2 hd (tv_op h)
theorem dt_val (h : DE cl W X e f) (he : ∀ whole, isTrue e X.env whole = (do let v ← whole; standAt e.pos; holding [v] (truthy v)) := by intro _; rfl) : DT cl W X e (tVal f) :=
  imp_t (pt_val h he) fun _ _ _ h => tv_op h
theorem run_chain (op : Op2 cl X g r) (op' : Op2 cl X g' r') {σ : L2.St} {H : Hp} {Q : VK} (h : tE (gm cl X) W (eChain g g' fa fb fc) σ H Q) : tChain r r' (tE (gm cl X) W fa) (tE (gm cl X) W fb) (tE (gm cl X) W fc) σ H Q := by
  obtain ⟨ρ, δ, L, hs, ha, h⟩ := h
  refine ⟨ρ, δ, L, hs, ha, After.mono (After.andThen h) fun x H1 ρ1 L1 st1 a1 h1 v rv => ?_⟩
  refine ⟨ρ1, δ, L1, hs.step ha.live st1, a1, After.mono (After.andThen h1) fun y H2 ρ2 L2 st2 a2 h2 u ru => ?_⟩
  refine op W σ H2 ρ2 L2 x y v u _ a2 (rv.step a1.live st2) ru (After.mono (After.andThen h2) fun z H3 ρ3 L3 st3 a3 h3 w rw' => ?_)
  cases z with
  | bl k =>
    cases rw'
    cases k with
    | true =>
      refine ⟨true, rfl, iteT ⟨ρ3, δ, L3, ((hs.step ha.live st1).step a1.live st2).step a2.live st3, a3, After.mono (After.andThen h3) fun t H4 ρ4 L4 st4 a4 h4 w' rw2 => ?_⟩⟩
      exact op' W σ H4 ρ4 L4 y t u w' Q a4 ((ru.step a2.live st3).step a3.live st4) rw2 h4
    | false => exact ⟨false, rfl, iteF (h3 H3 ρ3 (Step.refl _ _) a3 _ (.bl false))⟩
  | _ => exact (show False from h3).elim
theorem de_chain {op op' : CmpOp} (ho : OpR X (compareOp op) r) (hd : Op2 cl X g r) (ho' : OpR X (compareOp op') r') (hd' : Op2 cl X g' r') (ha : DE cl W X a fa) (hb : DE cl W X b fb) (hc : DE cl W X c fc)
    (hm : lastMarks [op, op'] [b, c] = false := by with_unfolding_all rfl) : DE cl W X (.Compare a [op, op'] [b, c] pos) (eChain g g' fa fb fc) :=
  imp_e (pe_chain ho ho' ha hb hc hm) fun _ _ _ h => run_chain hd hd' h
theorem dt_chain {op op' : CmpOp} (ho : OpR X (compareOp op) r) (hd : Op2 cl X g r) (ho' : OpR X (compareOp op') r') (hd' : Op2 cl X g' r') (ha : DE cl W X a fa) (hb : DE cl W X b fb) (hc : DE cl W X c fc)
    (hm : lastMarks [op, op'] [b, c] = false := by with_unfolding_all rfl) : DT cl W X (.Compare a [op, op'] [b, c] pos) (tVal (eChain g g' fa fb fc)) :=
  imp_t (pt_chain ho ho' ha hb hc hm) fun _ _ _ h => run_chain hd hd' (tv_op h)
theorem de_un {op : UnaryOp} {q : V → Hp → VK → Prop} {g : D → Store → R D} (ho : UnR X (unaryOp op) q) (hd : Op1 cl X g q) (ha : DE cl W X a fa) : DE cl W X (.UnaryOp op a pos) (eUn g fa) :=
  imp_e (pe_un ho ha) fun σ _ Q ⟨ρ, δ, L, hs, ha, h⟩ => ⟨ρ, δ, L, hs, ha, After.mono (After.andThen h) fun x H1 ρ1 L1 _ a1 h1 v rv => hd W σ H1 ρ1 L1 x v Q a1 rv h1⟩

/-! ### names, constants, displays -/
theorem de_var (i : Nat) {x : Str} (hN : X.N[i]? = some x := by rfl) (hv : Vis X.env.scope x := by first | exact Or.inl rfl | exact Or.inr (Or.inl rfl) | exact Or.inr (Or.inr rfl)) (hd : (x == ("__debug__" : Str)) = false := by decide)
    (hcd : (x == ("__classdict__" : Str)) = false := by decide) : DE cl W X (.Name x pos) (eVar i) := by
  refine imp_e (pe_var (i := i) hN hv hd hcd) fun σ H Q h => ?_
  obtain ⟨ρ, δ, L, hs, ha, h⟩ := h
  unfold eVar at h
  cases e : δ[i]? with
  | none => rw [e] at h; exact h.elim
  | some o =>
    cases o with
    | none => rw [e] at h; exact (show False from h).elim
    | some d =>
      rw [e] at h
      obtain ⟨v, h1, h2⟩ := hs.2 i d e
      exact ⟨v, h1, h H ρ (Step.refl _ _) ha v h2⟩
theorem run_c {d : D} {v : V} {σ : L2.St} {H : Hp} {Q : VK} (hr : ∀ ρ, Rep (gm cl X) H ρ d v) (h : tE (gm cl X) W (eC d) σ H Q) : Q v H := by
  obtain ⟨ρ, δ, L, hs, ha, h⟩ := h
  exact h H ρ (Step.refl _ _) ha v (hr ρ)
theorem de_int {i : Int} {j} : DE cl W X (.Constant (.int i) j pos) (eC (.int i)) := imp_e pe_int fun _ _ _ h => run_c (fun _ => .int i) h
theorem de_str {x : Str} {j} : DE cl W X (.Constant (.str x) j pos) (eC (.str x)) := imp_e pe_str fun _ _ _ h => run_c (fun _ => .str x) h
theorem de_bl {k : Bool} {j} : DE cl W X (.Constant (.bool k) j pos) (eC (.bl k)) := imp_e pe_bl fun _ _ _ h => run_c (fun _ => .bl k) h
theorem de_non {j} : DE cl W X (.Constant .none j pos) (eC .non) := imp_e pe_non fun _ _ _ h => run_c (fun _ => .non) h
theorem de_gint {x : Str} {i : Int} {t : Tok} (hm : X.mg x = some (.int i t)) (hg : Gl X x := by rfl) (hd : (x == ("__debug__" : Str)) = false := by decide) : DE cl W X (.Name x pos) (eC (.int i)) :=
  imp_e (pe_glob (v := .int i) hg hm ⟨t, rfl⟩ hd) fun _ _ _ h => run_c (fun _ => .int i) h
theorem de_gstr {x y : Str} {t : Tok} (hm : X.mg x = some (.str y t)) (hg : Gl X x := by rfl) (hd : (x == ("__debug__" : Str)) = false := by decide) : DE cl W X (.Name x pos) (eC (.str y)) :=
  imp_e (pe_glob (v := .str y) hg hm ⟨t, rfl⟩ hd) fun _ _ _ h => run_c (fun _ => .str y) h
theorem de_never : DE cl W X e eNever := ⟨fun pins s σ H Q I h => by obtain ⟨ρ, δ, L, _, _, h⟩ := h; exact h.elim⟩
variable {es : List Expr} {fs : Av}
theorem da_nil : DA cl W X [] aNil := imp_a pa_nil fun _ H _ h => by
  obtain ⟨ρ, δ, L, hs, ha, h⟩ := h
  exact h H ρ (Step.refl _ _) ha [] .nil
theorem da_cons (he : DE cl W X e f) (hr : DA cl W X es fs) (hst : starEach (e :: es) X.env = (false, eval e X.env) :: starEach es X.env := by rfl) : DA cl W X (e :: es) (aCons f fs) := by
  refine imp_a (pa_cons he hr hst) fun σ H Q h => ?_
  obtain ⟨ρ, δ, L, hs, ha, h⟩ := h
  refine ⟨ρ, δ, L, hs, ha, After.mono (After.andThen h) fun x H1 ρ1 L1 st1 a1 h1 v rv => ?_⟩
  refine ⟨ρ1, δ, L1, hs.step ha.live st1, a1, After.mono (After.andThen h1) fun ds H2 ρ2 L2 st2 a2 h2 vs rvs => ?_⟩
  exact h2 H2 ρ2 (Step.refl _ _) a2 _ (.cons (rv.step a1.live st2) rvs)
theorem most_le {n : Nat} (h : n ≤ most) : n ≤ sizeLine := Nat.le_trans h (by decide)
theorem most_lt {n : Nat} (h : n < most) : n < sizeLine := Nat.lt_of_lt_of_le h (by decide)
theorem de_tup {k} (h : DA cl W X es fs) : DE cl W X (.Tuple es k pos) (eTup fs) := by
  refine imp_e (pe_tup h) fun σ H Q h => ?_
  obtain ⟨ρ, δ, L, hs, ha, h⟩ := h
  refine ⟨ρ, δ, L, hs, ha, After.mono (After.andThen h) fun ds H1 ρ1 L1 st1 a1 h1 vs rvs => ?_⟩
  by_cases hz : ds.length ≤ most
  · rw [if_pos hz] at h1
    refine ⟨by rw [← rvs.length]; exact most_le hz, fun p hp => ?_⟩
    exact h1 _ ρ1 (Step.grow hp) (a1.grow hp) _ (.tup (.inl (.inl upd_same)) (rvs.step a1.live (Step.grow hp)))
  · rw [if_neg hz] at h1; exact h1.elim
theorem alloc_lst {H : Hp} {ρ : Rho} {L : Store} {xs : List D} {vs : List V} {p : Addr} {σ : L2.St} {Q : VK} (ab : AbsL (gm cl X) H ρ L) (rv : RepL (gm cl X) H ρ xs vs) (hp : H p = none)
    (h : After (gm cl X) W σ ρ H (alloc (.lst xs) L) fun d H' ρ' _ => ∀ w, Rep (gm cl X) H' ρ' d w → Q w H') : Q (.ref p) (upd H p (.lst vs)) := by
  have st0 : Step H ρ (upd H p (.lst vs)) (ρ ++ [some p]) := by
    exact Step.alloc hp
  obtain ⟨st, ab2, r⟩ := AbsL.alloc (m := .lst xs) (o := .lst vs) ab hp True.intro ⟨p, vs, rfl, upd_same, rv.step ab.live st0⟩
  exact h _ _ st ab2 _ r
theorem de_lst (h : DA cl W X es fs) : DE cl W X (.List es pos) (eLst fs) := by
  refine imp_e (pe_lst h) fun σ H Q h => ?_
  obtain ⟨ρ, δ, L, hs, ha, h⟩ := h
  refine ⟨ρ, δ, L, hs, ha, After.mono (After.andThen h) fun ds H1 ρ1 L1 st1 a1 h1 vs rvs => ?_⟩
  by_cases hz : ds.length ≤ most
  · rw [if_pos hz] at h1
    exact ⟨by rw [← rvs.length]; exact most_le hz, fun p hp => alloc_lst a1 rvs hp h1⟩
  · rw [if_neg hz] at h1; exact h1.elim

/-! ### and, or, not, if -/
variable {ta tb : Tv} {rest : List Expr}
theorem dt_not (ha : DT cl W X a ta) : DT cl W X (.UnaryOp .Not a pos) (tNot ta) :=
  imp_t (pt_not ha) fun _ _ _ ⟨ρ, δ, L, hs, ha, h⟩ => ⟨ρ, δ, L, hs, ha, After.mono (After.andThen h) fun _ H1 ρ1 _ _ a1 h1 => h1 H1 ρ1 (Step.refl _ _) a1⟩
theorem run_and {σ : L2.St} {H : Hp} {Q : Bool → Hp → Prop} (h : tT (gm cl X) W (tAnd ta tb) σ H Q) : L2.tAnd (tT (gm cl X) W ta) (tT (gm cl X) W tb) σ H Q := by
  obtain ⟨ρ, δ, L, hs, ha, h⟩ := h
  refine ⟨ρ, δ, L, hs, ha, After.mono (After.andThen h) fun x H1 ρ1 L1 st1 a1 h1 => ?_⟩
  cases x with
  | true => exact iteT ⟨ρ1, δ, L1, hs.step ha.live st1, a1, h1⟩
  | false => exact iteF (h1 H1 ρ1 (Step.refl _ _) a1)
theorem run_or {σ : L2.St} {H : Hp} {Q : Bool → Hp → Prop} (h : tT (gm cl X) W (tOr ta tb) σ H Q) : L2.tOr (tT (gm cl X) W ta) (tT (gm cl X) W tb) σ H Q := by
  obtain ⟨ρ, δ, L, hs, ha, h⟩ := h
  refine ⟨ρ, δ, L, hs, ha, After.mono (After.andThen h) fun x H1 ρ1 L1 st1 a1 h1 => ?_⟩
  cases x with
  | false => exact iteF ⟨ρ1, δ, L1, hs.step ha.live st1, a1, h1⟩
  | true => exact iteT (h1 H1 ρ1 (Step.refl _ _) a1)
/-- a chain of and, or as a test -/
def DW (cl : Cl) (W : WX) (X : Cx) (e : Expr) (f : Tv) : Prop := PW X e (tT (gm cl X) W f)
theorem imp_w {X : Cx} {e : Expr} {t t' : TT} (h : PW X e t) (i : ∀ σ H Q, t' σ H Q → t σ H Q) : PW X e t' := ⟨fun wh pins s σ H Q I q => h.run wh pins s σ H Q I (i σ H Q q)⟩
theorem dw_and1 (h : DT cl W X a ta) : DW cl W X (.BoolOp .And [a] pos) ta := pw_and1 h
theorem dw_or1 (h : DT cl W X a ta) : DW cl W X (.BoolOp .Or [a] pos) ta := pw_or1 h
theorem dw_and (ha : DT cl W X a ta) (hb : DW cl W X (.BoolOp .And (b :: rest) pos) tb) : DW cl W X (.BoolOp .And (a :: b :: rest) pos) (tAnd ta tb) := imp_w (pw_and ha hb) fun _ _ _ h => run_and h
theorem dw_or (ha : DT cl W X a ta) (hb : DW cl W X (.BoolOp .Or (b :: rest) pos) tb) : DW cl W X (.BoolOp .Or (a :: b :: rest) pos) (tOr ta tb) := imp_w (pw_or ha hb) fun _ _ _ h => run_or h
theorem dt_w (h : DW cl W X e ta) : DT cl W X e ta := PW.pt h
theorem de_one {op} (h : DE cl W X a f) : DE cl W X (.BoolOp op [a] pos) f := pe_one h
theorem de_and (ha : DE cl W X a fa) (hb : DE cl W X (.BoolOp .And (b :: rest) pos) fb) : DE cl W X (.BoolOp .And (a :: b :: rest) pos) (eAnd fa fb) := by
  refine imp_e (pe_and ha hb) fun σ H Q h => ?_
  obtain ⟨ρ, δ, L, hs, ha, h⟩ := h
  refine ⟨ρ, δ, L, hs, ha, After.mono (After.andThen h) fun x H1 ρ1 L1 st1 a1 h1 v rv => ?_⟩
  cases x with
  | bl k =>
    cases rv
    cases k with
    | true => exact ⟨true, rfl, iteT ⟨ρ1, δ, L1, hs.step ha.live st1, a1, h1⟩⟩
    | false => exact ⟨false, rfl, iteF (h1 H1 ρ1 (Step.refl _ _) a1 _ (.bl false))⟩
  | _ => exact (show False from h1).elim
theorem de_or (ha : DE cl W X a fa) (hb : DE cl W X (.BoolOp .Or (b :: rest) pos) fb) : DE cl W X (.BoolOp .Or (a :: b :: rest) pos) (eOr fa fb) := by
  refine imp_e (pe_or ha hb) fun σ H Q h => ?_
  obtain ⟨ρ, δ, L, hs, ha, h⟩ := h
  refine ⟨ρ, δ, L, hs, ha, After.mono (After.andThen h) fun x H1 ρ1 L1 st1 a1 h1 v rv => ?_⟩
  cases x with
  | bl k =>
    cases rv
    cases k with
    | false => exact ⟨false, rfl, iteF ⟨ρ1, δ, L1, hs.step ha.live st1, a1, h1⟩⟩
    | true => exact ⟨true, rfl, iteT (h1 H1 ρ1 (Step.refl _ _) a1 _ (.bl true))⟩
  | _ => exact (show False from h1).elim
theorem de_not (ha : DE cl W X a fa) : DE cl W X (.UnaryOp .Not a pos) (eNot fa) := by
  refine imp_e (pe_not ha) fun σ H Q h => ?_
  obtain ⟨ρ, δ, L, hs, ha, h⟩ := h
  refine ⟨ρ, δ, L, hs, ha, After.mono (After.andThen h) fun x H1 ρ1 L1 st1 a1 h1 v rv => ?_⟩
  cases x with
  | bl k => cases rv; exact ⟨k, rfl, h1 H1 ρ1 (Step.refl _ _) a1 _ (.bl _)⟩
  | _ => exact (show False from h1).elim
theorem de_if {t : Tv} (hc : DT cl W X c t) (ha : DE cl W X a fa) (hb : DE cl W X b fb) : DE cl W X (.IfExp c a b pos) (eIf t fa fb) := by
  refine imp_e (pe_ifExp hc ha hb) fun σ H Q h => ?_
  obtain ⟨ρ, δ, L, hs, ha, h⟩ := h
  refine ⟨ρ, δ, L, hs, ha, After.mono (After.andThen h) fun x H1 ρ1 L1 st1 a1 h1 => ?_⟩
  cases x with
  | true => exact iteT ⟨ρ1, δ, L1, hs.step ha.live st1, a1, h1⟩
  | false => exact iteF ⟨ρ1, δ, L1, hs.step ha.live st1, a1, h1⟩
end
end Df
namespace Df
open PySem PySem.Spec PyProof.Rows L2

/-! ### statements -/
def AfterS (G : Gm) (W : WX) (D : Ends) (ρ : Rho) (H : Hp) (r : R Fl) : Prop := match r with
  | .ok (.nx δ') L' => ∀ σ' H' ρ', Step H ρ H' ρ' → SlOk G H' ρ' σ' δ' → AbsL G H' ρ' L' → D.nx σ' H'
  | .ok (.rt d) L' => ∀ v H' ρ', Step H ρ H' ρ' → Rep G H' ρ' d v → AbsL G H' ρ' L' → D.rt v H'
  | .ok (.bk δ') L' => ∀ σ' H' ρ', Step H ρ H' ρ' → SlOk G H' ρ' σ' δ' → AbsL G H' ρ' L' → D.bk σ' H'
  | .ok (.ct δ') L' => ∀ σ' H' ρ', Step H ρ H' ρ' → SlOk G H' ρ' σ' δ' → AbsL G H' ρ' L' → D.ct σ' H'
  | .err x L' => ∀ cls dx σ' H' ρ', Step H ρ H' ρ' → XRep G H' ρ' x cls dx → AbsL G H' ρ' L' → W cls dx σ' H'
  | .bad => False
section
variable {G : Gm} {W : WX} {D : Ends} {ρ ρ1 : Rho} {H H1 : Hp}
theorem AfterS.step {r : R Fl} (st : Step H ρ H1 ρ1) (h : AfterS G W D ρ H r) : AfterS G W D ρ1 H1 r := by
  cases r with
  | ok f L =>
    cases f with
    | nx δ => exact fun σ' H' ρ' st' => h σ' H' ρ' (st.trans st')
    | rt d => exact fun v H' ρ' st' => h v H' ρ' (st.trans st')
    | bk δ => exact fun σ' H' ρ' st' => h σ' H' ρ' (st.trans st')
    | ct δ => exact fun σ' H' ρ' st' => h σ' H' ρ' (st.trans st')
  | err x L => exact fun cls dx σ' H' ρ' st' => h cls dx σ' H' ρ' (st.trans st')
  | bad => exact h
theorem AfterS.andThen {α : Type} {σ : L2.St} {r : R α} {f : α → Store → R Fl} (h : AfterS G W D ρ H (r.andThen f)) : After G W σ ρ H r fun a H1 ρ1 L1 => AfterS G W D ρ1 H1 (f a L1) := by
  cases r with
  | ok a L =>
    intro H1 ρ1 st ab
    have h' : AfterS G W D ρ H (f a L) := h
    exact h'.step st
  | err x L => exact fun cls dx H' ρ' st hx ab => h cls dx σ H' ρ' st hx ab
  | bad => exact h
end
def tS (G : Gm) (W : WX) (f : Sv) : TS := fun D σ H => ∃ ρ δ L, SlOk G H ρ σ δ ∧ AbsL G H ρ L ∧ AfterS G W D ρ H (f δ L)
def DS (cl : Cl) (W : WX) (X : Cx) (st : Stmt) (f : Sv) : Prop := PS X st (tS (gm cl X) W f)
def DSs (cl : Cl) (W : WX) (X : Cx) (st : List Stmt) (f : Sv) : Prop := PSs X st (tS (gm cl X) W f)
section
variable {cl : Cl} {W : WX} {X : Cx} {st : Stmt} {rest : List Stmt} {e c : Expr} {f : Ev} {u v : Sv} {pos : Pos}
theorem run_nil {D : Ends} {σ : L2.St} {H : Hp} (h : tS (gm cl X) W sNil D σ H) : D.nx σ H := by
  obtain ⟨ρ, δ, L, hs, ha, h⟩ := h
  exact h σ H ρ (Step.refl _ _) hs ha
theorem ds_nil : DSs cl W X [] sNil := imp_ss pss_nil fun _ _ _ h => run_nil h
theorem ds_pass : DS cl W X (.Pass pos) sNil := imp_s ps_pass fun _ _ _ h => run_nil h
theorem ds_cons (h1 : DS cl W X st u) (h2 : DSs cl W X rest v) : DSs cl W X (st :: rest) (sSeq u v) := by
  refine imp_ss (pss_cons h1 h2) fun D σ H h => ?_
  obtain ⟨ρ, δ, L, hs, ha, h⟩ := h
  refine ⟨ρ, δ, L, hs, ha, ?_⟩
  unfold sSeq at h
  cases e : u δ L with
  | ok fl L1 =>
    rw [e] at h
    cases fl with
    | nx δ1 => exact fun σ' H' ρ' st' sl ab => ⟨ρ', δ1, L1, sl, ab, AfterS.step st' h⟩
    | rt d => exact h
    | bk δ1 => exact h
    | ct δ1 => exact h
  | err x L1 => rw [e] at h; exact h
  | bad => rw [e] at h; exact h
theorem ds_one (h1 : DS cl W X st u) : DSs cl W X [st] u := pss_one h1
theorem ds_expr (he : DE cl W X e f) (hs : swapsWith e none pos.line X.env = pure false := by rfl) : DS cl W X (.Expr e pos) (sExpr f) := by
  refine imp_s (ps_expr he hs) fun D σ H h => ?_
  obtain ⟨ρ, δ, L, hs, ha, h⟩ := h
  exact ⟨ρ, δ, L, hs, ha, After.mono (AfterS.andThen h) fun d H1 ρ1 L1 st1 a1 h1 w _ => h1 σ H1 ρ1 (Step.refl _ _) (hs.step ha.live st1) a1⟩
theorem ds_ret (he : DE cl W X e f) : DS cl W X (.Return (some e) pos) (sRet f) := by
  refine imp_s (ps_ret he) fun D σ H h => ?_
  obtain ⟨ρ, δ, L, hs, ha, h⟩ := h
  exact ⟨ρ, δ, L, hs, ha, After.mono (AfterS.andThen h) fun d H1 ρ1 L1 st1 a1 h1 w rw' => h1 w H1 ρ1 (Step.refl _ _) rw' a1⟩
theorem ds_retN : DS cl W X (.Return none pos) sRetN := imp_s ps_retN fun D σ H h => by
  obtain ⟨ρ, δ, L, hs, ha, h⟩ := h
  exact h _ H ρ (Step.refl _ _) .non ha
theorem ds_break : DS cl W X (.Break pos) sBreak := imp_s ps_break fun D σ H h => by
  obtain ⟨ρ, δ, L, hs, ha, h⟩ := h
  exact h σ H ρ (Step.refl _ _) hs ha
theorem ds_cont : DS cl W X (.Continue pos) sCont := imp_s ps_continue fun D σ H h => by
  obtain ⟨ρ, δ, L, hs, ha, h⟩ := h
  exact h σ H ρ (Step.refl _ _) hs ha
theorem ds_never : DS cl W X st sNever := imp_s ps_never fun D σ H h => by obtain ⟨ρ, δ, L, _, _, h⟩ := h; exact h
theorem dss_never : DSs cl W X rest sNever := imp_ss pss_never fun D σ H h => by obtain ⟨ρ, δ, L, _, _, h⟩ := h; exact h
theorem ds_if {a b : List Stmt} {t : Tv} (hc : DT cl W X c t) (ha : DSs cl W X a u) (hb : DSs cl W X b v) : DS cl W X (.If c a b pos) (sIf t u v) := by
  refine imp_s (ps_if hc ha hb) fun D σ H h => ?_
  obtain ⟨ρ, δ, L, hs, ha, h⟩ := h
  refine ⟨ρ, δ, L, hs, ha, After.mono (AfterS.andThen h) fun x H1 ρ1 L1 st1 a1 h1 => ?_⟩
  cases x with
  | true => exact iteT ⟨ρ1, δ, L1, hs.step ha.live st1, a1, h1⟩
  | false => exact iteF ⟨ρ1, δ, L1, hs.step ha.live st1, a1, h1⟩

/-! ### targets -/
def Tg.slots : Tg → List Nat
  | .nm i => [i]
  | .tp is => is
  | .tl is => is
/-- an assignment of d to the target: the slots behind it differ at the target's slots alone -/
def DG (cl : Cl) (X : Cx) (tg : Expr) (t : Tg) : Prop := ∃ g, PG X tg g ∧ ∀ (H : Hp) (ρ : Rho) (σ : L2.St) (δ δ' : Sl) (d : D) (v : V) (Q : L2.St → Hp → Prop),
  SlOk (gm cl X) H ρ σ δ → Rep (gm cl X) H ρ d v → t.put d δ = some δ' →
  (∀ σ', SlOk (gm cl X) H ρ σ' δ' → (∀ vs : List Nat, (∀ i ∈ t.slots, i ∈ vs) → L2.wipe σ' vs = L2.wipe σ vs) → Q σ' H) → g v σ H Q
theorem wipe_set {σ : L2.St} {i : Nat} {x : Option V} : ∀ {vs : List Nat}, i ∈ vs → L2.wipe (σ.set i x) vs = L2.wipe σ vs
  | v :: vs, h => by
    show (L2.wipe (σ.set i x) vs).set v none = (L2.wipe σ vs).set v none
    by_cases hv : i ∈ vs
    · rw [wipe_set hv]
    · have e : i = v := by rcases List.mem_cons.mp h with z | z; exact z; exact absurd z hv
      subst e
      have key : ∀ ws : List Nat, i ∉ ws → L2.wipe (σ.set i x) ws = (L2.wipe σ ws).set i x := by
        intro ws
        induction ws with
        | nil => intro _; rfl
        | cons w ws ih =>
          intro hn
          have h1 : i ≠ w := fun e => hn (e ▸ List.mem_cons_self)
          show (L2.wipe (σ.set i x) ws).set w none = ((L2.wipe σ ws).set w none).set i x
          rw [ih fun z => hn (List.mem_cons_of_mem _ z), List.set_comm _ _ h1]
      rw [key vs hv, List.set_set]
theorem dg_name (i : Nat) {x : Str} (hN : X.N.Nodup) (hi : X.N[i]? = some x := by rfl) (hx : Loc X.env.scope x := by first | exact Or.inl rfl | exact Or.inr rfl) (hf : X.fn x = true ∨ X.env.scope.names.lookup x = some .local := by first | exact .inl rfl | exact .inr rfl) : DG cl X (.Name x pos) (.nm i) := by
  refine ⟨gName i, pg_name hN hi hx hf, fun H ρ σ δ δ' d v Q hs r hp k => ?_⟩
  cases hp
  exact k _ (hs.set r) fun vs hv => wipe_set (hv i List.mem_cons_self)
/-- the names of a tuple target -/
def DGs (cl : Cl) (X : Cx) (es : List Expr) (is : List Nat) : Prop := ∃ g, PGs X es g ∧ es.length = is.length ∧ ∀ (H : Hp) (ρ : Rho) (σ : L2.St) (δ : Sl) (ds : List D) (vs : List V) (Q : L2.St → Hp → Prop),
  SlOk (gm cl X) H ρ σ δ → RepL (gm cl X) H ρ ds vs → ds.length = is.length →
  (∀ σ', SlOk (gm cl X) H ρ σ' (setAll is ds δ) → (∀ ws : List Nat, (∀ i ∈ is, i ∈ ws) → L2.wipe σ' ws = L2.wipe σ ws) → Q σ' H) → g vs σ H Q
theorem dgs_nil : DGs cl X [] [] := ⟨gNil, pgs_nil, rfl, fun H ρ σ δ ds vs Q hs r hl k => by
  cases r with
  | nil => exact ⟨rfl, k σ hs fun _ _ => rfl⟩
  | cons _ _ => cases hl⟩
theorem dgs_cons (i : Nat) {x : Str} {es : List Expr} {is : List Nat} (hN : X.N.Nodup) (h : DGs cl X es is) (hi : X.N[i]? = some x := by rfl) (hx : Loc X.env.scope x := by first | exact Or.inl rfl | exact Or.inr rfl)
    (hf : X.fn x = true ∨ X.env.scope.names.lookup x = some .local := by first | exact .inl rfl | exact .inr rfl) (hst : (assignEach (.Name x pos :: es) X.env).map (·.2) = assign (.Name x pos) X.env :: (assignEach es X.env).map (·.2) := by rfl) : DGs cl X (.Name x pos :: es) (i :: is) := by
  obtain ⟨g, h1, hl, h2⟩ := h
  refine ⟨_, pgs_cons (pg_name hN hi hx hf) h1 hst, by rw [List.length_cons, List.length_cons, hl], fun H ρ σ δ ds vs Q hs r hl k => ?_⟩
  cases r with
  | nil => cases hl
  | cons r rr =>
    refine ⟨_, _, rfl, h2 H ρ _ _ _ _ _ (hs.set r) rr (Nat.succ.inj hl) fun σ' sl hw => k σ' sl fun ws hm => ?_⟩
    rw [hw ws fun j hj => hm j (List.mem_cons_of_mem _ hj), wipe_set (hm i List.mem_cons_self)]
theorem dg_tup {es : List Expr} {is : List Nat} {k : Nat} (hc : X.calm = true) (h : DGs cl X es is)
    (hn : (assignEach es X.env).length = es.length := by rfl) (hst : (assignEach es X.env).findIdx? (·.1) = none := by rfl) : DG cl X (.Tuple es k pos) (.tp is) := by
  obtain ⟨g, h1, hl, h2⟩ := h
  refine ⟨_, pg_tup (n := es.length) hc h1 hn hst, fun H ρ σ δ δ' d v Q hs r hp kk => ?_⟩
  cases d with
  | tup ds =>
    cases r with
    | tup hq rr =>
      by_cases e : ds.length = is.length
      · have hp' : (if ds.length = is.length then some (setAll is ds δ) else none) = some δ' := hp
        rw [if_pos e] at hp'
        cases hp'
        exact ⟨_, _, rfl, hq, by rw [← rr.length, e, hl], h2 H ρ σ δ ds _ Q hs rr e kk⟩
      · have hp' : (if ds.length = is.length then some (setAll is ds δ) else none) = some δ' := hp
        rw [if_neg e] at hp'
        cases hp'
  | _ => cases hp

/-- .. of a list that nobody changes -/
theorem dg_lst {es : List Expr} {is : List Nat} {k : Nat} (hc : X.calm = true) (h : DGs cl X es is)
    (hn : (assignEach es X.env).length = es.length := by rfl) (hst : (assignEach es X.env).findIdx? (·.1) = none := by rfl) : DG cl X (.Tuple es k pos) (.tl is) := by
  obtain ⟨g, h1, hl, h2⟩ := h
  refine ⟨_, pg_lst (n := es.length) hc h1 hn hst, fun H ρ σ δ δ' d v Q hs r hp kk => ?_⟩
  cases d with
  | lst ds =>
    cases r with
    | lst hq rr =>
      by_cases e : ds.length = is.length
      · have hp' : (if ds.length = is.length then some (setAll is ds δ) else none) = some δ' := hp
        rw [if_pos e] at hp'
        cases hp'
        exact ⟨_, _, rfl, .inl (.inr ⟨_, hq⟩), by rw [← rr.length, e, hl], h2 H ρ σ δ ds _ Q hs rr e kk⟩
      · have hp' : (if ds.length = is.length then some (setAll is ds δ) else none) = some δ' := hp
        rw [if_neg e] at hp'
        cases hp'
  | _ => cases hp

/-! ### assignments -/
theorem run_put {g : TG} {tg : Tg} {En : Ends} {σ : L2.St} {H : Hp} {d : Df.D} {v : V} {ρ : Rho} {δ : Sl} {L : Store}
    (hg : ∀ (H : Hp) (ρ : Rho) (σ : L2.St) (δ δ' : Sl) (d : Df.D) (v : V) (Q : L2.St → Hp → Prop),
  SlOk (gm cl X) H ρ σ δ → Rep (gm cl X) H ρ d v → tg.put d δ = some δ' →
  (∀ σ', SlOk (gm cl X) H ρ σ' δ' → (∀ vs : List Nat, (∀ i ∈ tg.slots, i ∈ vs) → L2.wipe σ' vs = L2.wipe σ vs) → Q σ' H) → g v σ H Q)
    (hs : SlOk (gm cl X) H ρ σ δ) (ab : AbsL (gm cl X) H ρ L) (r : Rep (gm cl X) H ρ d v)
    (h : AfterS (gm cl X) W En ρ H (match tg.put d δ with
      | some δ => .ok (.nx δ) L
      | none => .bad)) : g v σ H En.nx := by
  cases e : tg.put d δ with
  | none => rw [e] at h; exact h.elim
  | some δ' =>
    rw [e] at h
    exact hg H ρ σ δ δ' d v _ hs r e fun σ' sl _ => h σ' H ρ (Step.refl _ _) sl ab
theorem ds_asg {tg : Expr} {t : Tg} (he : DE cl W X e f) (hg : DG cl X tg t) (hs : swapsWithSole [tg] e pos.line X.env = pure false := by rfl) (hw : swappedStores [tg] e X.env = pure none := by rfl)
    (h1 : (assignEach [tg] X.env).map (·.2) = [assign tg X.env] := by rfl) : DS cl W X (.Assign [tg] e pos) (sSet t f) := by
  obtain ⟨g, hg, hd⟩ := hg
  refine imp_s (ps_asg he hg hs hw h1) fun D σ H h => ?_
  obtain ⟨ρ, δ, L, hs, ha, h⟩ := h
  exact ⟨ρ, δ, L, hs, ha, After.mono (AfterS.andThen h) fun d H1 ρ1 L1 st1 a1 h2 w rw' => run_put hd (hs.step ha.live st1) a1 rw' h2⟩
theorem ds_set (i : Nat) {x : Str} {pos' : Pos} (hN : X.N.Nodup) (he : DE cl W X e f) (hi : X.N[i]? = some x := by rfl) (hx : Loc X.env.scope x := by first | exact Or.inl rfl | exact Or.inr rfl) (hs : swapsWith e (some (.Name x pos')) pos.line X.env = pure false := by rfl)
    (hf : X.fn x = true ∨ X.env.scope.names.lookup x = some .local := by first | exact .inl rfl | exact .inr rfl) : DS cl W X (.Assign [.Name x pos'] e pos) (sSet (.nm i) f) := by
  refine imp_s (ps_set (i := i) hN hi hx he hs hf) fun D σ H h => ?_
  obtain ⟨ρ, δ, L, hs, ha, h⟩ := h
  exact ⟨ρ, δ, L, hs, ha, After.mono (AfterS.andThen h) fun d H1 ρ1 L1 st1 a1 h2 w rw' => h2 _ H1 ρ1 (Step.refl _ _) ((hs.step ha.live st1).set rw') a1⟩
theorem ds_par (i j : Nat) {x y : Str} {a b : Expr} {fs : Av} {px py pt : Pos} {kt k2 pt2} (hc : X.calm = true) (hN : X.N.Nodup) (ha : DA cl W X [a, b] fs) (hi : X.N[i]? = some x := by rfl) (hj : X.N[j]? = some y := by rfl) (hij : i ≠ j := by decide)
    (hx : X.env.scope.names.lookup x = some .local := by rfl) (hy : X.env.scope.names.lookup y = some .local := by rfl)
    (hw : swappedStores [.Tuple [.Name x px, .Name y py] kt pt] (.Tuple [a, b] k2 pt2) X.env = pure (some [x, y]) := by rfl)
    (hs : swapsWithSole [.Tuple [.Name x px, .Name y py] kt pt] (.Tuple [a, b] k2 pt2) pos.line X.env = pure false := by rfl) :
    DS cl W X (.Assign [.Tuple [.Name x px, .Name y py] kt pt] (.Tuple [a, b] k2 pt2) pos) (sPar i j fs) := by
  refine imp_s (ps_par hc hN hi hj hij hx hy ha hw hs) fun D σ H h => ?_
  obtain ⟨ρ, δ, L, hs, ha, h⟩ := h
  refine ⟨ρ, δ, L, hs, ha, After.mono (AfterS.andThen h) fun ds H1 ρ1 L1 st1 a1 h2 vs rv => ?_⟩
  cases rv with
  | nil => exact h2.elim
  | cons r1 rr =>
    cases rr with
    | nil => exact h2.elim
    | cons r2 rr =>
      cases rr with
      | cons _ _ => exact h2.elim
      | nil => exact ⟨_, _, rfl, h2 _ H1 ρ1 (Step.refl _ _) (((hs.step ha.live st1).set r1).set r2) a1⟩
/-- a store by values -/
def OpP (cl : Cl) (X : Cx) (g : D → D → D → Store → R Unit) (r : V → V → V → Hp → (Hp → Prop) → Prop) : Prop :=
  ∀ (W : WX) (σ : L2.St) (H : Hp) (ρ : Rho) (L : Store) (x y z : D) (u v w : V) (Q : Hp → Prop), AbsL (gm cl X) H ρ L → Rep (gm cl X) H ρ x u → Rep (gm cl X) H ρ y v → Rep (gm cl X) H ρ z w →
    After (gm cl X) W σ ρ H (g x y z L) (fun _ H' _ _ => Q H') → r u v w H Q
theorem ds_put {o i : Expr} {fo fi : Ev} {tset : TSet} {g : D → D → D → Store → R Unit} {pos' : Pos} (he : DE cl W X e f) (ho : DE cl W X o fo) (hi : DE cl W X i fi) (hp : PSet X tset) (hd : OpP cl X g tset)
    (ha : ∀ v, assign (.Subscript o i pos') X.env v = (do
      let ov ← holding [v] (eval o X.env)
      let iv ← holding [v, ov] (eval i X.env)
      standAt pos'
      holding [v, ov, iv] (setItem ov iv v)
      release [v, ov, iv] []) := by intro _; rfl)
    (hs : swapsWithSole [.Subscript o i pos'] e pos.line X.env = pure false := by rfl) (hw : swappedStores [.Subscript o i pos'] e X.env = pure none := by rfl)
    (h1 : (assignEach [.Subscript o i pos'] X.env).map (·.2) = [assign (.Subscript o i pos') X.env] := by rfl) : DS cl W X (.Assign [.Subscript o i pos'] e pos) (sPut g fo fi f) := by
  refine imp_s (ps_asg he (pg_sub ho hi hp ha) hs hw h1) fun D σ H h => ?_
  obtain ⟨ρ, δ, L, hs, ha, h⟩ := h
  refine ⟨ρ, δ, L, hs, ha, After.mono (AfterS.andThen h) fun d H1 ρ1 L1 st1 a1 h1 w rw' => ?_⟩
  have hs1 := hs.step ha.live st1
  refine ⟨ρ1, δ, L1, hs1, a1, After.mono (AfterS.andThen h1) fun x H2 ρ2 L2 st2 a2 h2 u ru => ?_⟩
  have hs2 := hs1.step a1.live st2
  refine ⟨ρ2, δ, L2, hs2, a2, After.mono (AfterS.andThen h2) fun y H3 ρ3 L3 st3 a3 h3 v rv => ?_⟩
  have hs3 := hs2.step a2.live st3
  refine hd W σ H3 ρ3 L3 x y d u v w _ a3 (ru.step a2.live st3) rv ((rw'.step a1.live st2).step a2.live st3) (After.mono (AfterS.andThen h3) fun _ H4 ρ4 L4 st4 a4 h4 => ?_)
  exact h4 σ H4 ρ4 (Step.refl _ _) (hs3.step a3.live st4) a4

/-! ### for, while -/
/-- J yields the items xs, one after another, whatever happens meanwhile to other things -/
structure Wk (G : Gm) (H : Hp) (ρ : Rho) (J : It) (xs : List D) : Prop where
  go : ∀ (H2 : Hp) (ρ2 : Rho) (L2 : Store) (i : Nat) (d : D), Step H ρ H2 ρ2 → AbsL G H2 ρ2 L2 → xs[i]? = some d → J.go i H2 ∧ ∀ x H3, J.yld i H2 x H3 → Step H2 ρ2 H3 ρ2 ∧ AbsL G H3 ρ2 L2 ∧ Rep G H3 ρ2 d x
  stop : ∀ (H2 : Hp) (ρ2 : Rho) (L2 : Store), Step H ρ H2 ρ2 → AbsL G H2 ρ2 L2 → J.stop xs.length H2
theorem Wk.step {G : Gm} {H H1 : Hp} {ρ ρ1 : Rho} {J : It} {xs : List D} (w : Wk G H ρ J xs) (st : Step H ρ H1 ρ1) : Wk G H1 ρ1 J xs :=
  ⟨fun H2 ρ2 L2 i d s => w.go H2 ρ2 L2 i d (st.trans s), fun H2 ρ2 L2 s => w.stop H2 ρ2 L2 (st.trans s)⟩
def DI (cl : Cl) (W : WX) (X : Cx) (tg iter : Expr) (f : Iv) : Prop := ∃ wi, PI X tg iter wi ∧ ∀ (σ : L2.St) (H : Hp) (Rr : It → Hp → Prop) (ρ : Rho) (δ : Sl) (L : Store), SlOk (gm cl X) H ρ σ δ → AbsL (gm cl X) H ρ L →
  After (gm cl X) W σ ρ H (f δ L) (fun xs H' ρ' L' => ∀ J, Wk (gm cl X) H' ρ' J xs → Rr J H') → wi σ H Rr
theorem ds_for {tg iter : Expr} {body : List Stmt} {t : Tg} {it : Iv} (hp : PassesOwn (model X.prog X.w) X.A X.env X.xe) (hc : X.calm = true) (hi : DI cl W X tg iter it) (hg : DG cl X tg t) (hb : DSs cl W X body u)
    (hs : ∀ x, foldedSetIterable iter X.env x = pure x := by intro _; rfl) : DS cl W X (.For tg iter body [] pos) (sFor t it u) := by
  obtain ⟨wi, hi, hwi⟩ := hi
  obtain ⟨g, hg, hgd⟩ := hg
  refine imp_s (ps_for hp hc hi hg hb hs) fun D σ H h => ?_
  obtain ⟨ρ, δ, L, hs, ha, h⟩ := h
  refine hwi σ H _ ρ δ L hs ha (After.mono (AfterS.andThen h) fun xs H1 ρ1 L1 st1 a1 h1 J wk => ?_)
  have hs1 := hs.step ha.live st1
  refine ⟨fun i m σ' H' => m = xs.length - i ∧ i ≤ xs.length ∧ ∃ ρ2 δ2 L2, Step H1 ρ1 H' ρ2 ∧ SlOk (gm cl X) H' ρ2 σ' δ2 ∧ AbsL (gm cl X) H' ρ2 L2 ∧ AfterS (gm cl X) W D ρ2 H' (forL t u (xs.drop i) δ2 L2),
    ⟨xs.length, by simp, Nat.zero_le _, ρ1, δ, L1, Step.refl _ _, hs1, a1, h1⟩, ?_⟩
  rintro i m σ' H' ⟨rfl, hi, ρ2, δ2, L2, st2, hs2, a2, h2⟩
  by_cases hlt : i < xs.length
  · have e : xs.drop i = xs[i] :: xs.drop (i + 1) := List.drop_eq_getElem_cons hlt
    have hx : xs[i]? = some xs[i] := List.getElem?_eq_getElem hlt
    obtain ⟨go, yl⟩ := wk.go H' ρ2 L2 i _ st2 a2 hx
    refine .inr ⟨go, fun σ3 H3 => ∃ ρ3 δ3 L3, Step H1 ρ1 H3 ρ3 ∧ SlOk (gm cl X) H3 ρ3 σ3 δ3 ∧ AbsL (gm cl X) H3 ρ3 L3 ∧ AfterS (gm cl X) W D ρ3 H3 (forL t u (xs.drop (i + 1)) δ3 L3),
      fun σ3 H3 ⟨ρ3, δ3, L3, s3, k3, b3, h3⟩ => ⟨xs.length - (i + 1), by omega, rfl, hlt, ρ3, δ3, L3, s3, k3, b3, h3⟩, fun x H3 hy => ?_⟩
    obtain ⟨s3, a3, r3⟩ := yl x H3 hy
    rw [e] at h2
    have h2 : AfterS (gm cl X) W D ρ2 H' (match t.put xs[i] δ2 with
      | none => .bad
      | some δ1 => (u δ1 L2).andThen fun f L => match f with
        | .nx δ => forL t u (xs.drop (i + 1)) δ L
        | .ct δ => forL t u (xs.drop (i + 1)) δ L
        | .bk δ => .ok (.nx δ) L
        | .rt d => .ok (.rt d) L) := h2
    cases ep : t.put xs[i] δ2 with
    | none => rw [ep] at h2; exact h2.elim
    | some δ3 =>
      rw [ep] at h2
      refine hgd H3 ρ2 σ' δ2 δ3 _ x _ (hs2.step a2.live s3) r3 ep fun σ4 sl4 _ => ⟨ρ2, δ3, L2, sl4, a3, ?_⟩
      have h3 := AfterS.step s3 h2
      cases eu : u δ3 L2 with
      | ok fl L5 =>
        simp only [eu, R.andThen] at h3
        cases fl with
        | nx δ5 => exact fun σ5 H5 ρ5 s5 k5 b5 => ⟨ρ5, δ5, L5, (st2.trans s3).trans s5, k5, b5, AfterS.step s5 h3⟩
        | ct δ5 => exact fun σ5 H5 ρ5 s5 k5 b5 => ⟨ρ5, δ5, L5, (st2.trans s3).trans s5, k5, b5, AfterS.step s5 h3⟩
        | bk δ5 => exact h3
        | rt d => exact h3
      | err x5 L5 => simp only [eu, R.andThen] at h3; exact h3
      | bad => simp only [eu, R.andThen] at h3; exact h3
  · have e : i = xs.length := by omega
    subst e
    rw [List.drop_length] at h2
    exact .inl ⟨wk.stop H' ρ2 L2 st2 a2, h2 σ' H' ρ2 (Step.refl _ _) hs2 a2⟩
theorem ds_while {body : List Stmt} {t : Tv} (hp : PassesOwn (model X.prog X.w) X.A X.env X.xe) (hc : DT cl W X c t) (hb : DSs cl W X body u) : DS cl W X (.While c body [] pos) (sWhile t u) := by
  refine imp_s (ps_while hp hc hb) fun D σ H h => ?_
  obtain ⟨ρ, δ, L, hs, ha, h⟩ := h
  unfold sWhile at h
  by_cases hn : ∃ n, whileN t u n δ L ≠ .bad
  · rw [dif_pos hn] at h
    refine ⟨fun m σ' H' => ∃ ρ2 δ2 L2, SlOk (gm cl X) H' ρ2 σ' δ2 ∧ AbsL (gm cl X) H' ρ2 L2 ∧ AfterS (gm cl X) W D ρ2 H' (whileN t u m δ2 L2), ⟨_, ρ, δ, L, hs, ha, h⟩, ?_⟩
    rintro m σ' H' ⟨ρ2, δ2, L2, hs2, a2, h2⟩
    cases m with
    | zero => exact h2.elim
    | succ m =>
      have h2 : AfterS (gm cl X) W D ρ2 H' ((t δ2 L2).andThen fun k L => if k = true then (u δ2 L).andThen fun f L => match f with
        | .nx δ => whileN t u m δ L
        | .ct δ => whileN t u m δ L
        | .bk δ => .ok (.nx δ) L
        | .rt d => .ok (.rt d) L
      else .ok (.nx δ2) L) := h2
      refine ⟨ρ2, δ2, L2, hs2, a2, After.mono (AfterS.andThen h2) fun k H3 ρ3 L3 st3 a3 h3 => ?_⟩
      have hs3 := hs2.step a2.live st3
      cases k with
      | true =>
        rw [if_pos rfl] at h3
        refine iteT ?_
        refine ⟨fun σ5 H5 => ∃ ρ5 δ5 L5, SlOk (gm cl X) H5 ρ5 σ5 δ5 ∧ AbsL (gm cl X) H5 ρ5 L5 ∧ AfterS (gm cl X) W D ρ5 H5 (whileN t u m δ5 L5), fun σ5 H5 q => ⟨m, Nat.lt_succ_self m, q⟩, ρ3, δ2, L3, hs3, a3, ?_⟩
        cases eu : u δ2 L3 with
        | ok fl L5 =>
          simp only [eu, R.andThen] at h3
          cases fl with
          | nx δ5 => exact fun σ5 H5 ρ5 s5 k5 b5 => ⟨ρ5, δ5, L5, k5, b5, AfterS.step s5 h3⟩
          | ct δ5 => exact fun σ5 H5 ρ5 s5 k5 b5 => ⟨ρ5, δ5, L5, k5, b5, AfterS.step s5 h3⟩
          | bk δ5 => exact h3
          | rt d => exact h3
        | err x5 L5 => simp only [eu, R.andThen] at h3; exact h3
        | bad => simp only [eu, R.andThen] at h3; exact h3
      | false =>
        rw [if_neg Bool.false_ne_true] at h3
        refine iteF ?_
        exact h3 σ' H3 ρ3 (Step.refl _ _) hs3 a3
  · rw [dif_neg hn] at h; exact h.elim
end

/-! ### a def's promise, calls -/
def sp0 (cl : Cl) (w : World) (K : PySem.W.Frag) (n : Nat) (F : Fn) : Sp := fun vs H Q _ => vs.length = n ∧ ∃ ρ ds L, RepL ⟨w, K, cl⟩ H ρ ds vs ∧ AbsL ⟨w, K, cl⟩ H ρ L ∧
  After ⟨w, K, cl⟩ (fun _ _ _ _ => False) [] ρ H (F ds L) fun d H' ρ' _ => ∀ v, Rep ⟨w, K, cl⟩ H' ρ' d v → Q v H'
abbrev W0 : WX := fun _ _ _ _ => False
/-- what a def lets out -/
abbrev WE (E : XK) : WX := fun cls d _ H => E cls d H
/-- the promise of a def that may raise -/
def spX (cl : Cl) (w : World) (K : PySem.W.Frag) (n : Nat) (F : Fn) : Sp := fun vs H Q E => vs.length = n ∧ ∃ ρ ds L, RepL ⟨w, K, cl⟩ H ρ ds vs ∧ AbsL ⟨w, K, cl⟩ H ρ L ∧
  After ⟨w, K, cl⟩ (WE E) [] ρ H (F ds L) fun d H' ρ' _ => ∀ v, Rep ⟨w, K, cl⟩ H' ρ' d v → Q v H'
theorem sl_start {G : Gm} {H : Hp} {ρ : Rho} {N : List Str} {ds : List D} {vs : List V} (r : RepL G H ρ ds vs) : SlOk G H ρ (L2.start N vs) (ds.map some ++ List.replicate (N.length - ds.length) none) := by
  refine ⟨by unfold L2.start; simp [r.length], fun i d e => ?_⟩
  unfold L2.start
  by_cases hi : i < ds.length
  · rw [List.getElem?_append_left (by simpa using hi), List.getElem?_map] at e
    cases q : ds[i]? with
    | none => rw [q] at e; cases e
    | some d' =>
      rw [q] at e
      cases e
      obtain ⟨v, h1, h2⟩ := r.get q
      exact ⟨v, by rw [List.getElem?_append_left (by rw [List.length_map, ← r.length]; exact hi), List.getElem?_map, h1]; rfl, h2⟩
  · rw [List.getElem?_append_right (by simpa using Nat.le_of_not_lt hi)] at e
    rw [List.getElem?_replicate] at e
    split at e <;> cases e
section
variable {cl : Cl} {P : Program} {w : World} {K : PySem.W.Frag} {mg : Str → Option Value} {base : Heap}
theorem fn0 {x qual : Str} {st : Stmt} {f : Addr} {fd : FuncData} {N ps : List Str} {k : Nat} {b : Sv} (F : Fun K x qual st f fd) (S : FnScope N ps (defScope st)) (n : Nat) (hn : n = N.length)
    (hb : ∀ (X : Cx) (cdv : Value) (A : Around) (outer : List Env) (s : Shared) (H : Hp) (E : XK), X = (cxOf CX0 P w K mg base N qual (defScope st) f cdv A outer s H E).nox → Room k X.A → DSs cl W0 X (defBody st) b) :
    FnOk P w K mg base CX0 (k + 1) f fd ps (sp0 cl w K ps.length (fnOf n b)) := by
  subst hn
  refine F.ok S (fun vs H Q E h => h.1) fun cdv A outer s H vs Q E hr h => ?_
  obtain ⟨hl, ρ, ds, L, r, ab, h⟩ := h
  refine ⟨_, hb _ cdv A outer s H E rfl hr, ρ, _, L, sl_start r, ab, ?_⟩
  unfold fnOf at h
  show AfterS ⟨w, K, cl⟩ W0 _ ρ H (b (ds.map some ++ List.replicate (N.length - ds.length) none) L)
  cases e : b (ds.map some ++ List.replicate (N.length - ds.length) none) L with
  | ok fl L1 =>
    rw [e] at h
    cases fl with
    | nx δ => exact fun σ' H' ρ' st' _ ab' => h H' ρ' st' ab' _ .non
    | rt d => exact fun v H' ρ' st' rv ab' => h H' ρ' st' ab' v rv
    | bk δ => exact h.elim
    | ct δ => exact h.elim
  | err x L1 => rw [e] at h; exact fun cls dx σ' H' ρ' st' hx ab' => h cls dx H' ρ' st' hx ab'
  | bad => rw [e] at h; exact h
end

section
variable {G : Gm} {H H' : Hp} {ρ ρ' : Rho} {L : Store}
mutual
theorem Rep.flat : ∀ {d : D} {v : V}, d.flat = true → Rep G H ρ d v → Rep G H ρ' d v
  | _, _, _, .non => .non
  | _, _, _, .bl b => .bl b
  | _, _, _, .int i => .int i
  | _, _, _, .str x => .str x
  | _, _, h, .tup a r => .tup a (RepL.flat (by simpa [D.flat] using h) r)
  | _, _, h, .lst a r => .lst a (RepL.flat (by simpa [D.flat] using h) r)
  | _, _, h, .dct a r => .dct a (RepE.flat (by simpa [D.flat] using h) r)
  | _, _, _, .scr a => .scr a
  | _, _, h, .ref _ _ => by simp [D.flat] at h
  | _, _, _, .xc h k => .xc h k
theorem RepL.flat : ∀ {ds : List D} {vs : List V}, D.flatL ds = true → RepL G H ρ ds vs → RepL G H ρ' ds vs
  | _, _, _, .nil => .nil
  | _, _, h, .cons r t => by
    rw [D.flatL, Bool.and_eq_true] at h
    exact .cons (Rep.flat h.1 r) (RepL.flat h.2 t)
theorem RepE.flat : ∀ {kvs : List (D × D)} {es : List DictEntry}, D.flatP kvs = true → RepE G H ρ kvs es → RepE G H ρ' kvs es
  | _, _, _, .nil => .nil
  | _, _, h, .cons g a b c d e t => by
    rw [D.flatP, Bool.and_eq_true, Bool.and_eq_true] at h
    exact .cons g (Rep.flat h.1.1 a) b c (Rep.flat h.1.2 d) e (RepE.flat h.2 t)
end
/-- nothing that was tracked has changed -/
theorem AbsL.same (A : AbsL G H ρ L) (kt : LamX.Tabs G.cl.T H') (k : ∀ a o, Nt o → H a = some o → H' a = some o) : Step H ρ H' ρ ∧ AbsL G H' ρ L := by
  have st : Step H ρ H' ρ := ⟨Nat.le_refl _, fun _ _ _ h => h, fun i a _ hi h => (by rw [List.getElem?_eq_none hi] at h; cases h), fun a o h n _ => k a o n h, fun a o h n => ⟨o, k a o n h, n⟩⟩
  refine ⟨st, A.len, fun i ob h => ?_, fun i a h => ?_, A.inj, kt⟩
  · obtain ⟨sl, h1, h2⟩ := A.obj i ob h
    refine ⟨sl, h1, ?_⟩
    cases ob with
    | dead => exact h2
    | lst xs => obtain ⟨a, vs, e1, e2, e3⟩ := h2; exact ⟨a, vs, e1, k _ _ nt_lst e2, e3.step A.live st⟩
    | dct kvs => obtain ⟨a, es, ep, e1, e2, e3⟩ := h2; exact ⟨a, es, ep, e1, k _ _ nt_ext e2, e3.step A.live st⟩
    | ins c fs =>
      obtain ⟨a, dx, fs', e1, e2, e3, e4⟩ := h2
      exact ⟨a, dx, fs', e1, k _ _ nt_ins e2, k _ _ nt_own e3, Paired.mapP e4 fun p q z => ⟨z.1, z.2.step A.live st⟩⟩
  · have q := A.live i a h
    cases e : H a with
    | none => rw [e] at q; exact q.elim
    | some u => rw [e] at q; rw [k _ _ (Nt.of_mut q) e]; exact q
/-- a flat object that a callee made is taken over -/
theorem AbsL.adopt {p : Addr} {m : MO} (A : AbsL G H ρ L) (kt : LamX.Tabs G.cl.T H') (k : ∀ a o, Nt o → H a = some o → H' a = some o) (hp : ∀ o, H p = some o → ¬ Nt o) (mu : Mut (H' p)) (hm : ORel G H' (ρ ++ [some p]) (some p) m) :
    Step H ρ H' (ρ ++ [some p]) ∧ AbsL G H' (ρ ++ [some p]) (L ++ [m]) ∧ Rep G H' (ρ ++ [some p]) (.ref L.length) (.ref p) := by
  obtain ⟨st0, A'⟩ := A.same kt k
  have sp : ∀ (i : Nat) (a : Addr), (ρ ++ [some p])[i]? = some (some a) → ρ[i]? = some (some a) ∨ (i = ρ.length ∧ a = p) := fun i a h => by
    by_cases hi : i < ρ.length
    · rw [List.getElem?_append_left hi] at h; exact .inl h
    · rw [List.getElem?_append_right (by omega)] at h
      have : i - ρ.length = 0 := by
        cases e : i - ρ.length with
        | zero => rfl
        | succ n => rw [e] at h; simp at h
      rw [this] at h
      simp at h
      exact .inr ⟨by omega, h.symm⟩
  have st : Step H ρ H' (ρ ++ [some p]) := by
    refine ⟨by simp, fun i a hi h => ?_, fun i a u hi h e => ?_, fun a u h n _ => k a u n h, st0.dom⟩
    · rw [List.getElem?_append_left hi] at h; exact h
    · rcases sp i a h with q | ⟨_, q⟩
      · rw [List.getElem?_eq_none hi] at q; cases q
      · exact fun n => hp u (by rw [← q]; exact e) n
  refine ⟨st, ⟨by simp [A.len], fun i ob h => ?_, fun i a h => ?_, fun i j a h h' => ?_, kt⟩, .ref (by rw [← A.len]; simp) fun a h => ?_⟩
  · by_cases hi : i < L.length
    · rw [List.getElem?_append_left hi] at h
      obtain ⟨sl, h1, h2⟩ := A.obj i ob h
      refine ⟨sl, by rw [List.getElem?_append_left (by rw [A.len]; exact hi)]; exact h1, ?_⟩
      cases ob with
      | dead => exact h2
      | lst xs => obtain ⟨a, vs, e1, e2, e3⟩ := h2; exact ⟨a, vs, e1, k _ _ nt_lst e2, e3.step A.live st⟩
      | dct kvs => obtain ⟨a, es, ep, e1, e2, e3⟩ := h2; exact ⟨a, es, ep, e1, k _ _ nt_ext e2, e3.step A.live st⟩
      | ins c fs =>
        obtain ⟨a, dx, fs', e1, e2, e3, e4⟩ := h2
        exact ⟨a, dx, fs', e1, k _ _ nt_ins e2, k _ _ nt_own e3, Paired.mapP e4 fun p q z => ⟨z.1, z.2.step A.live st⟩⟩
    · rw [List.getElem?_append_right (by omega)] at h
      have e : i - L.length = 0 := by
        cases e : i - L.length with
        | zero => rfl
        | succ n => rw [e] at h; simp at h
      rw [e] at h
      simp at h
      subst h
      have ei : i = ρ.length := by rw [A.len]; omega
      refine ⟨some p, ?_, hm⟩
      rw [ei, List.getElem?_append_right (Nat.le_refl _)]
      simp
  · rcases sp i a h with q | ⟨_, q⟩
    · exact A'.live i a q
    · rw [q]; exact mu
  · rcases sp i a h with q | ⟨q1, q2⟩ <;> rcases sp j a h' with q' | ⟨q1', q2'⟩
    · exact A.inj i j a q q'
    · subst q2'
      have z := A.live i a q
      cases e : H a with
      | none => rw [e] at z; exact z.elim
      | some u => rw [e] at z; exact (hp u e (Nt.of_mut z)).elim
    · subst q2
      have z := A.live j a q'
      cases e : H a with
      | none => rw [e] at z; exact z.elim
      | some u => rw [e] at z; exact (hp u e (Nt.of_mut z)).elim
    · rw [q1, q1']
  · rcases sp _ a h with q | ⟨_, q⟩
    · rw [← A.len, List.getElem?_eq_none (Nat.le_refl _)] at q; cases q
    · rw [q]
/-- the i-th object alone has changed -/
theorem AbsL.wrote {p : Addr} {m : MO} {i : Nat} (A : AbsL G H ρ L) (hi : ρ[i]? = some (some p)) (kt : LamX.Tabs G.cl.T H') (k : ∀ a o, Nt o → a ≠ p → H a = some o → H' a = some o) (mu : Mut (H' p)) (hm : ORel G H' ρ (some p) m) :
    Step H ρ H' ρ ∧ AbsL G H' ρ (L.set i m) := by
  have ne : ∀ (j : Nat) (a : Addr), j ≠ i → ρ[j]? = some (some a) → a ≠ p := fun j a n h e => n (A.inj j i a h (e ▸ hi))
  have st : Step H ρ H' ρ := by
    refine ⟨Nat.le_refl _, fun _ _ _ h => h, fun j a _ hj h => (by rw [List.getElem?_eq_none hj] at h; cases h), fun a u h m n => k a u m (fun e => n i (e ▸ hi)) h, fun a u h n => ?_⟩
    by_cases e : a = p
    · subst e
      cases q : H' a with
      | none => rw [q] at mu; exact mu.elim
      | some o => exact ⟨o, rfl, Nt.of_mut (by rw [← q]; exact mu)⟩
    · exact ⟨u, k a u n e h, n⟩
  refine ⟨st, ⟨by rw [List.length_set]; exact A.len, fun j ob h => ?_, fun j a h => ?_, A.inj, kt⟩⟩
  · by_cases hj : i = j
    · subst hj
      have hl : i < L.length := by
        rw [← A.len]
        exact (List.getElem?_eq_some_iff.mp hi).1
      rw [List.getElem?_set_self hl] at h
      cases h
      exact ⟨some p, hi, hm⟩
    · rw [List.getElem?_set_ne hj] at h
      obtain ⟨sl, h1, h2⟩ := A.obj j ob h
      refine ⟨sl, h1, ?_⟩
      cases ob with
      | dead => exact h2
      | lst xs => obtain ⟨a, vs, e1, e2, e3⟩ := h2; exact ⟨a, vs, e1, k _ _ nt_lst (ne j a (Ne.symm hj) (e1 ▸ h1)) e2, e3.step A.live st⟩
      | dct kvs => obtain ⟨a, es, ep, e1, e2, e3⟩ := h2; exact ⟨a, es, ep, e1, k _ _ nt_ext (ne j a (Ne.symm hj) (e1 ▸ h1)) e2, e3.step A.live st⟩
      | ins c fs =>
        obtain ⟨a, dx, fs', e1, e2, e3, e4⟩ := h2
        have nd : dx ≠ p := fun e => by
          have z := A.live i p hi
          rw [← e, e3] at z; exact z.elim
        exact ⟨a, dx, fs', e1, k _ _ nt_ins (ne j a (Ne.symm hj) (e1 ▸ h1)) e2, k _ _ nt_own nd e3, Paired.mapP e4 fun p q z => ⟨z.1, z.2.step A.live st⟩⟩
  · by_cases e : a = p
    · subst e; exact mu
    · have q := A.live j a h
      cases z : H a with
      | none => rw [z] at q; exact q.elim
      | some u => rw [z] at q; rw [k a u (Nt.of_mut q) e z]; exact q
/-- a flat object, by other numbers -/
theorem ORel.flat {p : Option Addr} {m : MO} (h : m.flat = true) (r : ORel G H ρ p m) : ORel G H ρ' p m := by
  cases m with
  | dead => exact r
  | lst xs => obtain ⟨a, vs, e1, e2, e3⟩ := r; exact ⟨a, vs, e1, e2, e3.flat h⟩
  | dct kvs => obtain ⟨a, es, ep, e1, e2, e3⟩ := r; exact ⟨a, es, ep, e1, e2, e3.flat h⟩
  | ins c fs => exact absurd h Bool.false_ne_true
theorem AbsL.nil (t : LamX.Tabs G.cl.T H) : AbsL G H [] [] := ⟨rfl, fun i o h => by simp at h, fun i a h => by simp at h, fun i j a h => by simp at h, t⟩
end

section
variable {cl : Cl} {W : WX} {X : Cx} {k : Nat} {fa : Addr} {fd : FuncData} {ps : List Str} {F : Fn} {x : Str} {p pos : Pos} {e : Expr} {es : List Expr} {fs : Av}
theorem out_flat {d : D} {L : Store} (hd : ∀ k, d ≠ .ref k) : out (.ok d L) = if d.flat then .v d else .bad := by
  cases d with
  | ref k => exact absurd rfl (hd k)
  | _ => rfl
theorem spX_flat {n : Nat} {H1 : Hp} {ρ1 : Rho} {L1 : Store} {ds : List D} {vs : List V} {σ : L2.St} {Q : VK} {E : XK} (a1 : AbsL (gm cl X) H1 ρ1 L1) (rv : RepL (gm cl X) H1 ρ1 ds vs)
    (h1 : After (gm cl X) (WE E) σ ρ1 H1 (if ds.length = n ∧ D.flatL ds = true then (match out (F ds []) with
      | .v d => .ok d L1
      | .o m => alloc m L1
      | .e x => .err x L1
      | .bad => .bad) else .bad) fun d H' ρ' _ => ∀ v, Rep (gm cl X) H' ρ' d v → Q v H') : spX cl X.w X.K n F vs H1 Q E := by
  by_cases hf : ds.length = n ∧ D.flatL ds = true
  · rw [if_pos hf] at h1
    refine ⟨by rw [← rv.length]; exact hf.1, [], ds, [], rv.flat hf.2, .nil a1.tab, ?_⟩
    cases e : F ds [] with
    | bad => rw [e] at h1; exact h1.elim
    | err y L2 =>
      rw [e] at h1
      show ∀ cls dx H' ρ', _
      intro cls dx H' ρ' st hx ab
      have h1 : After (gm cl X) (WE E) σ ρ1 H1 (match (if y.v.flat = true then Out.e y else Out.bad) with
        | .v d => .ok d L1
        | .o m => alloc m L1
        | .e x => .err x L1
        | .bad => .bad) fun d H' ρ' _ => ∀ v, Rep (gm cl X) H' ρ' d v → Q v H' := h1
      by_cases hy : y.v.flat = true
      · rw [if_pos hy] at h1
        have same : ∀ a o, Nt o → H1 a = some o → H' a = some o := fun a o n q => st.fr a o q n fun i z => by simp at z
        obtain ⟨s2, a2⟩ := a1.same ab.tab same
        refine h1 cls dx H' ρ1 s2 ⟨hx.1, ?_⟩ a2
        rcases hx.2 with z | ⟨zn, d, f, v, z1, z2, z3, z4⟩
        · exact .inl z
        · exact .inr ⟨zn, d, f, v, z1, z2, z3.flat hy, z4⟩
      · rw [if_neg hy] at h1; exact h1.elim
    | ok d L2 =>
      rw [e] at h1
      show ∀ H' ρ', _
      intro H' ρ' st ab v rd
      have same : ∀ a o, Nt o → H1 a = some o → H' a = some o := fun a o n q => st.fr a o q n fun i z => by simp at z
      by_cases hd : ∀ k, d ≠ .ref k
      · rw [out_flat hd] at h1
        by_cases hy : d.flat = true
        · rw [if_pos hy] at h1
          obtain ⟨s2, a2⟩ := a1.same ab.tab same
          exact h1 H' ρ1 s2 a2 v (rd.flat hy)
        · rw [if_neg hy] at h1; exact h1.elim
      · have : ∃ k, d = .ref k := Classical.byContradiction fun z => hd fun k q => z ⟨k, q⟩
        obtain ⟨k, rfl⟩ := this
        have h1 : After (gm cl X) (WE E) σ ρ1 H1 (match (match L2[k]? with
          | some m => if m.flat then Out.o m else .bad
          | none => .bad) with
        | .v d => .ok d L1
        | .o m => alloc m L1
        | .e x => .err x L1
        | .bad => .bad) fun d H' ρ' _ => ∀ v, Rep (gm cl X) H' ρ' d v → Q v H' := h1
        cases em : L2[k]? with
        | none => rw [em] at h1; exact h1.elim
        | some m =>
          rw [em] at h1
          by_cases hm : m.flat = true
          · simp only [hm, if_true] at h1
            obtain ⟨sl, o1, o2⟩ := ab.obj k m em
            obtain ⟨a, rfl⟩ : ∃ a, sl = some a := by
              cases m with
              | dead => exact absurd hm Bool.false_ne_true
              | lst xs => obtain ⟨a, _, z, _⟩ := o2; exact ⟨a, z⟩
              | dct kvs => obtain ⟨a, _, _, z, _⟩ := o2; exact ⟨a, z⟩
              | ins c fs => exact absurd hm Bool.false_ne_true
            have hv : v = .ref a := by
              cases rd with
              | ref _ z => exact z a o1
            subst hv
            have hp : ∀ o, H1 a = some o → ¬ Nt o := fun o => st.new k a o (Nat.zero_le _) o1
            obtain ⟨s2, a2, r2⟩ := a1.adopt ab.tab same hp (ab.live k a o1) (o2.flat hm)
            exact h1 H' _ s2 a2 _ r2
          · simp only [hm, if_false] at h1
            exact (show False from h1).elim
  · rw [if_neg hf] at h1; exact h1.elim
theorem sp0_flat {n : Nat} {H1 : Hp} {ρ1 : Rho} {L1 : Store} {ds : List D} {vs : List V} {σ : L2.St} {Q : VK} {E : XK} (a1 : AbsL (gm cl X) H1 ρ1 L1) (rv : RepL (gm cl X) H1 ρ1 ds vs)
    (h1 : After (gm cl X) W0 σ ρ1 H1 (if ds.length = n ∧ D.flatL ds = true then (match out (F ds []) with
      | .v d => .ok d L1
      | .o m => alloc m L1
      | .e x => .err x L1
      | .bad => .bad) else .bad) fun d H' ρ' _ => ∀ v, Rep (gm cl X) H' ρ' d v → Q v H') : sp0 cl X.w X.K n F vs H1 Q E := spX_flat (E := fun _ _ _ => False) a1 rv h1
theorem rep_one {H : Hp} {ρ : Rho} {ds : List D} {vs : List V} : RepL (gm cl X) H ρ ds vs → ds.length = vs.length := RepL.length
theorem sp0_one {n : Nat} {H1 : Hp} {ρ1 : Rho} {L1 : Store} {ds : List D} {vs : List V} {σ : L2.St} {Q : VK} {E : XK} (a1 : AbsL (gm cl X) H1 ρ1 L1) (rv : RepL (gm cl X) H1 ρ1 ds vs)
    (h1 : After (gm cl X) W0 σ ρ1 H1 (match ds with
      | .ref i :: r => match L1[i]? with
        | some m => if r.length + 1 = n ∧ D.flatL r = true ∧ m.flat = true then (match run1 F r m with
          | .v d m' => .ok d (L1.set i m')
          | .e x m' => .err x (L1.set i m')
          | .bad => .bad) else .bad
        | none => .bad
      | _ => .bad) fun d H' ρ' _ => ∀ v, Rep (gm cl X) H' ρ' d v → Q v H') : sp0 cl X.w X.K n F vs H1 Q E := by
  cases rv with
  | nil => exact (show False from h1).elim
  | @cons d0 r v0 vr r0 rr =>
    cases d0 with
    | ref i =>
      have h1 : After (gm cl X) W0 σ ρ1 H1 (match L1[i]? with
        | some m => if r.length + 1 = n ∧ D.flatL r = true ∧ m.flat = true then (match run1 F r m with
          | .v d m' => .ok d (L1.set i m')
          | .e x m' => .err x (L1.set i m')
          | .bad => .bad) else .bad
        | none => .bad) fun d H' ρ' _ => ∀ v, Rep (gm cl X) H' ρ' d v → Q v H' := h1
      cases em : L1[i]? with
      | none => rw [em] at h1; exact h1.elim
      | some m =>
        rw [em] at h1
        by_cases hf : r.length + 1 = n ∧ D.flatL r = true ∧ m.flat = true
        · have h1 : After (gm cl X) W0 σ ρ1 H1 (if r.length + 1 = n ∧ D.flatL r = true ∧ m.flat = true then (match run1 F r m with
          | .v d m' => .ok d (L1.set i m')
          | .e x m' => .err x (L1.set i m')
          | .bad => .bad) else .bad) fun d H' ρ' _ => ∀ v, Rep (gm cl X) H' ρ' d v → Q v H' := h1
          rw [if_pos hf] at h1
          obtain ⟨sl, o1, o2⟩ := a1.obj i m em
          obtain ⟨a, rfl⟩ : ∃ a, sl = some a := by
            cases m with
            | dead => exact absurd hf.2.2 Bool.false_ne_true
            | lst xs => obtain ⟨a, _, z, _⟩ := o2; exact ⟨a, z⟩
            | dct kvs => obtain ⟨a, _, _, z, _⟩ := o2; exact ⟨a, z⟩
            | ins c fs => exact absurd hf.2.2 Bool.false_ne_true
          have hv : v0 = .ref a := by
            cases r0 with
            | ref _ z => exact z a o1
          subst hv
          have o2' : ORel (gm cl X) H1 [some a] (some a) m := o2.flat hf.2.2
          refine ⟨by rw [List.length_cons, ← rr.length]; exact hf.1, [some a], .ref 0 :: r, [m], .cons (.ref (by simp) fun b hb => by simp at hb; rw [hb]) (rr.flat hf.2.1), ⟨rfl, fun j o hj => ?_, fun j b hj => ?_, fun j j' b hj hj' => ?_, a1.tab⟩, ?_⟩
          · cases j with
            | zero => simp at hj; subst hj; exact ⟨some a, rfl, o2'⟩
            | succ j => simp at hj
          · cases j with
            | zero => simp at hj; subst hj; exact a1.live i a o1
            | succ j => simp at hj
          · cases j with
            | zero =>
              cases j' with
              | zero => rfl
              | succ j' => simp at hj'
            | succ j => simp at hj
          · have hlive : ∀ (H' : Hp) (ρ' : Rho) (L' : Store) (m' : MO), Step H1 [some a] H' ρ' → AbsL (gm cl X) H' ρ' L' → L'[0]? = some m' → m'.flat = true →
                Step H1 ρ1 H' ρ1 ∧ AbsL (gm cl X) H' ρ1 (L1.set i m') := fun H' ρ' L' m' st ab e0 hm => by
              obtain ⟨sl', q1, q2⟩ := ab.obj 0 m' e0
              obtain ⟨b, rfl⟩ : ∃ b, sl' = some b := by
                cases m' with
                | dead => exact absurd hm Bool.false_ne_true
                | lst xs => obtain ⟨b, _, z, _⟩ := q2; exact ⟨b, z⟩
                | dct kvs => obtain ⟨b, _, _, z, _⟩ := q2; exact ⟨b, z⟩
                | ins c fs => exact absurd hm Bool.false_ne_true
              have hb : b = a := by
                have z := st.old 0 b (by simp) q1
                simp at z
                exact z.symm
              subst hb
              refine a1.wrote o1 ab.tab (fun c o n hc q => st.fr c o q n fun j z => ?_) (ab.live 0 b q1) (q2.flat hm)
              cases j with
              | zero => simp at z; exact hc z.symm
              | succ j => simp at z
            unfold run1 at h1
            show After (gm cl X) _ _ _ _ (F (.ref 0 :: r) [m]) _
            cases e : F (.ref 0 :: r) [m] with
            | bad => rw [e] at h1; exact h1.elim
            | err y L2 =>
              rw [e] at h1
              show ∀ cls dx H' ρ', _
              intro cls dx H' ρ' st hx ab
              cases e0 : L2[0]? with
              | none => simp only [out1, e0] at h1; exact (show False from h1).elim
              | some m' =>
                simp only [out1, e0] at h1
                by_cases hy : (y.v.flat && m'.flat) = true
                · rw [if_pos hy] at h1
                  rw [Bool.and_eq_true] at hy
                  obtain ⟨s2, a2⟩ := hlive H' ρ' L2 m' st ab e0 hy.2
                  refine h1 cls dx H' ρ1 s2 ⟨hx.1, ?_⟩ a2
                  rcases hx.2 with z | ⟨zn, d, f, v, z1, z2, z3, z4⟩
                  · exact .inl z
                  · exact .inr ⟨zn, d, f, v, z1, z2, z3.flat hy.1, z4⟩
                · rw [if_neg hy] at h1; exact (show False from h1).elim
            | ok d L2 =>
              rw [e] at h1
              show ∀ H' ρ', _
              intro H' ρ' st ab v rd
              cases e0 : L2[0]? with
              | none => simp only [out1, e0] at h1; exact (show False from h1).elim
              | some m' =>
                simp only [out1, e0] at h1
                by_cases hy : (d.flat && m'.flat) = true
                · rw [if_pos hy] at h1
                  rw [Bool.and_eq_true] at hy
                  obtain ⟨s2, a2⟩ := hlive H' ρ' L2 m' st ab e0 hy.2
                  exact h1 H' ρ1 s2 a2 v (rd.flat hy.1)
                · rw [if_neg hy] at h1; exact (show False from h1).elim
        · have h1 : After (gm cl X) W0 σ ρ1 H1 (if r.length + 1 = n ∧ D.flatL r = true ∧ m.flat = true then (match run1 F r m with
          | .v d m' => .ok d (L1.set i m')
          | .e x m' => .err x (L1.set i m')
          | .bad => .bad) else .bad) fun d H' ρ' _ => ∀ v, Rep (gm cl X) H' ρ' d v → Q v H' := h1
          rw [if_neg hf] at h1; exact h1.elim
    | _ => exact (show False from h1).elim
theorem sp0_all {n : Nat} {H1 : Hp} {ρ1 : Rho} {L1 : Store} {ds : List D} {vs : List V} {σ : L2.St} {Q : VK} {E : XK} (a1 : AbsL (gm cl X) H1 ρ1 L1) (rv : RepL (gm cl X) H1 ρ1 ds vs)
    (h1 : After (gm cl X) W0 σ ρ1 H1 (if ds.length = n then F ds L1 else .bad) fun d H' ρ' _ => ∀ v, Rep (gm cl X) H' ρ' d v → Q v H') : sp0 cl X.w X.K n F vs H1 Q E := by
  by_cases hf : ds.length = n
  · rw [if_pos hf] at h1
    refine ⟨by rw [← rv.length]; exact hf, ρ1, ds, L1, rv, a1, ?_⟩
    show After (gm cl X) _ _ _ _ (F ds L1) _
    cases e : F ds L1 with
    | ok d L2 => rw [e] at h1; exact h1
    | err y L2 => rw [e] at h1; exact h1
    | bad => rw [e] at h1; exact h1
  · rw [if_neg hf] at h1; exact h1.elim
/-- a call of a def of the text -/
theorem de_call (n : Nat) (G : FnOk X.prog X.w X.K X.mg X.base CX0 k fa fd ps (sp0 cl X.w X.K n F)) (hr : Room k X.A) (hm : X.mg x = some (.ref fa)) (hk : PySem.W.keepIn X.K (.ref fa) = true) (hb : Binds X.K fd ps [])
    (ha : DA cl W0 X (e :: es) fs) (hg : Gl X x := by rfl) (hdb : (x == ("__debug__" : Str)) = false := by decide) (he : starEach (e :: es) X.env = (false, eval e X.env) :: starEach es X.env := by rfl) (hpl : (backTo pos (starEach es X.env)).any (·.1) = false := by rfl) :
    DE cl W0 X (.Call (.Name x p) (e :: es) [] pos) (eCall n F fs) := by
  refine imp_e (pe_call G hr hg hm hk hb .nil pass0 ha hdb he hpl) fun σ H Q h => ?_
  obtain ⟨ρ, δ, L, hs, ha, h⟩ := h
  refine ⟨ρ, δ, L, hs, ha, After.mono (After.andThen h) fun ds H1 ρ1 L1 st1 a1 h1 vs rv => ?_⟩
  show sp0 cl X.w X.K n F (vs ++ []) H1 Q E0
  rw [List.append_nil]
  exact sp0_flat a1 rv h1
theorem de_call1 (n : Nat) (G : FnOk X.prog X.w X.K X.mg X.base CX0 k fa fd ps (sp0 cl X.w X.K n F)) (hr : Room k X.A) (hm : X.mg x = some (.ref fa)) (hk : PySem.W.keepIn X.K (.ref fa) = true) (hb : Binds X.K fd ps [])
    (ha : DA cl W0 X (e :: es) fs) (hg : Gl X x := by rfl) (hdb : (x == ("__debug__" : Str)) = false := by decide) (he : starEach (e :: es) X.env = (false, eval e X.env) :: starEach es X.env := by rfl) (hpl : (backTo pos (starEach es X.env)).any (·.1) = false := by rfl) :
    DE cl W0 X (.Call (.Name x p) (e :: es) [] pos) (eCall1 n F fs) := by
  refine imp_e (pe_call G hr hg hm hk hb .nil pass0 ha hdb he hpl) fun σ H Q h => ?_
  obtain ⟨ρ, δ, L, hs, ha, h⟩ := h
  refine ⟨ρ, δ, L, hs, ha, After.mono (After.andThen h) fun ds H1 ρ1 L1 st1 a1 h1 vs rv => ?_⟩
  show sp0 cl X.w X.K n F (vs ++ []) H1 Q E0
  rw [List.append_nil]
  exact sp0_one a1 rv h1
theorem de_callA (n : Nat) (G : FnOk X.prog X.w X.K X.mg X.base CX0 k fa fd ps (sp0 cl X.w X.K n F)) (hr : Room k X.A) (hm : X.mg x = some (.ref fa)) (hk : PySem.W.keepIn X.K (.ref fa) = true) (hb : Binds X.K fd ps [])
    (ha : DA cl W0 X (e :: es) fs) (hg : Gl X x := by rfl) (hdb : (x == ("__debug__" : Str)) = false := by decide) (he : starEach (e :: es) X.env = (false, eval e X.env) :: starEach es X.env := by rfl) (hpl : (backTo pos (starEach es X.env)).any (·.1) = false := by rfl) :
    DE cl W0 X (.Call (.Name x p) (e :: es) [] pos) (eCallA n F fs) := by
  refine imp_e (pe_call G hr hg hm hk hb .nil pass0 ha hdb he hpl) fun σ H Q h => ?_
  obtain ⟨ρ, δ, L, hs, ha, h⟩ := h
  refine ⟨ρ, δ, L, hs, ha, After.mono (After.andThen h) fun ds H1 ρ1 L1 st1 a1 h1 vs rv => ?_⟩
  show sp0 cl X.w X.K n F (vs ++ []) H1 Q E0
  rw [List.append_nil]
  exact sp0_all a1 rv h1
end
end Df
namespace Df
open PySem PySem.Spec PyProof.Rows L2

/-! ### plain data as the library's data -/
mutual
def py : D → PyData
  | .non => .none
  | .bl b => .bool b
  | .int i => .int i
  | .str s => .str s
  | .tup xs => .tuple (pyL xs)
  | .lst xs => .list (pyL xs)
  | _ => .none
def pyL : List D → List PyData
  | [] => []
  | x :: xs => py x :: pyL xs
end
mutual
theorem py_plain : ∀ d : D, (py d).plain = true
  | .non => rfl
  | .bl _ => rfl
  | .int _ => rfl
  | .str _ => rfl
  | .tup xs => by rw [py, PyData.plain]; exact pyL_plain xs
  | .lst xs => by rw [py, PyData.plain]; exact pyL_plain xs
  | .dct _ => rfl
  | .ref _ => rfl
  | .scr _ => rfl
  | .xc _ _ => rfl
  | .clo _ _ => rfl
theorem pyL_plain : ∀ xs : List D, PyData.plainAll (pyL xs) = true
  | [] => rfl
  | x :: xs => by rw [pyL, PyData.plainAll, py_plain x, pyL_plain xs]; rfl
end
mutual
theorem py_depth : ∀ d : D, (py d).depth ≤ d.depth
  | .non => Nat.le_refl _
  | .bl _ => Nat.le_refl _
  | .int _ => Nat.le_refl _
  | .str _ => Nat.le_refl _
  | .tup xs => by
    have := pyL_depth xs
    simp only [py, PyData.depth, D.depth]; omega
  | .lst xs => by
    have := pyL_depth xs
    simp only [py, PyData.depth, D.depth]; omega
  | .dct _ => Nat.le_refl _
  | .ref _ => Nat.le_refl _
  | .scr _ => Nat.le_refl _
  | .xc _ _ => Nat.le_refl _
  | .clo _ _ => Nat.le_refl _
theorem pyL_depth : ∀ xs : List D, PyData.depthAll (pyL xs) ≤ D.depthL xs
  | [] => Nat.le_refl _
  | x :: xs => by
    have h1 := py_depth x
    have h2 := pyL_depth xs
    simp only [pyL, PyData.depthAll, D.depthL]; omega
end
theorem bl_int (b : Bool) (i : Int) : ((if b = true then (1 : Int) else 0) == i) = (i == (if b = true then (1 : Int) else 0)) := by
  by_cases h : (if b = true then (1 : Int) else 0) = i
  · rw [h]
  · rw [beq_eq_false_iff_ne.mpr h, beq_eq_false_iff_ne.mpr (Ne.symm h)]
theorem beq_tup (a b : List D) : (D.tup a == D.tup b) = (a == b) := by
  by_cases h : a = b
  · subst h; simp
  · rw [beq_eq_false_iff_ne.mpr h, beq_eq_false_iff_ne.mpr fun e => h (D.tup.inj e)]
theorem beq_lst (a b : List D) : (D.lst a == D.lst b) = (a == b) := by
  by_cases h : a = b
  · subst h; simp
  · rw [beq_eq_false_iff_ne.mpr h, beq_eq_false_iff_ne.mpr fun e => h (D.lst.inj e)]
theorem beq_int (a b : Int) : (D.int a == D.int b) = (a == b) := by
  by_cases h : a = b
  · subst h; simp
  · rw [beq_eq_false_iff_ne.mpr h, beq_eq_false_iff_ne.mpr fun e => h (D.int.inj e)]
theorem beq_str (a b : Str) : (D.str a == D.str b) = (a == b) := by
  by_cases h : a = b
  · subst h; simp
  · rw [beq_eq_false_iff_ne.mpr h, beq_eq_false_iff_ne.mpr fun e => h (D.str.inj e)]
theorem ne_false {a b : D} (h : a ≠ b) : (a == b) = false := beq_eq_false_iff_ne.mpr h
mutual
theorem py_eqv : ∀ a b : D, a.plain = true → b.plain = true → PyData.eqv (py a) (py b) = D.eqv a b
  | .non, b, _, hb => by cases b <;> first | exact absurd hb Bool.false_ne_true | simp [py, PyData.eqv, D.eqv, D.norm]
  | .bl x, b, _, hb => by
    cases b with
    | bl y => cases x <;> cases y <;> simp [py, PyData.eqv, D.eqv, D.norm]
    | int y => cases x <;> simp [py, PyData.eqv, D.eqv, D.norm, beq_int]
    | non => simp [py, PyData.eqv, D.eqv, D.norm]
    | str y => simp [py, PyData.eqv, D.eqv, D.norm]
    | tup y => simp [py, PyData.eqv, D.eqv, D.norm]
    | lst y => simp [py, PyData.eqv, D.eqv, D.norm]
    | _ => exact absurd hb Bool.false_ne_true
  | .int x, b, _, hb => by
    cases b with
    | bl y => cases y <;> simp [py, PyData.eqv, D.eqv, D.norm, beq_int]
    | int y => simp [py, PyData.eqv, D.eqv, D.norm, beq_int]
    | non => simp [py, PyData.eqv, D.eqv, D.norm]
    | str y => simp [py, PyData.eqv, D.eqv, D.norm]
    | tup y => simp [py, PyData.eqv, D.eqv, D.norm]
    | lst y => simp [py, PyData.eqv, D.eqv, D.norm]
    | _ => exact absurd hb Bool.false_ne_true
  | .str x, b, _, hb => by
    cases b <;> first | exact absurd hb Bool.false_ne_true | simp [py, PyData.eqv, D.eqv, D.norm, beq_str]
  | .tup x, b, ha, hb => by
    cases b with
    | tup y =>
      have e : PyData.eqv (py (.tup x)) (py (.tup y)) = PyData.eqvAll (pyL x) (pyL y) := by simp only [py, PyData.eqv]
      rw [e, pyL_eqv x y (by simpa [D.plain] using ha) (by simpa [D.plain] using hb)]
      show _ = (D.norm (.tup x) == D.norm (.tup y))
      rw [D.norm, D.norm, beq_tup]
    | non => simp [py, PyData.eqv, D.eqv, D.norm]
    | bl y => simp [py, PyData.eqv, D.eqv, D.norm]
    | int y => simp [py, PyData.eqv, D.eqv, D.norm]
    | str y => simp [py, PyData.eqv, D.eqv, D.norm]
    | lst y => simp [py, PyData.eqv, D.eqv, D.norm]
    | _ => exact absurd hb Bool.false_ne_true
  | .lst x, b, ha, hb => by
    cases b with
    | lst y =>
      have e : PyData.eqv (py (.lst x)) (py (.lst y)) = PyData.eqvAll (pyL x) (pyL y) := by simp only [py, PyData.eqv]
      rw [e, pyL_eqv x y (by simpa [D.plain] using ha) (by simpa [D.plain] using hb)]
      show _ = (D.norm (.lst x) == D.norm (.lst y))
      rw [D.norm, D.norm, beq_lst]
    | non => simp [py, PyData.eqv, D.eqv, D.norm]
    | bl y => simp [py, PyData.eqv, D.eqv, D.norm]
    | int y => simp [py, PyData.eqv, D.eqv, D.norm]
    | str y => simp [py, PyData.eqv, D.eqv, D.norm]
    | tup y => simp [py, PyData.eqv, D.eqv, D.norm]
    | _ => exact absurd hb Bool.false_ne_true
  | .dct _, _, ha, _ => absurd ha Bool.false_ne_true
  | .ref _, _, ha, _ => absurd ha Bool.false_ne_true
  | .scr _, _, ha, _ => absurd ha Bool.false_ne_true
  | .xc _ _, _, ha, _ => absurd ha Bool.false_ne_true
  | .clo _ _, _, ha, _ => absurd ha Bool.false_ne_true
theorem pyL_eqv : ∀ xs ys : List D, D.plainL xs = true → D.plainL ys = true → PyData.eqvAll (pyL xs) (pyL ys) = (D.normL xs == D.normL ys)
  | [], [], _, _ => by simp [pyL, PyData.eqvAll, D.normL]
  | [], y :: ys, _, _ => by simp [pyL, PyData.eqvAll, D.normL]
  | x :: xs, [], _, _ => by simp [pyL, PyData.eqvAll, D.normL]
  | x :: xs, y :: ys, ha, hb => by
    rw [D.plainL, Bool.and_eq_true] at ha hb
    rw [pyL, pyL, PyData.eqvAll, py_eqv x y ha.1 hb.1, pyL_eqv xs ys ha.2 hb.2, D.normL, D.normL, List.cons_beq_cons]
    rfl
end
section
variable {cl : Cl} {X : Cx} {pins : List (Addr × Obj)} {σ : L2.St} {H : Hp} {ρ : Rho} {L : Store} {s : Shared}
mutual
/-- plain data as the library reads it -/
theorem Rep.dp : ∀ {d : D} {v : V}, d.plain = true → Rep (gm cl X) H ρ d v → Dp X.K H v (py d)
  | _, _, _, .non => .non
  | _, _, _, .bl b => .bl b
  | _, _, _, .int i => .int i
  | _, _, _, .str x => .str x
  | _, _, h, .tup a r => .tup a (RepL.dp (by simpa [D.plain] using h) r)
  | _, _, h, .lst a r => .lst (.inl (.inr ⟨_, a⟩)) (RepL.dp (by simpa [D.plain] using h) r)
  | _, _, h, .dct _ _ => absurd h Bool.false_ne_true
  | _, _, h, .scr _ => absurd h Bool.false_ne_true
  | _, _, h, .ref _ _ => absurd h Bool.false_ne_true
theorem RepL.dp : ∀ {ds : List D} {vs : List V}, D.plainL ds = true → RepL (gm cl X) H ρ ds vs → DpAll X.K H vs (pyL ds)
  | _, _, _, .nil => .nil
  | _, _, h, .cons r t => by
    rw [D.plainL, Bool.and_eq_true] at h
    exact .cons (Rep.dp h.1 r) (RepL.dp h.2 t)
end
theorem ref_at {i : Nat} {v : V} {m : MO} (A : AbsL (gm cl X) H ρ L) (r : Rep (gm cl X) H ρ (.ref i) v) (e : L[i]? = some m) (hm : m ≠ .dead) : ∃ a, v = .ref a ∧ ρ[i]? = some (some a) ∧ ORel (gm cl X) H ρ (some a) m := by
  obtain ⟨sl, o1, o2⟩ := A.obj i m e
  obtain ⟨a, rfl⟩ : ∃ a, sl = some a := by
    cases m with
    | dead => exact absurd rfl hm
    | lst xs => obtain ⟨a, _, z, _⟩ := o2; exact ⟨a, z⟩
    | dct kvs => obtain ⟨a, _, _, z, _⟩ := o2; exact ⟨a, z⟩
    | ins c fs => obtain ⟨a, _, _, z, _⟩ := o2; exact ⟨a, z⟩
  cases r with
  | ref _ z => exact ⟨a, z a o1, o1, o2⟩
theorem ref_lst {i : Nat} {v : V} {xs : List D} (A : AbsL (gm cl X) H ρ L) (r : Rep (gm cl X) H ρ (.ref i) v) (e : L[i]? = some (.lst xs)) : ∃ a vs, v = .ref a ∧ ρ[i]? = some (some a) ∧ H a = some (.lst vs) ∧ RepL (gm cl X) H ρ xs vs := by
  obtain ⟨a, e1, e2, e3⟩ := ref_at A r e (by simp)
  obtain ⟨b, vs, z, h1, h2⟩ := e3
  cases z
  exact ⟨a, vs, e1, e2, h1, h2⟩
theorem look_dp {d : D} {v : V} (A : AbsL (gm cl X) H ρ L) (r : Rep (gm cl X) H ρ d v) (h : (look L d).plain = true) : Dp X.K H v (py (look L d)) := by
  cases d with
  | ref i =>
    cases e : L[i]? with
    | none => simp only [look, e] at h; exact absurd h Bool.false_ne_true
    | some m =>
      cases m with
      | lst xs =>
        simp only [look, e] at h ⊢
        obtain ⟨a, vs, rfl, _, h1, h2⟩ := ref_lst A r e
        exact .lst (.inl (.inl h1)) (h2.dp (by simpa [D.plain] using h))
      | _ => simp only [look, e] at h; exact absurd h Bool.false_ne_true
  | _ => exact r.dp h
theorem seq_at {d : D} {v : V} {xs : List D} (A : AbsL (gm cl X) H ρ L) (r : Rep (gm cl X) H ρ d v) (h : seqOf L d = some xs) : ∃ a vs, v = .ref a ∧ (SqL X.K H a vs ∨ SqT X.K H a vs) ∧ RepL (gm cl X) H ρ xs vs := by
  cases d with
  | tup ys => cases h; cases r with | tup a b => exact ⟨_, _, rfl, .inr a, b⟩
  | lst ys => cases h; cases r with | lst a b => exact ⟨_, _, rfl, .inl (.inl (.inr ⟨_, a⟩)), b⟩
  | scr ns =>
    cases h
    cases r with
    | scr a =>
      refine ⟨_, _, rfl, .inl a.seq, ?_⟩
      clear a
      induction ns with
      | nil => exact .nil
      | cons n ns ih => exact .cons (.int n) ih
  | ref i =>
    cases e : L[i]? with
    | none => simp only [seqOf, e] at h; cases h
    | some m =>
      cases m with
      | lst ys =>
        simp only [seqOf, e] at h
        cases h
        obtain ⟨a, vs, rfl, _, h1, h2⟩ := ref_lst A r e
        exact ⟨a, vs, rfl, .inl (.inl (.inl h1)), h2⟩
      | _ => simp only [seqOf, e] at h; cases h
  | _ => cases h
/-- a list, tracked or frozen -/
theorem lst_at {d : D} {v : V} {xs : List D} (A : AbsL (gm cl X) H ρ L) (r : Rep (gm cl X) H ρ d v) (h : lstOf L d = some xs) : ∃ a vs, v = .ref a ∧ Rd H a (.lst vs) ∧ RepL (gm cl X) H ρ xs vs := by
  cases d with
  | lst ys => cases h; cases r with | lst a b => exact ⟨_, _, rfl, .inr ⟨_, a⟩, b⟩
  | ref i =>
    cases e : L[i]? with
    | none => simp only [lstOf, e] at h; cases h
    | some m =>
      cases m with
      | lst ys =>
        simp only [lstOf, e] at h
        cases h
        obtain ⟨a, vs, rfl, _, h1, h2⟩ := ref_lst A r e
        exact ⟨a, vs, rfl, .inl h1, h2⟩
      | _ => simp only [lstOf, e] at h; cases h
  | _ => cases h
end

/-! ### the rules that read more -/
section
variable {X : Cx}
/-- a list, tracked or frozen, as it stands -/
theorem rd_list {pins : List (Addr × Obj)} {σ : L2.St} {H : Hp} {s : Shared} {l : Addr} {xs : List V} (I : Inv X pins σ H s) (h : Rd H l (.lst xs)) :
    xs.length ≤ sizeLine ∧ ∃ (its : List Value) (n : Nat), Vals xs its ∧ xs.length = its.length ∧ s.heap.get? l = some { cls := .type "list", data := .seq its.toArray n } := by
  obtain ⟨z, its, n, r, e⟩ := h.ok I.hok
  exact ⟨z, its, n, r, r.length, e⟩
def rCatL : R2 := fun x y H Q => ∃ l b xs zs, x = .ref l ∧ y = .ref b ∧ Rd H l (.lst xs) ∧ Rd H b (.lst zs) ∧ xs.length + zs.length ≤ sizeLine ∧ ∀ p, H p = none → Q (.ref p) (upd H p (.lst (xs ++ zs)))
theorem op_catL : OpR X (binaryOp .Add) rCatL := by
  intro pins s σ H x y v u Q I rx ry h
  obtain ⟨l, b, xs, zs, rfl, rfl, hH, hB, hz, q⟩ := h
  cases rx
  cases ry
  obtain ⟨z, its, n, r, hl, e⟩ := rd_list I hH
  obtain ⟨z2, its2, n2, r2, hl2, e2⟩ := rd_list I hB
  refine PySem.P.add_list e e2 ?_ (by rw [List.size_toArray, List.size_toArray]; omega)
  have ea : its.toArray ++ its2.toArray = (its ++ its2).toArray := by simp
  rw [ea]
  exact ⟨.ref _, _, I.lnew (t' := s.toks) (r.append r2) (by rw [List.length_append]; omega), rfl, q _ I.fresh⟩
def rAdd : R2 := fun x y H Q => (rI0 fun i j => .int (i + j)) x y H Q ∨ (∃ i j, x = .str i ∧ y = .str j ∧ i.length + j.length ≤ sizeLine ∧ Q (.str (i ++ j)) H) ∨ rCatA X.K x y H Q ∨ rCatL x y H Q
theorem op_addAll : OpR X (binaryOp .Add) (rAdd (X := X)) := op_add.or (op_add_str.or (op_catA.or op_catL))
def rExtendL : V → List V → Hp → VK → Prop := fun x vs H Q => ∃ l b xs zs, x = .ref l ∧ vs = [.ref b] ∧ H l = some (.lst xs) ∧ Rd H b (.lst zs) ∧ xs.length + zs.length ≤ sizeLine ∧ Q .non (upd H l (.lst (xs ++ zs)))
theorem mt_extendL : MtR X "list.extend" rExtendL := by
  intro pins s σ H x vs v us Q I rx rv h
  obtain ⟨l, b, xs, zs, rfl, rfl, hH, hB, hz, q⟩ := h
  cases rx
  obtain ⟨u, rfl, ru⟩ := rv.one
  cases ru
  obtain ⟨z, its, n, r, hl, e⟩ := I.lstM hH
  obtain ⟨z2, its2, n2, r2, hl2, e2⟩ := rd_list I hB
  have hsz : its.toArray.size + its2.toArray.size ≤ sizeLine := by rw [List.size_toArray, List.size_toArray]; omega
  have hlong : ¬ (!its.toArray.isEmpty && Builtin.List.listTooLong (its.toArray.size + its2.toArray.size)) = true := by
    rw [notLongL hsz, Bool.and_false]
    exact Bool.false_ne_true
  refine call_meets F.slot_list_extend ⟨_, e, rfl⟩ F.entry_list_extend (F.args_list_extend_2 _ _)
    (AutoSeq1.list_extend_list_list_0 l its.toArray n b its2.toArray n2 hlong (by rw [List.size_toArray]; omega) (by omega)) ⟨e, e2, ?_⟩
  refine ⟨.non, _, I.lset (its' := its ++ its2) hH e (by simp) (r.append r2) ?_, rfl, q⟩
  rw [List.length_append]
  omega
end

/-! ### what the operations do -/
section
variable {cl : Cl} {X : Cx}
theorem tup_sq {H : Hp} {ρ : Rho} {xs : List D} {v : V} (r : Rep (gm cl X) H ρ (.tup xs) v) : ∃ a vs, v = .ref a ∧ SqT X.K H a vs ∧ RepL (gm cl X) H ρ xs vs := by
  cases r with | tup a b => exact ⟨_, _, rfl, a, b⟩
/-- a new tuple -/
theorem fresh_tup {W : WX} {σ : L2.St} {H : Hp} {ρ : Rho} {L : Store} {xs : List D} {vs : List V} {p : Addr} {Q : VK} (ab : AbsL (gm cl X) H ρ L) (rv : RepL (gm cl X) H ρ xs vs) (hp : H p = none)
    (h : After (gm cl X) W σ ρ H (.ok (.tup xs) L) fun d H' ρ' _ => ∀ w, Rep (gm cl X) H' ρ' d w → Q w H') : Q (.ref p) (upd H p (.tup vs)) :=
  h _ ρ (Step.grow hp) (ab.grow hp) _ (.tup (.inl (.inl upd_same)) (rv.step ab.live (Step.grow hp)))
theorem now {α : Type} {W : WX} {σ : L2.St} {H : Hp} {ρ : Rho} {L : Store} {a : α} {Q : α → Hp → Rho → Store → Prop} (ab : AbsL (gm cl X) H ρ L) (h : After (gm cl X) W σ ρ H (.ok a L) Q) : Q a H ρ L := h H ρ (Step.refl _ _) ab
theorem d_add : Op2 cl X oAdd (rAdd (X := X)) := by
  intro W σ H ρ L x y v u Q ab rx ry h
  have lists : (match lstOf L x, lstOf L y with
      | some xs, some ys => if xs.length + ys.length ≤ most then alloc (.lst (xs ++ ys)) L else .bad
      | _, _ => (.bad : R D)) = oAdd x y L → rAdd (X := X) v u H Q := by
    intro e
    rw [← e] at h
    cases e1 : lstOf L x with
    | none => rw [e1] at h; exact h.elim
    | some xs =>
      cases e2 : lstOf L y with
      | none => rw [e1, e2] at h; exact h.elim
      | some ys =>
        rw [e1, e2] at h
        obtain ⟨a, vs, rfl, h1, h2⟩ := lst_at ab rx e1
        obtain ⟨b, us, rfl, h3, h4⟩ := lst_at ab ry e2
        by_cases hz : xs.length + ys.length ≤ most
        · have h : After (gm cl X) W σ ρ H (if xs.length + ys.length ≤ most then alloc (.lst (xs ++ ys)) L else .bad) _ := h
          rw [if_pos hz] at h
          refine .inr (.inr (.inr ⟨a, b, vs, us, rfl, rfl, h1, h3, ?_, fun p hp => alloc_lst ab (h2.append h4) hp h⟩))
          rw [← h2.length, ← h4.length]
          exact most_le hz
        · have h : After (gm cl X) W σ ρ H (if xs.length + ys.length ≤ most then alloc (.lst (xs ++ ys)) L else .bad) _ := h
          rw [if_neg hz] at h
          exact h.elim
  cases x with
  | int i =>
    cases y with
    | int j => cases rx; cases ry; exact .inl ⟨i, j, rfl, rfl, now ab h _ (.int _)⟩
    | _ => exact lists rfl
  | str i =>
    cases y with
    | str j =>
      cases rx
      cases ry
      by_cases hz : i.length + j.length ≤ most
      · simp only [oAdd, hz, if_true] at h
        exact .inr (.inl ⟨i, j, rfl, rfl, most_le hz, now ab h _ (.str _)⟩)
      · simp only [oAdd, hz, if_false] at h
        exact (show False from h).elim
    | _ => exact lists rfl
  | tup xs =>
    cases y with
    | tup ys =>
      obtain ⟨a, vs, rfl, h1, h2⟩ := tup_sq rx
      obtain ⟨b, us, rfl, h3, h4⟩ := tup_sq ry
      by_cases hz : xs.length + ys.length ≤ most
      · simp only [oAdd, hz, if_true] at h
        refine .inr (.inr (.inl ⟨a, b, vs, us, rfl, rfl, h1, h3, ?_, fun e => ?_, fun _ e => ?_, fun _ _ p hp => fresh_tup ab (h2.append h4) hp h⟩))
        · rw [← h2.length, ← h4.length]; exact most_le hz
        · subst e
          cases h2
          exact now ab h _ ry
        · subst e
          cases h4
          rw [List.append_nil] at h
          exact now ab h _ rx
      · simp only [oAdd, hz, if_false] at h
        exact (show False from h).elim
    | _ => exact lists rfl
  | non => exact lists (by cases y <;> rfl)
  | bl _ => exact lists (by cases y <;> rfl)
  | lst _ => exact lists (by cases y <;> rfl)
  | dct _ => exact lists (by cases y <;> rfl)
  | ref _ => exact lists (by cases y <;> rfl)
  | scr _ => exact lists (by cases y <;> rfl)
  | xc _ _ => exact lists (by cases y <;> rfl)
  | clo _ _ => exact lists (by cases y <;> rfl)
/-- ints in, under C, a value out -/
theorem d_int {g : D → D → Store → R D} {C : Int → Int → Prop} {k : Int → Int → V} (hk : ∀ i j L, (∃ d, g (.int i) (.int j) L = .ok d L ∧ C i j ∧ ∀ H ρ, Rep (gm cl X) H ρ d (k i j)) ∨ g (.int i) (.int j) L = .bad)
    (hn : ∀ x y L, (∀ i j, ¬ (x = .int i ∧ y = .int j)) → g x y L = .bad) : Op2 cl X g (rI C k) := by
  intro W σ H ρ L x y v u Q ab rx ry h
  by_cases hxy : ∃ i j, x = .int i ∧ y = .int j
  · obtain ⟨i, j, rfl, rfl⟩ := hxy
    cases rx
    cases ry
    rcases hk i j L with ⟨d, e, c, r⟩ | e
    · rw [e] at h
      exact ⟨i, j, rfl, rfl, c, now ab h _ (r _ _)⟩
    · rw [e] at h; exact h.elim
  · rw [hn x y L fun i j z => hxy ⟨i, j, z⟩] at h
    exact h.elim
theorem d_int0 {g : D → D → Store → R D} {k : Int → Int → V} (hk : ∀ i j L, ∃ d, g (.int i) (.int j) L = .ok d L ∧ ∀ H ρ, Rep (gm cl X) H ρ d (k i j))
    (hn : ∀ x y L, (∀ i j, ¬ (x = .int i ∧ y = .int j)) → g x y L = .bad) : Op2 cl X g (rI0 k) := by
  intro W σ H ρ L x y v u Q ab rx ry h
  by_cases hxy : ∃ i j, x = .int i ∧ y = .int j
  · obtain ⟨i, j, rfl, rfl⟩ := hxy
    cases rx
    cases ry
    obtain ⟨d, e, r⟩ := hk i j L
    rw [e] at h
    exact ⟨i, j, rfl, rfl, now ab h _ (r _ _)⟩
  · rw [hn x y L fun i j z => hxy ⟨i, j, z⟩] at h
    exact h.elim
theorem d_sub : Op2 cl X oSub (rI0 fun i j => .int (i - j)) := d_int0 (fun i j L => ⟨_, rfl, fun _ _ => .int _⟩) fun x y L hn => by
  unfold oSub
  split
  · rename_i i j; exact absurd ⟨rfl, rfl⟩ (hn i j)
  · rfl
theorem d_div : Op2 cl X oDiv (rI CDiv fun i j => .int (i / j)) := d_int (fun i j L => by
    by_cases c : 0 < j ∧ j < 1073741824
    · exact .inl ⟨_, if_pos c, c, fun _ _ => .int _⟩
    · exact .inr (if_neg c)) fun x y L hn => by
  unfold oDiv
  split
  · rename_i i j; exact absurd ⟨rfl, rfl⟩ (hn i j)
  · rfl
theorem d_mod : Op2 cl X oMod (rI (fun _ j => 0 < j) fun i j => .int (i % j)) := d_int (fun i j L => by
    by_cases c : 0 < j
    · exact .inl ⟨_, if_pos c, c, fun _ _ => .int _⟩
    · exact .inr (if_neg c)) fun x y L hn => by
  unfold oMod
  split
  · rename_i i j; exact absurd ⟨rfl, rfl⟩ (hn i j)
  · rfl
theorem d_pow : Op2 cl X oPow (rI CPow fun i j => .int (i ^ j.toNat)) := d_int (fun i j L => by
    by_cases c : 0 ≤ j ∧ j ≤ 1000 ∧ i.natAbs < 2 ^ 64
    · exact .inl ⟨_, if_pos c, ⟨c.1, by omega, c.2.2⟩, fun _ _ => .int _⟩
    · exact .inr (if_neg c)) fun x y L hn => by
  unfold oPow
  split
  · rename_i i j; exact absurd ⟨rfl, rfl⟩ (hn i j)
  · rfl
def rMul : R2 := fun x y H Q => (rI CMul fun i j => .int (i * j)) x y H Q ∨ rRepT X.K x y H Q
theorem op_mulAll : OpR X (binaryOp .Mult) (rMul (X := X)) := op_mul.or op_repT
theorem d_mul : Op2 cl X oMul (rMul (X := X)) := by
  intro W σ H ρ L x y v u Q ab rx ry h
  unfold oMul at h
  split at h
  · rename_i i j
    cases rx
    cases ry
    by_cases c : -(2 ^ 64) < j ∧ j < 2 ^ 64
    · rw [if_pos c] at h; exact .inl ⟨i, j, rfl, rfl, .inr c, now ab h _ (.int _)⟩
    · rw [if_neg c] at h; exact h.elim
  · rename_i xs k
    cases ry
    obtain ⟨a, vs, rfl, h1, h2⟩ := tup_sq rx
    by_cases c : 2 ≤ k ∧ k ≤ 1000 ∧ xs.length ≤ 1000 ∧ xs ≠ []
    · rw [if_pos c] at h
      refine .inr ⟨a, k, vs, rfl, rfl, h1, fun z => c.2.2.2 ?_, c.1, c.2.1, by rw [← h2.length]; exact c.2.2.1, fun p hp => fresh_tup ab (h2.rep _) hp h⟩
      subst z
      cases h2
      rfl
    · rw [if_neg c] at h; exact h.elim
  · exact (show False from h).elim
theorem d_neg : Op1 cl X uNeg (rU fun i => .int (-i)) := by
  intro W σ H ρ L x v Q ab rx h
  unfold uNeg at h
  split at h
  · cases rx; exact ⟨_, rfl, now ab h _ (.int _)⟩
  · exact h.elim
theorem d_cInt (p : Int → Int → Bool) : Op2 cl X (cInt p) (rI0 fun i j => .bl (p i j)) := d_int0 (fun i j L => ⟨_, rfl, fun _ _ => .bl _⟩) fun x y L hn => by
  unfold cInt
  split
  · rename_i i j; exact absurd ⟨rfl, rfl⟩ (hn i j)
  · rfl
theorem d_lt : Op2 cl X cLt (rI0 fun i j => .bl (decide (i < j))) := d_cInt _
theorem d_le : Op2 cl X cLe (rI0 fun i j => .bl (decide (i ≤ j))) := d_cInt _
theorem d_gt : Op2 cl X cGt (rI0 fun i j => .bl (decide (j < i))) := d_cInt _
theorem d_ge : Op2 cl X cGe (rI0 fun i j => .bl (decide (j ≤ i))) := d_cInt _
/-! == of data -/
def rEqP (K : PySem.W.Frag) : R2 := fun x y H Q => ∃ d e, Dp K H x d ∧ Dp K H y e ∧ d.plain = true ∧ e.plain = true ∧ min d.depth e.depth ≤ 50 ∧ Q (.bl (PyData.eqv d e)) H
def rNeP (K : PySem.W.Frag) : R2 := fun x y H Q => ∃ d e, Dp K H x d ∧ Dp K H y e ∧ d.plain = true ∧ e.plain = true ∧ min d.depth e.depth ≤ 50 ∧ Q (.bl (!PyData.eqv d e)) H
theorem op_eqP (hu : X.A.units + 64 < cLine) : OpR X (compareOp .Eq) (rEqP X.K) := by
  intro pins s σ H x y v u Q I rx ry h
  obtain ⟨d, e, hd, he, sd, se, hm, q⟩ := h
  obtain ⟨as, r1⟩ := Dp.reads I d x v hd rx
  obtain ⟨bs, r2⟩ := Dp.reads I e y u he ry
  exact SeqAt.eq_plain r1 r2 sd se (by omega) ⟨.bl _, H, I, rfl, q⟩
theorem op_neP (hu : X.A.units + 64 < cLine) : OpR X (compareOp .NotEq) (rNeP X.K) := by
  intro pins s σ H x y v u Q I rx ry h
  obtain ⟨d, e, hd, he, sd, se, hm, q⟩ := h
  obtain ⟨as, r1⟩ := Dp.reads I d x v hd rx
  obtain ⟨bs, r2⟩ := Dp.reads I e y u he ry
  exact SeqAt.ne_plain r1 r2 sd se (by omega) ⟨.bl _, H, I, rfl, q⟩
theorem eqOk_of {x y : D} (h : eqOk x y = true) : x.plain = true ∧ y.plain = true ∧ min (py x).depth (py y).depth ≤ 50 := by
  unfold eqOk at h
  rw [Bool.and_eq_true, Bool.and_eq_true, Bool.or_eq_true, decide_eq_true_eq, decide_eq_true_eq] at h
  have h1 := py_depth x
  have h2 := py_depth y
  refine ⟨h.1.1, h.1.2, ?_⟩
  rcases h.2 with z | z <;> omega
theorem d_eq : Op2 cl X cEq (rEqP X.K) := by
  intro W σ H ρ L x y v u Q ab rx ry h
  unfold cEq at h
  by_cases c : eqOk (look L x) (look L y) = true
  · rw [if_pos c] at h
    obtain ⟨c1, c2, c3⟩ := eqOk_of c
    refine ⟨_, _, look_dp ab rx c1, look_dp ab ry c2, py_plain _, py_plain _, c3, ?_⟩
    rw [py_eqv _ _ c1 c2]
    exact now ab h _ (.bl _)
  · rw [if_neg c] at h; exact h.elim
theorem d_ne : Op2 cl X cNe (rNeP X.K) := by
  intro W σ H ρ L x y v u Q ab rx ry h
  unfold cNe at h
  by_cases c : eqOk (look L x) (look L y) = true
  · rw [if_pos c] at h
    obtain ⟨c1, c2, c3⟩ := eqOk_of c
    refine ⟨_, _, look_dp ab rx c1, look_dp ab ry c2, py_plain _, py_plain _, c3, ?_⟩
    rw [py_eqv _ _ c1 c2]
    exact now ab h _ (.bl _)
  · rw [if_neg c] at h; exact h.elim
theorem rep_non {H : Hp} {ρ : Rho} {L : Store} {d : D} {v : V} {b : Bool} (ab : AbsL (gm cl X) H ρ L) (r : Rep (gm cl X) H ρ d v) (h : isNon d L = some b) : decide (v = .non) = b := by
  cases d with
  | ref i =>
    cases e : L[i]? with
    | none => simp only [isNon, e] at h; cases h
    | some m =>
      have hm : m ≠ .dead := fun z => by
        subst z
        simp only [isNon, e] at h
        cases h
      obtain ⟨a, rfl, _, _⟩ := ref_at ab r e hm
      cases m with
      | dead => exact absurd rfl hm
      | _ => simp only [isNon, e] at h; cases h; simp
  | _ => cases h <;> cases r <;> simp
theorem d_isN : Op2 cl X cIsN (fun x y H Q => y = .non ∧ Q (.bl (decide (x = .non))) H) := by
  intro W σ H ρ L x y v u Q ab rx ry h
  unfold cIsN at h
  split at h
  · cases ry
    cases e : isNon x L with
    | none => rw [e] at h; exact h.elim
    | some b =>
      rw [e] at h
      rw [rep_non ab rx e]
      exact ⟨rfl, now ab h _ (.bl _)⟩
  · exact h.elim
theorem d_notN : Op2 cl X cNotN (fun x y H Q => y = .non ∧ Q (.bl (!decide (x = .non))) H) := by
  intro W σ H ρ L x y v u Q ab rx ry h
  unfold cNotN at h
  split at h
  · cases ry
    cases e : isNon x L with
    | none => rw [e] at h; exact h.elim
    | some b =>
      rw [e] at h
      rw [rep_non ab rx e]
      exact ⟨rfl, now ab h _ (.bl _)⟩
  · exact h.elim
end
end Df
namespace Df
open PySem PySem.Spec PyProof.Rows L2

/-! ### in, not in -/
section
variable {cl : Cl} {X : Cx}
/-- x in a list, a tuple of plain data, a sign in a text -/
def rInP (K : PySem.W.Frag) (neg : Bool) : R2 := fun x y H Q =>
  (∃ (c : Nat) (z : Str), x = .str ⟨#[c]⟩ ∧ y = .str z ∧ Q (.bl (if neg then !decide (c ∈ z.cps.toList) else decide (c ∈ z.cps.toList))) H) ∨
  ∃ d ds, Dp K H x d ∧ (Dp K H y (.list ds) ∨ Dp K H y (.tuple ds)) ∧ d.plain = true ∧ PyData.plainAll ds = true ∧ d.depth ≤ 50 ∧ Q (.bl (if neg then !(ds.any fun z => PyData.eqv z d) else ds.any fun z => PyData.eqv z d)) H
theorem op_inP (hu : X.A.units + 64 < cLine) : OpR X (compareOp .In) (rInP X.K false) := by
  intro pins s σ H x y v u Q I rx ry h
  rcases h with ⟨c, z, e1, e2, q⟩ | ⟨d, ds, hd, he, sd, se, hm, q⟩
  · exact op_in_sign pins s σ H x y v u Q I rx ry ⟨c, z, e1, e2, q⟩
  · obtain ⟨as, r1⟩ := Dp.reads I d x v hd rx
    rcases he with he | he
    · obtain ⟨bs, r2⟩ := Dp.reads I _ y u he ry
      exact SeqAt.in_list_data r2 r1 se sd (by omega) ⟨.bl _, H, I, rfl, q⟩
    · obtain ⟨bs, r2⟩ := Dp.reads I _ y u he ry
      exact SeqAt.in_tuple_data r2 r1 se sd (by omega) ⟨.bl _, H, I, rfl, q⟩
theorem op_notInP (hu : X.A.units + 64 < cLine) : OpR X (compareOp .NotIn) (rInP X.K true) := by
  intro pins s σ H x y v u Q I rx ry h
  rcases h with ⟨c, z, e1, e2, q⟩ | ⟨d, ds, hd, he, sd, se, hm, q⟩
  · exact op_notIn_sign pins s σ H x y v u Q I rx ry ⟨c, z, e1, e2, q⟩
  · obtain ⟨as, r1⟩ := Dp.reads I d x v hd rx
    rcases he with he | he
    · obtain ⟨bs, r2⟩ := Dp.reads I _ y u he ry
      exact SeqAt.notIn_list_data r2 r1 se sd (by omega) ⟨.bl _, H, I, rfl, q⟩
    · obtain ⟨bs, r2⟩ := Dp.reads I _ y u he ry
      exact SeqAt.notIn_tuple_data r2 r1 se sd (by omega) ⟨.bl _, H, I, rfl, q⟩
theorem one_sign {c : Str} (h : c.length = 1) : ∃ k, c = ⟨#[k]⟩ := by
  obtain ⟨⟨l⟩⟩ := c
  cases l with
  | nil => cases h
  | cons a l =>
    cases l with
    | nil => exact ⟨a, rfl⟩
    | cons b l => simp [Str.length] at h
theorem any_py {x : D} {xs : List D} (hx : x.plain = true) (hs : D.plainL xs = true) : (pyL xs).any (fun z => PyData.eqv z (py x)) = xs.any fun z => D.eqv z x := by
  induction xs with
  | nil => rfl
  | cons y ys ih =>
    rw [D.plainL, Bool.and_eq_true] at hs
    rw [pyL, List.any_cons, List.any_cons, ih hs.2, py_eqv y x hs.1 hx]
theorem in_key {neg : Bool} {H : Hp} {ρ : Rho} {L : Store} {x y : D} {v u : V} {Q : VK} {b : Bool} (ab : AbsL (gm cl X) H ρ L) (rx : Rep (gm cl X) H ρ x v) (ry : Rep (gm cl X) H ρ y u) (h : isIn x y L = some b)
    (q : Q (.bl (if neg then !b else b)) H) : rInP X.K neg v u H Q := by
  have seqs : (∀ z, y ≠ .str z) → rInP X.K neg v u H Q := fun hy => by
    have e : isIn x y L = (match seqOf L y with
      | some ys => if D.plain x && D.plainL ys && decide (D.depth x ≤ 50) then some (ys.any fun z => D.eqv z x) else none
      | none => none) := by
      unfold isIn
      cases y <;> first | exact absurd rfl (hy _) | rfl
    rw [e] at h
    cases es : seqOf L y with
    | none => rw [es] at h; cases h
    | some ys =>
      rw [es] at h
      by_cases c : (D.plain x && D.plainL ys && decide (D.depth x ≤ 50)) = true
      · simp only [c, if_true] at h
        cases h
        rw [Bool.and_eq_true, Bool.and_eq_true, decide_eq_true_eq] at c
        have hl : ∃ ds, PyData.plainAll ds = true ∧ ds = pyL ys ∧ (Dp X.K H u (.list ds) ∨ Dp X.K H u (.tuple ds)) := by
          obtain ⟨a, vs, rfl, hs, hr⟩ := seq_at ab ry es
          refine ⟨pyL ys, pyL_plain ys, rfl, ?_⟩
          rcases hs with hs | hs
          · exact .inl (.lst hs (hr.dp c.1.2))
          · exact .inr (.tup hs (hr.dp c.1.2))
        obtain ⟨ds, h1, rfl, h2⟩ := hl
        refine .inr ⟨py x, pyL ys, rx.dp c.1.1, h2, py_plain x, h1, Nat.le_trans (py_depth x) c.2, ?_⟩
        rw [any_py c.1.1 c.1.2]
        exact q
      · simp only [c, if_false] at h; cases h
  cases y with
  | str z =>
    unfold isIn at h
    cases x with
    | str c =>
      by_cases hc : c.length = 1
      · simp only [hc, if_true] at h
        cases h
        obtain ⟨k, rfl⟩ := one_sign hc
        cases rx
        cases ry
        refine .inl ⟨k, z, rfl, rfl, ?_⟩
        have e : ((⟨#[k]⟩ : Str).cps.toList.all fun s => decide (s ∈ z.cps.toList)) = decide (k ∈ z.cps.toList) := by simp
        rw [e] at q
        exact q
      · simp only [hc, if_false] at h; cases h
    | _ => cases h
  | _ => exact seqs fun z e => nomatch e
theorem d_in : Op2 cl X cIn (rInP X.K false) := by
  intro W σ H ρ L x y v u Q ab rx ry h
  unfold cIn at h
  cases e : isIn x y L with
  | none => rw [e] at h; exact h.elim
  | some b => rw [e] at h; exact in_key (neg := false) ab rx ry e (now ab h _ (.bl _))
theorem d_notIn : Op2 cl X cNotIn (rInP X.K true) := by
  intro W σ H ρ L x y v u Q ab rx ry h
  unfold cNotIn at h
  cases e : isIn x y L with
  | none => rw [e] at h; exact h.elim
  | some b => rw [e] at h; exact in_key (neg := true) ab rx ry e (now ab h _ (.bl _))

/-! ### places and slices -/
theorem atI_rep {H : Hp} {ρ : Rho} {xs : List D} {vs : List V} {i : Int} {d : D} (r : RepL (gm cl X) H ρ xs vs) (h : atInt xs i = some d) : ∃ v, L2.atI vs i = some v ∧ Rep (gm cl X) H ρ d v := by
  unfold atInt at h
  cases e : ixI xs.length i with
  | none => rw [e] at h; cases h
  | some j =>
    rw [e] at h
    obtain ⟨v, h1, h2⟩ := r.get (i := j) h
    refine ⟨v, ?_, h2⟩
    have e' : L2.ixN vs.length i = some j := by rw [← r.length]; exact e
    unfold L2.atI
    rw [e']
    exact h1
theorem d_ix : Op2 cl X oIx (rIx X.K) := by
  intro W σ H ρ L x y v u Q ab rx ry h
  unfold oIx at h
  cases y with
  | int i =>
    cases ry
    have seqs : (∀ z, x ≠ .str z) → After (gm cl X) W σ ρ H (match seqOf L x with
      | some xs => match atInt xs i with
        | some d => .ok d L
        | none => .bad
      | none => .bad) (fun d H' ρ' _ => ∀ w, Rep (gm cl X) H' ρ' d w → Q w H') → rIx X.K v (.int i) H Q := fun hx h => by
      cases es : seqOf L x with
      | none => rw [es] at h; exact h.elim
      | some xs =>
        rw [es] at h
        obtain ⟨a, vs, rfl, hs, hr⟩ := seq_at ab rx es
        cases ei : atInt xs i with
        | none => simp only [ei] at h; exact (show False from h).elim
        | some d =>
          simp only [ei] at h
          obtain ⟨w, h1, h2⟩ := atI_rep hr ei
          rcases hs with hs | hs
          · exact .inl ⟨a, vs, i, w, rfl, rfl, hs, h1, now ab h _ h2⟩
          · exact .inr (.inl ⟨a, vs, i, w, rfl, rfl, hs, h1, now ab h _ h2⟩)
    cases x with
    | str z =>
      cases rx
      cases ei : atInt z.cps.toList i with
      | none => simp only [ei] at h; exact (show False from h).elim
      | some c =>
        simp only [ei] at h
        by_cases hz : z.length ≤ most
        · simp only [hz, if_true] at h
          exact .inr (.inr ⟨z, i, c, rfl, rfl, most_le hz, ei, now ab h _ (.str _)⟩)
        · simp only [hz, if_false] at h
          exact (show False from h).elim
    | _ => exact seqs (fun z e => nomatch e) h
  | _ => exact (show False from h).elim
variable {W : WX} {a b e : Expr} {fa fb f : Ev} {pos p2 : Pos} {lo hi : Option Expr} {pl ph : Pt}
theorem de_ix (ha : DE cl W X a fa) (hb : DE cl W X b fb) (hs : PlainIx b := by exact fun _ _ => rfl) : DE cl W X (.Subscript a b pos) (eOp oIx fa fb) :=
  imp_e (pe_ix ix_seq ha hb hs) fun _ _ _ h => run2 d_ix h
def tP (G : Gm) (W : WX) (p : Pt) : TO := fun σ H Q => ∃ ρ δ L, SlOk G H ρ σ δ ∧ AbsL G H ρ L ∧ After G W σ ρ H (p.run δ L) fun o H' _ _ => Q o H'
def DO (cl : Cl) (W : WX) (X : Cx) (e : Option Expr) (p : Pt) : Prop := PO X e (tP (gm cl X) W p)
theorem do_no : DO cl W X none .no := ⟨fun pins s σ H Q I h => po_none.run pins s σ H Q I (by obtain ⟨ρ, δ, L, hs, ha, h⟩ := h; exact h H ρ (Step.refl _ _) ha)⟩
theorem do_at (he : DE cl W X e f) : DO cl W X (some e) (.at f) := ⟨fun pins s σ H Q I h => (po_some he).run pins s σ H Q I (by
  obtain ⟨ρ, δ, L, hs, ha, h⟩ := h
  refine ⟨ρ, δ, L, hs, ha, After.mono (After.andThen h) fun d H1 ρ1 L1 st1 a1 h1 v rv => ?_⟩
  cases d with
  | int i =>
    cases rv
    by_cases c : -(2 ^ 62) < i ∧ i < 2 ^ 62
    · simp only [c, if_true, and_self] at h1; exact ⟨i, rfl, h1 H1 ρ1 (Step.refl _ _) a1⟩
    · simp only [c, if_false] at h1; exact (show False from h1).elim
  | _ => exact (show False from h1).elim)⟩
def rSl (K : PySem.W.Frag) : V → Option Int → Option Int → Hp → VK → Prop := fun x lo hi H Q => rSlL K x lo hi H Q ∨ rSlA K x lo hi H Q ∨ rSlS x lo hi H Q
theorem sl_all : SlR X (rSl X.K) := sl_list.or (sl_tupA.or sl_str)
theorem cut_rep {H : Hp} {ρ : Rho} {xs : List D} {vs : List V} {lo hi : Option Int} (r : RepL (gm cl X) H ρ xs vs) : RepL (gm cl X) H ρ (cutL xs lo hi) (cutV vs lo hi) := by
  unfold cutL cutV
  rw [← r.length]
  exact (r.drop _).take _
theorem cut_whole {xs : List D} {lo hi : Option Int} (h : HT.sIx xs.length 0 lo = 0 ∧ HT.sIx xs.length xs.length hi = xs.length) : cutL xs lo hi = xs := by
  unfold cutL
  rw [show ixOf xs.length 0 lo = 0 from h.1, show ixOf xs.length xs.length hi = xs.length from h.2]
  simp
theorem de_slice (ha : DE cl W X a fa) (hl : DO cl W X lo pl) (hh : DO cl W X hi ph) : DE cl W X (.Subscript a (.Slice lo hi none p2) pos) (eSlice fa pl ph) := by
  refine imp_e (pe_slice sl_all ha hl hh) fun σ H Q h => ?_
  obtain ⟨ρ, δ, L, hs, ha, h⟩ := h
  refine ⟨ρ, δ, L, hs, ha, After.mono (After.andThen h) fun x H1 ρ1 L1 st1 a1 h1 v rv => ?_⟩
  have hs1 := hs.step ha.live st1
  refine ⟨ρ1, δ, L1, hs1, a1, After.mono (After.andThen h1) fun i H2 ρ2 L2 st2 a2 h2 => ?_⟩
  have hs2 := hs1.step a1.live st2
  refine ⟨ρ2, δ, L2, hs2, a2, After.mono (After.andThen h2) fun j H3 ρ3 L3 st3 a3 h3 => ?_⟩
  have r3 := (rv.step a1.live st2).step a2.live st3
  have lists : After (gm cl X) W σ ρ3 H3 (match lstOf L3 x with
    | some xs => alloc (.lst (cutL xs i j)) L3
    | none => .bad) (fun d H' ρ' _ => ∀ w, Rep (gm cl X) H' ρ' d w → Q w H') → rSl X.K v i j H3 Q := fun h3 => by
    cases es : lstOf L3 x with
    | none => rw [es] at h3; exact h3.elim
    | some xs =>
      rw [es] at h3
      obtain ⟨a, vs, rfl, q1, q2⟩ := lst_at a3 r3 es
      exact .inl ⟨a, vs, rfl, .inl q1, fun p hp => alloc_lst a3 (cut_rep q2) hp h3⟩
  cases x with
  | tup xs =>
    obtain ⟨a, vs, rfl, q1, q2⟩ := tup_sq r3
    refine .inr (.inl ⟨a, vs, rfl, q1, fun w => ?_, fun w p hp => fresh_tup a3 (cut_rep q2) hp h3⟩)
    rw [← q2.length] at w
    have h4 : After (gm cl X) W σ ρ3 H3 (R.ok (D.tup (cutL xs i j)) L3) (fun d H' ρ' _ => ∀ w, Rep (gm cl X) H' ρ' d w → Q w H') := h3
    rw [cut_whole w] at h4
    exact now a3 h4 _ r3
  | str z =>
    cases rv
    by_cases hz : z.length ≤ most
    · simp only [hz, if_true] at h3
      exact .inr (.inr ⟨z, rfl, most_le hz, now a3 h3 _ (.str _)⟩)
    · simp only [hz, if_false] at h3
      exact (show False from h3).elim
  | _ => exact lists h3
end

/-! ### built-ins -/
section
variable {cl : Cl} {W : WX} {X : Cx} {x : Str} {p pos : Pos} {e a : Expr} {es : List Expr} {fs : Av} {f : Ev} {id T : String} {g : List D → Store → R D} {r : List V → Hp → VK → Prop}
theorem runB (hd : OpA cl X g r) {σ : L2.St} {H : Hp} {Q : VK} (h : tE (gm cl X) W (eB g fs) σ H Q) : tCB r (tA (gm cl X) W fs) σ H Q := by
  obtain ⟨ρ, δ, L, hs, ha, h⟩ := h
  exact ⟨ρ, δ, L, hs, ha, After.mono (After.andThen h) fun ds H1 ρ1 L1 st1 a1 h1 vs rv => hd W σ H1 ρ1 L1 ds vs Q a1 rv h1⟩
theorem de_b (hc : CallR X (.builtin id) r) (hd : OpA cl X g r) (hm : X.mg x = none) (ha : DA cl W X (e :: es) fs) (hv : bootBuiltins x = some (.builtin id)) (hg : Gl X x := by rfl) (hn : x ≠ "__name__" := by decide) (hdb : (x == ("__debug__" : Str)) = false := by decide)
    (he : starEach (e :: es) X.env = (false, eval e X.env) :: starEach es X.env := by rfl) (hpl : (backTo pos (starEach es X.env)).any (·.1) = false := by rfl) : DE cl W X (.Call (.Name x p) (e :: es) [] pos) (eB g fs) :=
  imp_e (pe_callB hc hg hm hv ha hn hdb he hpl) fun _ _ _ h => runB hd h
theorem de_bt (hc : CallR X (.type T) r) (hd : OpA cl X g r) (hm : X.mg x = none) (ha : DA cl W X (e :: es) fs) (hv : bootBuiltins x = some (.type T)) (hg : Gl X x := by rfl) (hn : x ≠ "__name__" := by decide) (hdb : (x == ("__debug__" : Str)) = false := by decide)
    (he : starEach (e :: es) X.env = (false, eval e X.env) :: starEach es X.env := by rfl) (hpl : (backTo pos (starEach es X.env)).any (·.1) = false := by rfl) : DE cl W X (.Call (.Name x p) (e :: es) [] pos) (eB g fs) :=
  imp_e (pe_callTy hc hg hm hv ha hn hdb he hpl) fun _ _ _ h => runB hd h
def rLen (K : PySem.W.Frag) : List V → Hp → VK → Prop := fun xs H Q => (∃ z, xs = [.str z] ∧ z.length ≤ sizeLine ∧ Q (.int z.length) H) ∨ ∃ p ys, xs = [.ref p] ∧ (SqL K H p ys ∨ SqT K H p ys) ∧ Q (.int ys.length) H
theorem call_lenA : CallR X (.builtin "len") (rLen X.K) := call_len_str.or call_len_seq
theorem rep1 {H : Hp} {ρ : Rho} {d : D} {vs : List V} (r : RepL (gm cl X) H ρ [d] vs) : ∃ v, vs = [v] ∧ Rep (gm cl X) H ρ d v := by
  cases r with
  | cons a b => cases b; exact ⟨_, rfl, a⟩
theorem d_len : OpA cl X bLenS (rLen X.K) := by
  intro W σ H ρ L xs vs Q ab rv h
  unfold bLenS at h
  split at h
  · rename_i s
    obtain ⟨v, rfl, r⟩ := rep1 rv
    cases r
    by_cases hz : s.length ≤ most
    · rw [if_pos hz] at h; exact .inl ⟨s, rfl, most_le hz, now ab h _ (.int _)⟩
    · rw [if_neg hz] at h; exact h.elim
  · rename_i x hx
    obtain ⟨v, rfl, r⟩ := rep1 rv
    cases es : seqOf L x with
    | none => rw [es] at h; exact h.elim
    | some ys =>
      rw [es] at h
      obtain ⟨a, vs, rfl, q1, q2⟩ := seq_at ab r es
      refine .inr ⟨a, vs, rfl, q1, ?_⟩
      rw [← q2.length]
      exact now ab h _ (.int _)
  · exact h.elim
def rTuple (K : PySem.W.Frag) : List V → Hp → VK → Prop := fun xs H Q => ∃ p ys, xs = [.ref p] ∧ ((SqL K H p ys ∧ ∀ l, H l = none → Q (.ref l) (upd H l (.tup ys))) ∨ (SqT K H p ys ∧ Q (.ref p) H))
def bTupleS : List D → Store → R D := fun ds L => match ds with
  | [x] => match seqOf L x with
    | some xs => .ok (.tup xs) L
    | none => .bad
  | _ => .bad
theorem d_tuple : OpA cl X bTuple (rTuple X.K) := by
  intro W σ H ρ L xs vs Q ab rv h
  unfold bTuple at h
  split at h
  · rename_i x
    obtain ⟨v, rfl, r⟩ := rep1 rv
    cases es : seqOf L x with
    | none => rw [es] at h; exact h.elim
    | some ys =>
      rw [es] at h
      obtain ⟨a, vs, rfl, q1, q2⟩ := seq_at ab r es
      refine ⟨a, vs, rfl, ?_⟩
      rcases q1 with q1 | q1
      · exact .inl ⟨q1, fun p hp => fresh_tup ab q2 hp h⟩
      · exact .inr ⟨q1, now ab h _ (.tup q1 q2)⟩
  · exact h.elim
def rList (K : PySem.W.Frag) : List V → Hp → VK → Prop := fun xs H Q => ∃ p ys, xs = [.ref p] ∧ (SqL K H p ys ∨ SqT K H p ys) ∧ ∀ l, H l = none → Q (.ref l) (upd H l (.lst ys))
theorem d_list : OpA cl X bList (rList X.K) := by
  intro W σ H ρ L xs vs Q ab rv h
  unfold bList at h
  split at h
  · rename_i x
    obtain ⟨v, rfl, r⟩ := rep1 rv
    cases es : seqOf L x with
    | none => rw [es] at h; exact h.elim
    | some ys =>
      rw [es] at h
      obtain ⟨a, vs, rfl, q1, q2⟩ := seq_at ab r es
      exact ⟨a, vs, rfl, q1, fun p hp => alloc_lst ab q2 hp h⟩
  · exact h.elim
theorem de_len (hm : X.mg "len" = none) (ha : DE cl W X e f) (hg : Gl X "len" := by rfl) (he : starEach [e] X.env = (false, eval e X.env) :: starEach [] X.env := by rfl) : DE cl W X (.Call (.Name "len" p) [e] [] pos) (eB bLenS (aCons f aNil)) :=
  de_b call_lenA d_len hm (da_cons ha da_nil he) PySem.boot_len hg (by decide) (by decide) he
theorem de_tuple (hm : X.mg "tuple" = none) (ha : DE cl W X e f) (hg : Gl X "tuple" := by rfl) (he : starEach [e] X.env = (false, eval e X.env) :: starEach [] X.env := by rfl) : DE cl W X (.Call (.Name "tuple" p) [e] [] pos) (eB bTuple (aCons f aNil)) :=
  de_bt call_tuple_of d_tuple hm (da_cons ha da_nil he) PyProof.Rows.boot_tuple hg (by decide) (by decide) he
theorem de_list (hm : X.mg "list" = none) (ha : DE cl W X e f) (hg : Gl X "list" := by rfl) (he : starEach [e] X.env = (false, eval e X.env) :: starEach [] X.env := by rfl) : DE cl W X (.Call (.Name "list" p) [e] [] pos) (eB bList (aCons f aNil)) :=
  de_bt call_list_of d_list hm (da_cons ha da_nil he) PyProof.Rows.boot_list hg (by decide) (by decide) he

/-! isinstance -/
def Ty.name : Ty → String
  | .int => "int"
  | .bool => "bool"
  | .str => "str"
  | .tuple => "tuple"
  | .list => "list"
def tyName : D → String
  | .non => "NoneType"
  | .bl _ => "bool"
  | .int _ => "int"
  | .str _ => "str"
  | .tup _ => "tuple"
  | _ => "list"
theorem ty_of {H : Hp} {ρ : Rho} {L : Store} {d : D} {v : V} (ab : AbsL (gm cl X) H ρ L) (r : Rep (gm cl X) H ρ d v) (h : (look L d).plain = true) : TyX X.K H v (.type (tyName (look L d))) := by
  cases d with
  | ref i =>
    cases e : L[i]? with
    | none => simp only [look, e] at h; exact absurd h Bool.false_ne_true
    | some m =>
      cases m with
      | lst xs =>
        simp only [look, e]
        obtain ⟨a, vs, rfl, _, h1, h2⟩ := ref_lst ab r e
        exact .base (.lst h1)
      | _ => simp only [look, e] at h; exact absurd h Bool.false_ne_true
  | non => cases r; exact .base .non
  | bl b => cases r; exact .base (.bl b)
  | int b => cases r; exact .base (.int b)
  | str b => cases r; exact .base (.str b)
  | tup xs =>
    obtain ⟨a, vs, rfl, q, _⟩ := tup_sq r
    rcases q with (q | ⟨o, q⟩) | ⟨o, its, n, q1, q2, _⟩
    · exact .base (.tup q)
    · exact .fTuple q
    · exact .kTuple q1 q2
  | lst xs => cases r with | lst a b => exact .base (.frz a)
  | _ => exact absurd h Bool.false_ne_true
def isTyN (n : String) (t : Ty) : Bool := match t with
  | .int => n == "int" || n == "bool"
  | .bool => n == "bool"
  | .str => n == "str"
  | .tuple => n == "tuple"
  | .list => n == "list"
theorem kitN : ∀ n ∈ ["NoneType", "bool", "int", "str", "tuple", "list"], ∀ t : Ty, kitB n t.name = some (isTyN n t) := by
  intro n hn t
  simp only [List.mem_cons, List.not_mem_nil, or_false] at hn
  rcases hn with rfl | rfl | rfl | rfl | rfl | rfl <;> cases t <;> decide +kernel
theorem kit1 (d : D) (h : d.plain = true) (t : Ty) : kitB (tyName d) t.name = some (isTy d t) := by
  have e : isTyN (tyName d) t = isTy d t := by
    cases d <;> first | exact absurd h Bool.false_ne_true | (cases t <;> rfl)
  rw [← e]
  refine kitN _ ?_ t
  cases d <;> first | exact absurd h Bool.false_ne_true | (simp [tyName])
theorem kitA {K : PySem.W.Frag} (d : D) (h : d.plain = true) : ∀ ts : List Ty, PySem.W.kitAny K (.type (tyName d)) (ts.map fun t => Value.type t.name) = some (ts.any (isTy d))
  | [] => kitAny_nil
  | t :: ts => by
    have ih := kitA (K := K) d h ts
    refine kitAny_cons (b := isTy d t) (kit_ty (kit1 d h t)) (fun e => ?_) fun e => ?_
    · rw [List.any_cons, e, Bool.false_or]; exact ih
    · rw [List.any_cons, e, Bool.true_or]
theorem boot_ty (t : Ty) : bootBuiltins t.name = some (.type t.name) := by cases t <;> decide +kernel
theorem ty_pe (t : Ty) {q : Pos} (hm : X.mg t.name = none) (hg : Gl X t.name) : PE X (.Name t.name q) (tC (.ty t.name)) :=
  pe_bltn hg hm (boot_ty t) rfl (by cases t <;> decide +kernel) (by cases t <;> decide +kernel)
theorem de_isi (t : Ty) {q : Pos} (hm : X.mg "isinstance" = none) (ha : DE cl W X e f) (ht : X.mg t.name = none) (hg : Gl X "isinstance" := by rfl) (hg' : Gl X t.name := by rfl)
    (he : starEach [e, .Name t.name q] X.env = (false, eval e X.env) :: starEach [.Name t.name q] X.env := by rfl) (he2 : starEach [.Name t.name q] X.env = (false, eval (.Name t.name q) X.env) :: starEach [] X.env := by rfl) (hpl : (backTo pos (starEach [.Name t.name q] X.env)).any (·.1) = false := by rfl) : DE cl W X (.Call (.Name "isinstance" p) [e, .Name t.name q] [] pos) (eIsi f [t]) := by
  refine imp_e (pe_callB call_isi hg hm PyProof.Rows.boot_isinstance (pa_cons ha (pa_cons (ty_pe t ht hg') pa_nil he2) he) (by decide) (by decide) he hpl) fun σ H Q h => ?_
  obtain ⟨ρ, δ, L, hs, ha, h⟩ := h
  refine ⟨ρ, δ, L, hs, ha, After.mono (After.andThen h) fun x H1 ρ1 L1 st1 a1 h1 v rv => ?_⟩
  by_cases c : (look L1 x).plain = true
  · rw [if_pos c] at h1
    refine ⟨v, .ty t.name, _, _, _, rfl, .ty _, ty_of a1 rv c, kit_ty (kit1 _ c t), ?_⟩
    have e1 : [t].any (isTy (look L1 x)) = isTy (look L1 x) t := by simp
    rw [e1] at h1
    exact now a1 h1 _ (.bl _)
  · rw [if_neg c] at h1; exact h1.elim
theorem de_isi2 (t u : Ty) {q1 q2 q3 : Pos} {kk} (hm : X.mg "isinstance" = none) (ha : DE cl W X e f) (ht : X.mg t.name = none) (hu : X.mg u.name = none) (hg : Gl X "isinstance" := by rfl) (hg1 : Gl X t.name := by rfl) (hg2 : Gl X u.name := by rfl)
    (he : starEach [e, .Tuple [.Name t.name q1, .Name u.name q2] kk q3] X.env = (false, eval e X.env) :: starEach [.Tuple [.Name t.name q1, .Name u.name q2] kk q3] X.env := by rfl)
    (he2 : starEach [.Tuple [.Name t.name q1, .Name u.name q2] kk q3] X.env = (false, eval (.Tuple [.Name t.name q1, .Name u.name q2] kk q3) X.env) :: starEach [] X.env := by rfl)
    (he3 : starEach [.Name t.name q1, .Name u.name q2] X.env = (false, eval (.Name t.name q1) X.env) :: starEach [.Name u.name q2] X.env := by rfl) (he4 : starEach [.Name u.name q2] X.env = (false, eval (.Name u.name q2) X.env) :: starEach [] X.env := by rfl)
    (hpl : (backTo pos (starEach [.Tuple [.Name t.name q1, .Name u.name q2] kk q3] X.env)).any (·.1) = false := by rfl) : DE cl W X (.Call (.Name "isinstance" p) [e, .Tuple [.Name t.name q1, .Name u.name q2] kk q3] [] pos) (eIsi f [t, u]) := by
  refine imp_e (pe_callB call_isiT hg hm PyProof.Rows.boot_isinstance (pa_cons ha (pa_cons (pe_tup (pa_cons (ty_pe t ht hg1) (pa_cons (ty_pe u hu hg2) pa_nil he4) he3)) pa_nil he2) he) (by decide) (by decide) he hpl) fun σ H Q h => ?_
  obtain ⟨ρ, δ, L, hs, ha, h⟩ := h
  refine ⟨ρ, δ, L, hs, ha, After.mono (After.andThen h) fun x H1 ρ1 L1 st1 a1 h1 v rv => ?_⟩
  by_cases c : (look L1 x).plain = true
  · rw [if_pos c] at h1
    refine ⟨by show 2 ≤ sizeLine; decide, fun tp htp => ?_⟩
    have a2 := a1.grow (o := .tup [.ty t.name, .ty u.name]) htp
    have st2 : Step H1 ρ1 (upd H1 tp (.tup [.ty t.name, .ty u.name])) ρ1 := Step.grow htp
    refine ⟨v, tp, _, _, _, _, rfl, upd_same, .cons (.ty _) (.cons (.ty _) .nil), ty_of a2 (rv.step a1.live st2) c, kitA _ c [t, u], ?_⟩
    exact h1 _ ρ1 st2 a2 _ (.bl _)
  · rw [if_neg c] at h1; exact h1.elim
end
end Df
/-! isinstance, x a tuple with objects within -/
namespace Df
open PySem PySem.Spec PyProof.Rows L2
section
variable {cl : Cl} {W : WX} {X : Cx} {x : Str} {p pos : Pos} {e a : Expr} {es : List Expr} {fs : Av} {f : Ev} {id T : String} {g : List D → Store → R D} {r : List V → Hp → VK → Prop}
theorem ty_ofH {H : Hp} {ρ : Rho} {L : Store} {d : D} {v : V} (ab : AbsL (gm cl X) H ρ L) (r : Rep (gm cl X) H ρ d v) (h : (look L d).kindly = true) : TyX X.K H v (.type (tyName (look L d))) := by
  cases d with
  | ref i =>
    cases e : L[i]? with
    | none => simp only [look, e] at h; exact absurd h Bool.false_ne_true
    | some m =>
      cases m with
      | lst xs =>
        simp only [look, e]
        obtain ⟨a, vs, rfl, _, h1, h2⟩ := ref_lst ab r e
        exact .base (.lst h1)
      | _ => simp only [look, e] at h; exact absurd h Bool.false_ne_true
  | non => cases r; exact .base .non
  | bl b => cases r; exact .base (.bl b)
  | int b => cases r; exact .base (.int b)
  | str b => cases r; exact .base (.str b)
  | tup xs =>
    obtain ⟨a, vs, rfl, q, _⟩ := tup_sq r
    rcases q with (q | ⟨o, q⟩) | ⟨o, its, n, q1, q2, _⟩
    · exact .base (.tup q)
    · exact .fTuple q
    · exact .kTuple q1 q2
  | lst xs => cases r with | lst a b => exact .base (.frz a)
  | _ => exact absurd h Bool.false_ne_true
theorem kit1H (d : D) (h : d.kindly = true) (t : Ty) : kitB (tyName d) t.name = some (isTy d t) := by
  have e : isTyN (tyName d) t = isTy d t := by
    cases d <;> first | exact absurd h Bool.false_ne_true | (cases t <;> rfl)
  rw [← e]
  refine kitN _ ?_ t
  cases d <;> first | exact absurd h Bool.false_ne_true | (simp [tyName])
theorem kitAH {K : PySem.W.Frag} (d : D) (h : d.kindly = true) : ∀ ts : List Ty, PySem.W.kitAny K (.type (tyName d)) (ts.map fun t => Value.type t.name) = some (ts.any (isTy d))
  | [] => kitAny_nil
  | t :: ts => by
    have ih := kitAH (K := K) d h ts
    refine kitAny_cons (b := isTy d t) (kit_ty (kit1H d h t)) (fun e => ?_) fun e => ?_
    · rw [List.any_cons, e, Bool.false_or]; exact ih
    · rw [List.any_cons, e, Bool.true_or]
theorem de_isiH (t : Ty) {q : Pos} (hm : X.mg "isinstance" = none) (ha : DE cl W X e f) (ht : X.mg t.name = none) (hg : Gl X "isinstance" := by rfl) (hg' : Gl X t.name := by rfl)
    (he : starEach [e, .Name t.name q] X.env = (false, eval e X.env) :: starEach [.Name t.name q] X.env := by rfl) (he2 : starEach [.Name t.name q] X.env = (false, eval (.Name t.name q) X.env) :: starEach [] X.env := by rfl) (hpl : (backTo pos (starEach [.Name t.name q] X.env)).any (·.1) = false := by rfl) : DE cl W X (.Call (.Name "isinstance" p) [e, .Name t.name q] [] pos) (eIsiH f [t]) := by
  refine imp_e (pe_callB call_isi hg hm PyProof.Rows.boot_isinstance (pa_cons ha (pa_cons (ty_pe t ht hg') pa_nil he2) he) (by decide) (by decide) he hpl) fun σ H Q h => ?_
  obtain ⟨ρ, δ, L, hs, ha, h⟩ := h
  refine ⟨ρ, δ, L, hs, ha, After.mono (After.andThen h) fun x H1 ρ1 L1 st1 a1 h1 v rv => ?_⟩
  by_cases c : (look L1 x).kindly = true
  · rw [if_pos c] at h1
    refine ⟨v, .ty t.name, _, _, _, rfl, .ty _, ty_ofH a1 rv c, kit_ty (kit1H _ c t), ?_⟩
    have e1 : [t].any (isTy (look L1 x)) = isTy (look L1 x) t := by simp
    rw [e1] at h1
    exact now a1 h1 _ (.bl _)
  · rw [if_neg c] at h1; exact h1.elim
theorem de_isiH2 (t u : Ty) {q1 q2 q3 : Pos} {kk} (hm : X.mg "isinstance" = none) (ha : DE cl W X e f) (ht : X.mg t.name = none) (hu : X.mg u.name = none) (hg : Gl X "isinstance" := by rfl) (hg1 : Gl X t.name := by rfl) (hg2 : Gl X u.name := by rfl)
    (he : starEach [e, .Tuple [.Name t.name q1, .Name u.name q2] kk q3] X.env = (false, eval e X.env) :: starEach [.Tuple [.Name t.name q1, .Name u.name q2] kk q3] X.env := by rfl)
    (he2 : starEach [.Tuple [.Name t.name q1, .Name u.name q2] kk q3] X.env = (false, eval (.Tuple [.Name t.name q1, .Name u.name q2] kk q3) X.env) :: starEach [] X.env := by rfl)
    (he3 : starEach [.Name t.name q1, .Name u.name q2] X.env = (false, eval (.Name t.name q1) X.env) :: starEach [.Name u.name q2] X.env := by rfl) (he4 : starEach [.Name u.name q2] X.env = (false, eval (.Name u.name q2) X.env) :: starEach [] X.env := by rfl)
    (hpl : (backTo pos (starEach [.Tuple [.Name t.name q1, .Name u.name q2] kk q3] X.env)).any (·.1) = false := by rfl) : DE cl W X (.Call (.Name "isinstance" p) [e, .Tuple [.Name t.name q1, .Name u.name q2] kk q3] [] pos) (eIsiH f [t, u]) := by
  refine imp_e (pe_callB call_isiT hg hm PyProof.Rows.boot_isinstance (pa_cons ha (pa_cons (pe_tup (pa_cons (ty_pe t ht hg1) (pa_cons (ty_pe u hu hg2) pa_nil he4) he3)) pa_nil he2) he) (by decide) (by decide) he hpl) fun σ H Q h => ?_
  obtain ⟨ρ, δ, L, hs, ha, h⟩ := h
  refine ⟨ρ, δ, L, hs, ha, After.mono (After.andThen h) fun x H1 ρ1 L1 st1 a1 h1 v rv => ?_⟩
  by_cases c : (look L1 x).kindly = true
  · rw [if_pos c] at h1
    refine ⟨by show 2 ≤ sizeLine; decide, fun tp htp => ?_⟩
    have a2 := a1.grow (o := .tup [.ty t.name, .ty u.name]) htp
    have st2 : Step H1 ρ1 (upd H1 tp (.tup [.ty t.name, .ty u.name])) ρ1 := Step.grow htp
    refine ⟨v, tp, _, _, _, _, rfl, upd_same, .cons (.ty _) (.cons (.ty _) .nil), ty_ofH a2 (rv.step a1.live st2) c, kitAH _ c [t, u], ?_⟩
    exact h1 _ ρ1 st2 a2 _ (.bl _)
  · rw [if_neg c] at h1; exact h1.elim
end
end Df
/-! enumerate over a tuple -/
namespace PySem
open Sem (wp)
set_option maxHeartbeats 1000000 in
theorem dfEnumNew {v : Value} {o : Obj} {Hs : Heap → Prop} (Bg : Begins v o Hs) :
    Meets (Builtin.«enumerate.__new__» ⟨[.type "enumerate", v], []⟩) (fun _ Rr st => Hs st.heap ∧
      Rr (.ok (.ret (.ref (st.heap.push o).objs.size))) { st with heap := (st.heap.push o).push { cls := .type "enumerate", data := .fields #[.none, .bool false, .ref st.heap.objs.size, rawInt 0, .none, .none] } }) :=
  .of_wp fun prog w A Rr st hq => by
    obtain ⟨hp, gg, dd, tk, oo⟩ := st
    obtain ⟨hs1, hq⟩ := hq
    have hsub := sub_enumerate
    have goIter : ∀ {A' : Around} {E : Value → Shared → Prop} {Q : Value → Shared → Prop}, Q (.ref hp.objs.size) ⟨hp.push o, gg, dd, tk, oo⟩ → wpAny (model prog w) A' (pyIter v) Q E ⟨hp, gg, dd, tk, oo⟩ :=
      fun qq => Bg.iter prog w _ _ ⟨hp, gg, dd, tk, oo⟩ _ hs1 qq
    wp_walk using goIter
    refine wpAny_stack_any fun sk => wpAny_pure ?_
    split
    · rename_i c _ _ _ _ _
      cases (c == Value.type "enumerate")
      · wp_walk using goIter
        exact ⟨_, rfl, hq⟩
      · wp_walk using goIter
        exact ⟨_, rfl, hq⟩
    · wp_walk using goIter
      exact ⟨_, rfl, hq⟩
theorem dfEnumTuple {prog : Program} {w : World} {A : Around} {E : Value → Shared → Prop} {s : Shared} {l : Addr} {items : Array Value} {Q : Value → Shared → Prop} (hT : s.heap.IsTuple l items)
    (hq : ∀ h', IsEnum h' (s.heap.objs.size + 1) s.heap.objs.size 0 .none → h'.IsTupleIter s.heap.objs.size l 0 →
      (∀ b o, s.heap.get? b = some o → h'.get? b = some o) → Q (.ref (s.heap.objs.size + 1)) { s with heap := h' }) :
    wpAny (model prog w) A (call (.type "enumerate") [.ref l]) Q E s := by
  refine callType_new F.called_enumerate (by decide) (F.typeCall_enumerate_1 _) (F.newCall_enumerate_1 _) (fun obj => F.args_object_init_2 obj _) F.entry_enumerate_new (dfEnumNew (begins_tuple l items)) ⟨hT, ?_⟩
  have sz : (s.heap.push { cls := .type "tuple_iterator", data := .fields #[.ref l, .int 0 0] }).objs.size = s.heap.objs.size + 1 := Heap.size_push ..
  show _ ∧ _
  rw [sz]
  have en : IsEnum ((s.heap.push { cls := .type "tuple_iterator", data := .fields #[.ref l, .int 0 0] }).push
      { cls := .type "enumerate", data := .fields #[.none, .bool false, .ref s.heap.objs.size, rawInt 0, .none, .none] }) (s.heap.objs.size + 1) s.heap.objs.size 0 .none := by
    have z := Heap.get?_push_size (s.heap.push { cls := .type "tuple_iterator", data := .fields #[.ref l, .int 0 0] }) (o := { cls := .type "enumerate", data := .fields #[.none, .bool false, .ref s.heap.objs.size, rawInt 0, .none, .none] }) rfl
    rw [sz] at z
    exact z
  exact ⟨⟨_, en, rfl⟩, hq _ en ⟨_, Heap.get?_push_of_some _ (Heap.get?_push_size _ rfl), rfl, rfl⟩ fun b o x => Heap.get?_push_of_some _ (Heap.get?_push_of_some _ x)⟩
end PySem

namespace Df
open PySem PySem.Spec PyProof.Rows L2
/-- the tuple at a, each item in a new pair -/
def IteT (K : PySem.W.Frag) (a : Addr) : It :=
  ⟨fun i H => ∃ (xs : List V) (x : V), SqT K H a xs ∧ xs[i]? = some x, fun i H v H' => ∃ T x, v = .ref T ∧ H T = none ∧ H' = upd H T (.tup [.int (i : Nat), x]) ∧ ∀ xs, SqT K H a xs → xs[i]? = some x, fun i H => ∃ xs : List V, SqT K H a xs ∧ xs.length = i⟩
theorem tupNe {h : Heap} {a b : Addr} {its : Array Value} {o : Obj} {n : String} (ht : IsTup h a its) (hb : h.get? b = some o) (hc : o.cls = .type n) (hn : n ≠ "tuple") : a ≠ b := by
  rintro rfl
  obtain ⟨o', h1, h2, _⟩ := ht
  rw [h1] at hb
  cases hb
  rw [h2] at hc
  exact hn (Value.type.inj hc).symm
theorem turn_enumT {P : Program} {w : World} {K : PySem.W.Frag} {elts : List Expr} {kk : Nat} {tpos : Pos} (a e it : Addr) :
    Turn P w K (.Tuple elts kk tpos) (IteT K a) [e, it] e (fun i h => (∃ old, IsEnum h e it ((i : Nat) : Int) old) ∧ h.IsTupleIter it a i ∧ e ≠ it) where
  mem := by simp
  obj := fun i h st b hb => by
    obtain ⟨⟨old, he⟩, ⟨o, ho, hc, hd⟩, _⟩ := st
    rcases (show b = e ∨ b = it by simpa using hb) with z | z
    · subst z; exact ⟨_, he, fun v q => nomatch q⟩
    · exact ⟨o, by rw [z]; exact ho, fun v q => by rw [hd] at q; cases q⟩
  keep := fun i h h' st k => by
    obtain ⟨⟨old, he⟩, hi, hne⟩ := st
    exact ⟨⟨old, k e (by simp) _ he⟩, hi.at fun o q => k it (by simp) o q, hne⟩
  item := by
    intro X hP hw hK hc i pins s σ H E I hf st hg
    subst hP hw hK
    obtain ⟨⟨old, he⟩, hit, hne⟩ := st
    obtain ⟨xs, x, hq, hx⟩ := hg
    obtain ⟨its, rv, p, hz⟩ := I.tuple hq
    obtain ⟨u, hu, ru⟩ := rv.get hx
    obtain ⟨oi, hoi, hci, hdi⟩ := id hit
    have n1 : a ≠ it := tupNe p hoi hci (by decide)
    have n2 : a ≠ e := tupNe p he rfl (by decide)
    have hlen : i < its.toArray.size := by
      have := (List.getElem?_eq_some_iff.mp hx).1
      rw [List.size_toArray, ← rv.length]
      exact this
    have Wk := GoesN.enumFrom (prog := X.prog) (w := X.w) (A := X.A) (elts := elts) (x1 := kk) (pos := tpos) 0 (Draws.tuple (A := X.A.in1) (I.ok.hd hc) it a n1 its.toArray) e hne (by simp [hne, Ne.symm n2]) (by simp)
    have e0 : (0 : Int) + (i : Int) = (i : Int) := by omega
    refine Wk.goes i s _ E hlen ⟨⟨old, by rw [e0]; exact he⟩, hit, p⟩ fun v h' tk hY st' hk _ => ?_
    obtain ⟨T, t, y, rfl, hT, hy, hIT⟩ := hY
    have ey : y = u := by
      have q : its.toArray[i]? = some u := by simpa using hu
      rw [q] at hy
      exact (Option.some.inj hy).symm
    subst ey
    rw [e0] at hIT
    have new : ObjOk X.prog X.w (upd H T (.tup [.int (i : Nat), x])) h' T (.tup [.int (i : Nat), x]) :=
      ⟨by show 2 ≤ sizeLine; decide, [.int i t, y], .cons ⟨_, rfl⟩ (.cons ru .nil), hIT⟩
    have I1 : Inv X pins σ (upd H T (.tup [.int (i : Nat), x])) { s with heap := h', toks := tk } := I.turnedNew (ch := [e, it]) hk hf hT new
    obtain ⟨⟨old', he'⟩, hit', _⟩ := st'
    refine ⟨.ref T, _, I1, rfl, ⟨T, x, rfl, I.hok.fresh hT, rfl, fun ys hy => by rw [I.tuple_inj hy hq]; exact hx⟩, ⟨⟨old', ?_⟩, hit', hne⟩, fun b hb => ?_⟩
    · have e1 : ((i + 1 : Nat) : Int) = (0 : Int) + ((i + 1 : Nat) : Int) := by omega
      rw [e1]
      exact he'
    · have hb' : b < s.heap.objs.size := by
        rcases (show b = e ∨ b = it by simpa using hb) with z | z
        · rw [z]; exact Heap.lt_size he
        · rw [z]; exact Heap.lt_size hoi
      rw [upd_ne (Nat.ne_of_lt (Nat.lt_of_lt_of_le hb' hT))]
      exact (hf b hb).1
  done := by
    intro X hP hw hK hc i pins s σ H E I hf st hg
    subst hP hw hK
    obtain ⟨⟨old, he⟩, hit, hne⟩ := st
    obtain ⟨xs, hq, hx⟩ := hg
    obtain ⟨its, rv, p, hz⟩ := I.tuple hq
    obtain ⟨oi, hoi, hci, hdi⟩ := id hit
    have n1 : a ≠ it := tupNe p hoi hci (by decide)
    have n2 : a ≠ e := tupNe p he rfl (by decide)
    have Wk := GoesN.enumFrom (prog := X.prog) (w := X.w) (A := X.A) (elts := elts) (x1 := kk) (pos := tpos) 0 (Draws.tuple (A := X.A.in1) (I.ok.hd hc) it a n1 its.toArray) e hne (by simp [hne, Ne.symm n2]) (by simp)
    have e0 : (0 : Int) + (i : Int) = (i : Int) := by omega
    have hs : its.toArray.size = i := by
      rw [List.size_toArray, ← rv.length]
      exact hx
    refine Wk.stops s _ E ?_ fun h' tk hk _ => I.turnedL (ch := [e, it]) hk hf
    rw [hs]
    exact ⟨⟨old, by rw [e0]; exact he⟩, hit, p⟩
  self := fun A i s Q E st h => by
    obtain ⟨⟨_, he⟩, _⟩ := st
    exact wpAny_pyIter_enum he h
def iEnumT (K : PySem.W.Frag) (ta : TA) : TI := fun σ H R => ta σ H fun vs H1 => ∃ a xs, vs = [.ref a] ∧ ((SqT K H1 a xs ∧ R (IteT K a) H1) ∨ (SqL K H1 a xs ∧ R (Ite K a) H1))
theorem pi_enumT {X : Cx} {e : Expr} {ta : TA} {p pos tpos : Pos} {elts : List Expr} {kk : Nat} (hg : Gl X "enumerate") (hm : X.mg "enumerate" = none) (ha : PA X [e] ta) (hs : starEach [e] X.env = [(false, eval e X.env)] := by rfl) :
    PI X (.Tuple elts kk tpos) (.Call (.Name "enumerate" p) [e] [] pos) (iEnumT X.K ta) := by
  have lists := pi_enum (pos := pos) (tpos := tpos) (elts := elts) (kk := kk) (p := p) hg hm (ta := fun σ H Q => ta σ H Q) ha hs
  refine ⟨fun pins s σ H R I h => ?_⟩
  refine Call_ (ld_blt I hg hm boot_enumerate (PyProof.Rows.callWith_type1 (thn (ha.run pos pins s σ H _ I h) fun us s1 ⟨vs, H1, I1, r1, q1⟩ => ?_) hs rfl))
  obtain ⟨a, xs, ex, hq⟩ := q1
  subst ex
  cases r1 with
  | cons r rr =>
    cases rr
    cases r
    rcases hq with ⟨hq, q⟩ | ⟨hq, q⟩
    · obtain ⟨its, rv, p', hz⟩ := I1.tuple hq
      refine dfEnumTuple p' fun h' he hit hk => wpAny_pyIter_enum he ?_
      have I2 : Inv X pins σ H1 { s1 with heap := h' } := I1.kept (t' := s1.toks) hk
      refine ⟨s1.heap.objs.size + 1, [s1.heap.objs.size + 1, s1.heap.objs.size], _, _, H1, rfl, I2, turn_enumT a (s1.heap.objs.size + 1) s1.heap.objs.size, ⟨⟨.none, he⟩, hit, Nat.succ_ne_self _⟩, fun b hb => ?_, q⟩
      have hle : s1.heap.objs.size ≤ b := by
        rcases (show b = s1.heap.objs.size + 1 ∨ b = s1.heap.objs.size by simpa using hb) with z | z
        · rw [z]; exact Nat.le_succ _
        · rw [z]; exact Nat.le_refl _
      exact I1.fpOk hle (I1.hok.fresh hle)
    · obtain ⟨its, rv, p', hz⟩ := I1.list hq
      refine call_enumerate_list p'.isList fun h' he hit hsz hk => wpAny_pyIter_enum he ?_
      have I2 : Inv X pins σ H1 { s1 with heap := h' } := I1.kept (t' := s1.toks) hk
      refine ⟨s1.heap.objs.size + 1, [s1.heap.objs.size + 1, s1.heap.objs.size], _, _, H1, rfl, I2, turn_enum a (s1.heap.objs.size + 1) s1.heap.objs.size, ⟨⟨.none, he⟩, hit, Nat.succ_ne_self _⟩, fun b hb => ?_, q⟩
      have hle : s1.heap.objs.size ≤ b := by
        rcases (show b = s1.heap.objs.size + 1 ∨ b = s1.heap.objs.size by simpa using hb) with z | z
        · rw [z]; exact Nat.le_succ _
        · rw [z]; exact Nat.le_refl _
      exact I1.fpOk hle (I1.hok.fresh hle)

/-! ### what is walked -/
section
variable {cl : Cl} {W : WX} {X : Cx} {tg e a b : Expr} {f fa fb : Ev} {p pos p2 pos2 : Pos}
theorem wk_list {G : Gm} {H : Hp} {ρ : Rho} {L : Store} {ad : Addr} {vs : List V} {xs : List D} (live : ∀ (i : Nat) (a : Addr), ρ[i]? = some (some a) → Mut (H a)) (h : ∀ H2 ρ2, Step H ρ H2 ρ2 → SqL G.K H2 ad vs) (inj : ∀ H2 ys, SqL G.K H2 ad vs → SqL G.K H2 ad ys → ys = vs) (r : RepL G H ρ xs vs) : Wk G H ρ (Itl G.K ad) xs := by
  refine ⟨fun H2 ρ2 L2 i d st ab hd => ?_, fun H2 ρ2 L2 st ab => ⟨vs, h H2 ρ2 st, by rw [r.length]; exact Nat.le_refl _⟩⟩
  obtain ⟨v, h1, h2⟩ := (r.step live st).get hd
  refine ⟨⟨vs, v, h H2 ρ2 st, h1⟩, fun x H3 hy => ?_⟩
  obtain ⟨rfl, hy⟩ := hy
  have e := hy vs (h H3 ρ2 st)
  rw [h1] at e
  cases e
  exact ⟨Step.refl _ _, ab, h2⟩
theorem sqL_inj {K : PySem.W.Frag} {H : Hp} {a : Addr} {o : Obj} {vs ys : List V} (h : H a = some (.frz o (.lst vs))) (hk : SqL K H a ys) (hn : K.lookup a = none ∨ ∃ z : SqL K H a ys, True) : True := trivial
theorem wk_frz {G : Gm} {H : Hp} {ρ : Rho} {ad : Addr} {o : Obj} {vs : List V} {xs : List D} (live : ∀ (i : Nat) (a : Addr), ρ[i]? = some (some a) → Mut (H a)) (h : H ad = some (.frz o (.lst vs))) (r : RepL G H ρ xs vs) : Wk G H ρ (Itl G.K ad) xs := by
  have hs : ∀ H2 ρ2, Step H ρ H2 ρ2 → H2 ad = some (.frz o (.lst vs)) := fun H2 ρ2 st => st.fr _ _ h nt_frz (notLive live h fun z => z)
  refine ⟨fun H2 ρ2 L2 i d st ab hd => ?_, fun H2 ρ2 L2 st ab => ⟨vs, .inl (.inr ⟨o, hs H2 ρ2 st⟩), by rw [r.length]; exact Nat.le_refl _⟩⟩
  obtain ⟨v, h1, h2⟩ := (r.step live st).get hd
  refine ⟨⟨vs, v, .inl (.inr ⟨o, hs H2 ρ2 st⟩), h1⟩, fun x H3 hy => ?_⟩
  obtain ⟨rfl, hy⟩ := hy
  have e := hy vs (.inl (.inr ⟨o, hs H3 ρ2 st⟩))
  rw [h1] at e
  cases e
  exact ⟨Step.refl _ _, ab, h2⟩
theorem wk_tup {G : Gm} {H : Hp} {ρ : Rho} {ad : Addr} {vs : List V} {xs : List D} (live : ∀ (i : Nat) (a : Addr), ρ[i]? = some (some a) → Mut (H a)) (h : SqT G.K H ad vs) (r : RepL G H ρ xs vs) : Wk G H ρ (Itt G.K ad) xs := by
  have hs : ∀ H2 ρ2, Step H ρ H2 ρ2 → SqT G.K H2 ad vs := fun H2 ρ2 st => SqT.step live st h
  refine ⟨fun H2 ρ2 L2 i d st ab hd => ?_, fun H2 ρ2 L2 st ab => ⟨vs, hs H2 ρ2 st, by rw [r.length]; exact Nat.le_refl _⟩⟩
  obtain ⟨v, h1, h2⟩ := (r.step live st).get hd
  refine ⟨⟨vs, v, hs H2 ρ2 st, h1⟩, fun x H3 hy => ?_⟩
  obtain ⟨rfl, hy⟩ := hy
  have e := hy vs (hs H3 ρ2 st)
  rw [h1] at e
  cases e
  exact ⟨Step.refl _ _, ab, h2⟩
/-- over a tuple, or a list that nobody changes -/
theorem pi_seq (he : PE X e (tE (gm cl X) W f)) : PI X tg e (fun σ H R => tE (gm cl X) W f σ H fun x H1 => ∃ ad, x = .ref ad ∧ ((∃ vs, SqT X.K H1 ad vs ∧ R (Itt X.K ad) H1) ∨ ∃ vs, SqL X.K H1 ad vs ∧ R (Itl X.K ad) H1)) := by
  refine ⟨fun pins s σ H R I h => ?_⟩
  refine thn (he.run pins s σ H _ I h) fun v s1 ⟨x, H1, I1, r1, q1⟩ => ?_
  obtain ⟨ad, rfl, q⟩ := q1
  cases r1
  rcases q with ⟨vs, hq, q⟩ | ⟨vs, hq, q⟩
  · obtain ⟨its, rv, pt, hz⟩ := I1.tuple hq
    refine wpAny_pyIter_tuple (show s1.heap.IsTuple ad its.toArray from pt) ?_
    refine ⟨s1.heap.objs.size, [s1.heap.objs.size], _, _, H1, rfl, I1.kept (t' := s1.toks) fun b o z => Heap.get?_push_of_some _ z, turn_tuple ad _, ⟨_, Heap.get?_push_size _ rfl, rfl, rfl⟩, fun b hb => ?_, q⟩
    rw [show b = s1.heap.objs.size by simpa using hb]
    exact I1.fpOk (Nat.le_refl _) (I1.hok.fresh (Nat.le_refl _))
  · obtain ⟨its, rv, pt, hz⟩ := I1.list hq
    refine wpAny_pyIter_list pt.isList ?_
    refine ⟨s1.heap.objs.size, [s1.heap.objs.size], _, _, H1, rfl, I1.kept (t' := s1.toks) fun b o z => Heap.get?_push_of_some _ z, turn_list ad _, ⟨_, Heap.get?_push_size _ rfl, rfl, rfl⟩, fun b hb => ?_, q⟩
    rw [show b = s1.heap.objs.size by simpa using hb]
    exact I1.fpOk (Nat.le_refl _) (I1.hok.fresh (Nat.le_refl _))
theorem di_seq (he : DE cl W X e f) : DI cl W X tg e (iSeq f) := by
  refine ⟨_, pi_seq he, fun σ H Rr ρ δ L hs ha h => ⟨ρ, δ, L, hs, ha, After.mono (After.andThen h) fun x H1 ρ1 L1 st1 a1 h1 v rv => ?_⟩⟩
  cases x with
  | tup xs =>
    obtain ⟨ad, vs, rfl, q1, q2⟩ := tup_sq rv
    exact ⟨ad, rfl, .inl ⟨vs, q1, now a1 h1 _ (wk_tup a1.live q1 q2)⟩⟩
  | lst xs =>
    cases rv with
    | lst q1 q2 => exact ⟨_, rfl, .inr ⟨_, .inl (.inr ⟨_, q1⟩), now a1 h1 _ (wk_frz a1.live q1 q2)⟩⟩
  | _ => exact (show False from h1).elim
theorem di_str (he : DE cl W X e f) : DI cl W X tg e (Df.iStr f) := by
  refine ⟨_, pi_str he, fun σ H Rr ρ δ L hs ha h => ⟨ρ, δ, L, hs, ha, After.mono (After.andThen h) fun x H1 ρ1 L1 st1 a1 h1 v rv => ?_⟩⟩
  cases x with
  | str z =>
    cases rv
    refine ⟨z, rfl, now a1 h1 _ ⟨fun H2 ρ2 L2 i d st ab hd => ?_, fun H2 ρ2 L2 st ab => ?_⟩⟩
    · rw [List.getElem?_map] at hd
      cases ec : z.cps.toList[i]? with
      | none => rw [ec] at hd; cases hd
      | some c =>
        rw [ec] at hd
        cases hd
        have ec' : z.cps[i]? = some c := by simpa using ec
        refine ⟨(Array.getElem?_eq_some_iff.mp ec').1, fun x H3 hy => ?_⟩
        obtain ⟨rfl, c', e1, rfl⟩ := hy
        rw [ec'] at e1
        cases e1
        exact ⟨Step.refl _ _, ab, .str _⟩
    · show z.cps.size ≤ _
      simp
  | _ => exact (show False from h1).elim
theorem wk_up {G : Gm} {H : Hp} {ρ : Rho} (lo : Int) (n : Nat) : Wk G H ρ (Itr lo n) (rngU lo n) := by
  refine ⟨fun H2 ρ2 L2 i d st ab hd => ?_, fun H2 ρ2 L2 st ab => by show n ≤ _; simp [rngU]⟩
  unfold rngU at hd
  rw [List.getElem?_map] at hd
  by_cases hi : i < n
  · rw [List.getElem?_range hi] at hd
    cases hd
    refine ⟨hi, fun x H3 hy => ?_⟩
    obtain ⟨rfl, rfl⟩ := hy
    exact ⟨Step.refl _ _, ab, .int _⟩
  · rw [List.getElem?_eq_none (by simpa using hi)] at hd; cases hd
theorem wk_down {G : Gm} {H : Hp} {ρ : Rho} (lo : Int) (n : Nat) : Wk G H ρ (Itc lo (-1) n) (rngD lo n) := by
  refine ⟨fun H2 ρ2 L2 i d st ab hd => ?_, fun H2 ρ2 L2 st ab => by show n ≤ _; simp [rngD]⟩
  unfold rngD at hd
  rw [List.getElem?_map] at hd
  by_cases hi : i < n
  · rw [List.getElem?_range hi] at hd
    cases hd
    refine ⟨hi, fun x H3 hy => ?_⟩
    obtain ⟨rfl, rfl⟩ := hy
    refine ⟨Step.refl _ _, ab, ?_⟩
    have e : lo + (i : Int) * -1 = lo - (i : Int) := by omega
    rw [e]
    exact .int _
  · rw [List.getElem?_eq_none (by simpa using hi)] at hd; cases hd
theorem small_of {i : Int} (h : small i = true) : -(16000000 : Int) ≤ i ∧ i ≤ 16000000 := by
  unfold small at h
  rw [Bool.and_eq_true, decide_eq_true_eq, decide_eq_true_eq] at h
  exact h
theorem di_rng1 (hm : X.mg "range" = none) (he : DE cl W X e f) (hg : Gl X "range" := by rfl) (hs : starEach [e] X.env = [(false, eval e X.env)] := by rfl) : DI cl W X tg (.Call (.Name "range" p) [e] [] pos) (Df.iRng1 f) := by
  refine ⟨_, pi_range1 hg hm (pa_cons he pa_nil hs) hs, fun σ H Rr ρ δ L hs ha h => ⟨ρ, δ, L, hs, ha, After.mono (After.andThen h) fun x H1 ρ1 L1 st1 a1 h1 v rv => ?_⟩⟩
  cases x with
  | int n =>
    cases rv
    by_cases c : small n = true
    · simp only [c, if_true] at h1
      obtain ⟨c1, c2⟩ := small_of c
      exact ⟨n, rfl, by omega, by omega, now a1 h1 _ (wk_up 0 _)⟩
    · simp only [c, if_false] at h1; exact (show False from h1).elim
  | _ => exact (show False from h1).elim
theorem di_rng2 (hm : X.mg "range" = none) (ha : DE cl W X a fa) (hb : DE cl W X b fb) (hg : Gl X "range" := by rfl) (hs : starEach [a, b] X.env = [(false, eval a X.env), (false, eval b X.env)] := by rfl) (hs2 : starEach [b] X.env = [(false, eval b X.env)] := by rfl) : DI cl W X tg (.Call (.Name "range" p) [a, b] [] pos) (Df.iRng2 fa fb) := by
  refine ⟨_, pi_range2 hg hm (pa_cons ha (pa_cons hb pa_nil hs2) (by rw [hs, hs2])) hs hs2, fun σ H Rr ρ δ L hs ha h => ⟨ρ, δ, L, hs, ha, After.mono (After.andThen h) fun x H1 ρ1 L1 st1 a1 h1 v rv => ⟨ρ1, δ, L1, hs.step ha.live st1, a1, After.mono (After.andThen h1) fun y H2 ρ2 L2 st2 a2 h2 u ru => ?_⟩⟩⟩
  cases x with
  | int m =>
    cases rv
    cases y with
    | int n =>
      cases ru
      by_cases c : (small m && small n) = true
      · simp only [c, if_true] at h2
        rw [Bool.and_eq_true] at c
        obtain ⟨c1, c2⟩ := small_of c.1
        obtain ⟨c3, c4⟩ := small_of c.2
        exact ⟨m, n, rfl, ⟨by omega, by omega, by omega, by omega⟩, now a2 h2 _ (wk_up m _)⟩
      · simp only [c, if_false] at h2; exact (show False from h2).elim
    | _ => exact (show False from h2).elim
  | _ => exact (show False from h2).elim
/-- range(a, b, -1) -/
theorem di_rngD {m1 : Pos} {k1} {pn : Pos} (hm : X.mg "range" = none) (ha : DE cl W X a fa) (hb : DE cl W X b fb) (hg : Gl X "range" := by rfl)
    (hs : starEach [a, b, .UnaryOp .USub (.Constant (.int 1) k1 m1) pn] X.env = (false, eval a X.env) :: starEach [b, .UnaryOp .USub (.Constant (.int 1) k1 m1) pn] X.env := by rfl)
    (hs2 : starEach [b, .UnaryOp .USub (.Constant (.int 1) k1 m1) pn] X.env = (false, eval b X.env) :: starEach [.UnaryOp .USub (.Constant (.int 1) k1 m1) pn] X.env := by rfl)
    (hpl : (backTo pos (starEach [b, .UnaryOp .USub (.Constant (.int 1) k1 m1) pn] X.env)).any (·.1) = false := by rfl) :
    DI cl W X tg (.Call (.Name "range" p) [a, b, .UnaryOp .USub (.Constant (.int 1) k1 m1) pn] [] pos) (iRngD fa fb) := by
  refine ⟨_, pi_range3 hg hm (pa_cons ha (pa_cons hb (pa_cons (pe_un un_neg pe_int) pa_nil) hs2) hs) hs hpl, fun σ H Rr ρ δ L hs ha h => ⟨ρ, δ, L, hs, ha, After.mono (After.andThen h) fun x H1 ρ1 L1 st1 a1 h1 v rv => ⟨ρ1, δ, L1, hs.step ha.live st1, a1, After.mono (After.andThen h1) fun y H2 ρ2 L2 st2 a2 h2 u ru => ?_⟩⟩⟩
  cases x with
  | int m =>
    cases rv
    cases y with
    | int n =>
      cases ru
      by_cases c : (small m && small n) = true
      · simp only [c, if_true] at h2
        rw [Bool.and_eq_true] at c
        obtain ⟨c1, c2⟩ := small_of c.1
        obtain ⟨c3, c4⟩ := small_of c.2
        exact ⟨1, rfl, m, n, -1, (m - n).toNat, rfl, RgC.neg (by omega) (by omega) (by omega) (by omega), now a2 h2 _ (wk_down m _)⟩
      · simp only [c, if_false] at h2; exact (show False from h2).elim
    | _ => exact (show False from h2).elim
  | _ => exact (show False from h2).elim
/-- reversed(range(n)) -/
theorem di_revR (hm : X.mg "reversed" = none) (hm2 : X.mg "range" = none) (he : DE cl W X e f) (hg : Gl X "reversed" := by rfl) (hg2 : Gl X "range" := by rfl)
    (hs : starEach [.Call (.Name "range" p2) [e] [] pos2] X.env = (false, eval (.Call (.Name "range" p2) [e] [] pos2) X.env) :: starEach [] X.env := by rfl) (hs2 : starEach [e] X.env = (false, eval e X.env) :: starEach [] X.env := by rfl) :
    DI cl W X tg (.Call (.Name "reversed" p) [.Call (.Name "range" p2) [e] [] pos2] [] pos) (Df.iRevR f) := by
  refine ⟨_, pi_revR hg hm (prg_1 hg2 hm2 he hs2) hs, fun σ H Rr ρ δ L hs ha h => ⟨ρ, δ, L, hs, ha, After.mono (After.andThen h) fun x H1 ρ1 L1 st1 a1 h1 v rv => ?_⟩⟩
  cases x with
  | int n =>
    cases rv
    by_cases c : small n = true
    · simp only [c, if_true] at h1
      obtain ⟨c1, c2⟩ := small_of c
      refine ⟨n, rfl, by omega, by omega, by omega, by omega, now a1 h1 _ ?_⟩
      have e1 : (0 : Int) + (((n - 0).toNat : Nat) : Int) - 1 = (((n - 0).toNat : Nat) : Int) - 1 := by omega
      by_cases hn : 0 < n
      · have e2 : (0 : Int) + (((n - 0).toNat : Nat) : Int) - 1 = n - 1 := by omega
        have e3 : (n - 0).toNat = n.toNat := by omega
        rw [e2, e3]
        exact wk_down (n - 1) _
      · have e3 : (n - 0).toNat = 0 := by omega
        have e4 : n.toNat = 0 := by omega
        rw [e3, e4]
        refine ⟨fun H2 ρ2 L2 i d st ab hd => by simp [rngD] at hd, fun H2 ρ2 L2 st ab => by show 0 ≤ _; exact Nat.zero_le _⟩
    · simp only [c, if_false] at h1; exact (show False from h1).elim
  | _ => exact (show False from h1).elim
theorem number_get : ∀ (xs : List D) (k i : Nat) (d : D), (number k xs)[i]? = some d → ∃ x, xs[i]? = some x ∧ d = .tup [.int ((k + i : Nat) : Int), x]
  | [], _, _, _, h => by simp [number] at h
  | x :: xs, k, 0, d, h => by simp [number] at h; exact ⟨x, rfl, by rw [← h]; rfl⟩
  | x :: xs, k, i + 1, d, h => by
    obtain ⟨y, h1, h2⟩ := number_get xs (k + 1) i d (by simpa [number] using h)
    exact ⟨y, by simpa using h1, by rw [h2]; congr 3; omega⟩
theorem number_len : ∀ (xs : List D) (k : Nat), (number k xs).length = xs.length
  | [], _ => rfl
  | x :: xs, k => by simp [number, number_len xs]
theorem di_enum {elts : List Expr} {kk : Nat} {tpos : Pos} (hm : X.mg "enumerate" = none) (he : DE cl W X e f) (hg : Gl X "enumerate" := by rfl) (hs : starEach [e] X.env = [(false, eval e X.env)] := by rfl) :
    DI cl W X (.Tuple elts kk tpos) (.Call (.Name "enumerate" p) [e] [] pos) (Df.iEnum f) := by
  refine ⟨_, pi_enumT hg hm (pa_cons he pa_nil hs) hs, fun σ H Rr ρ δ L hs ha h => ⟨ρ, δ, L, hs, ha, After.mono (After.andThen h) fun x H1 ρ1 L1 st1 a1 h1 v rv => ?_⟩⟩
  cases x with
  | tup xs =>
    obtain ⟨ad, vs, rfl, q1, q2⟩ := tup_sq rv
    refine ⟨ad, vs, rfl, .inl ⟨q1, now a1 h1 _ ⟨fun H2 ρ2 L2 i d st ab hd => ?_, fun H2 ρ2 L2 st ab => ⟨vs, SqT.step a1.live st q1, by rw [number_len, q2.length]⟩⟩⟩⟩
    obtain ⟨y, hy, rfl⟩ := number_get xs 0 i d hd
    obtain ⟨w, w1, w2⟩ := (q2.step a1.live st).get hy
    have q3 : SqT X.K H2 ad vs := SqT.step a1.live st q1
    refine ⟨⟨vs, w, q3, w1⟩, fun z H3 hz => ?_⟩
    obtain ⟨T, x', rfl, hT, rfl, hall⟩ := hz
    have e := hall vs q3
    rw [w1] at e
    cases e
    have e0 : ((0 + i : Nat) : Int) = (i : Int) := by omega
    rw [e0]
    exact ⟨Step.grow hT, ab.grow hT, .tup (.inl (.inl upd_same)) (.cons (.int _) (.cons (w2.step ab.live (Step.grow hT)) .nil))⟩
  | lst xs =>
    cases rv with
    | @lst ad ob vs _ q1 q2 =>
      refine ⟨ad, vs, rfl, .inr ⟨.inl (.inr ⟨ob, q1⟩), now a1 h1 _ ⟨fun H2 ρ2 L2 i d st ab hd => ?_, fun H2 ρ2 L2 st ab => ⟨vs, .inl (.inr ⟨ob, st.fr _ _ q1 nt_frz (notLive a1.live q1 fun z => z)⟩), by rw [number_len, q2.length]; exact Nat.le_refl _⟩⟩⟩⟩
      obtain ⟨y, hy, rfl⟩ := number_get xs 0 i d hd
      obtain ⟨w, w1, w2⟩ := (q2.step a1.live st).get hy
      have q3 : SqL X.K H2 ad vs := .inl (.inr ⟨ob, st.fr _ _ q1 nt_frz (notLive a1.live q1 fun z => z)⟩)
      refine ⟨⟨vs, w, q3, w1⟩, fun z H3 hz => ?_⟩
      obtain ⟨T, x', rfl, hT, rfl, hall⟩ := hz
      have e := hall vs q3
      rw [w1] at e
      cases e
      have e0 : ((0 + i : Nat) : Int) = (i : Int) := by omega
      rw [e0]
      exact ⟨Step.grow hT, ab.grow hT, .tup (.inl (.inl upd_same)) (.cons (.int _) (.cons (w2.step ab.live (Step.grow hT)) .nil))⟩
  | _ => exact (show False from h1).elim
end
end Df
namespace Df
open PySem PySem.Spec PyProof.Rows L2

/-! ### a heap without a list that is being made -/
def rm (H : Hp) (p : Addr) : Hp := fun b => if b = p then none else H b
theorem rm_same {H : Hp} {p : Addr} : rm H p p = none := if_pos rfl
theorem rm_ne {H : Hp} {p b : Addr} (h : b ≠ p) : rm H p b = H b := if_neg h
theorem upd_rm {H : Hp} {p : Addr} {o : HO} (h : H p = some o) : upd (rm H p) p o = H := by
  funext b
  by_cases e : b = p
  · subst e; rw [upd_same, h]
  · rw [upd_ne e, rm_ne e]
section
variable {G : Gm} {H H' : Hp} {ρ ρ' : Rho} {L : Store} {p : Addr} {zs : List V}
theorem rm_keep {b : Addr} {o : HO} (hp : H p = some (.lst zs)) (h : H b = some o) (n : o ≠ .lst zs) : rm H p b = some o := by
  rw [rm_ne (fun e => n (by rw [e, hp] at h; exact (Option.some.inj h).symm))]
  exact h
theorem SqT.rm {K : PySem.W.Frag} {a : Addr} {vs : List V} (hp : H p = some (.lst zs)) (h : SqT K H a vs) : SqT K (rm H p) a vs := by
  rcases h with (h | ⟨o, h⟩) | h
  · exact .inl (.inl (rm_keep hp h (by simp)))
  · exact .inl (.inr ⟨o, rm_keep hp h (by simp)⟩)
  · exact .inr h
mutual
theorem Rep.rm (hp : H p = some (.lst zs)) : ∀ {d : D} {v : V}, Rep G H ρ d v → Rep G (rm H p) ρ d v
  | _, _, .non => .non
  | _, _, .bl b => .bl b
  | _, _, .int i => .int i
  | _, _, .str x => .str x
  | _, _, .tup h r => .tup (SqT.rm hp h) (RepL.rm hp r)
  | _, _, .lst h r => .lst (rm_keep hp h (by simp)) (RepL.rm hp r)
  | _, _, .dct h r => .dct (rm_keep hp h (by simp)) (RepE.rm hp r)
  | _, _, .scr (.inl ⟨o, h⟩) => .scr (.inl ⟨o, rm_keep hp h (by simp)⟩)
  | _, _, .scr (.inr h) => .scr (.inr h)
  | _, _, .ref h k => .ref h k
  | _, _, .xc h k => .xc h fun p hp' => rm_keep hp (k p hp') (by simp)
theorem RepL.rm (hp : H p = some (.lst zs)) : ∀ {ds : List D} {vs : List V}, RepL G H ρ ds vs → RepL G (rm H p) ρ ds vs
  | _, _, .nil => .nil
  | _, _, .cons r t => .cons (Rep.rm hp r) (RepL.rm hp t)
theorem RepE.rm (hp : H p = some (.lst zs)) : ∀ {kvs : List (D × D)} {es : List DictEntry}, RepE G H ρ kvs es → RepE G (rm H p) ρ kvs es
  | _, _, .nil => .nil
  | _, _, .cons g a b c d e t => .cons g (Rep.rm hp a) b c (Rep.rm hp d) e (RepE.rm hp t)
end
theorem AbsL.rm (A : AbsL G H ρ L) (hp : H p = some (.lst zs)) (hn : ∀ i : Nat, ρ[i]? ≠ some (some p)) : AbsL G (rm H p) ρ L := by
  have ne : ∀ (i : Nat) (a : Addr), ρ[i]? = some (some a) → a ≠ p := fun i a h e => hn i (e ▸ h)
  refine ⟨A.len, fun i o h => ?_, fun i a h => by rw [rm_ne (ne i a h)]; exact A.live i a h, A.inj, fun y hy => ?_⟩
  rotate_left
  · obtain ⟨ps, e1, e2, e3⟩ := A.tab y hy
    exact ⟨ps, rm_keep hp e1 (by simp), e2, fun pos cv hc => let ⟨c, g1, g2⟩ := e3 pos cv hc; ⟨c, g1, rm_keep hp g2 (by unfold LamX.CodeO; simp)⟩⟩
  obtain ⟨sl, h1, h2⟩ := A.obj i o h
  refine ⟨sl, h1, ?_⟩
  cases o with
  | dead => exact h2
  | lst xs => obtain ⟨a, vs, e1, e2, e3⟩ := h2; exact ⟨a, vs, e1, by rw [rm_ne (ne i a (e1 ▸ h1))]; exact e2, e3.rm hp⟩
  | dct kvs => obtain ⟨a, es, ep, e1, e2, e3⟩ := h2; exact ⟨a, es, ep, e1, by rw [rm_ne (ne i a (e1 ▸ h1))]; exact e2, e3.rm hp⟩
  | ins c fs =>
    obtain ⟨a, dx, fs', e1, e2, e3, e4⟩ := h2
    exact ⟨a, dx, fs', e1, by rw [rm_ne (ne i a (e1 ▸ h1))]; exact e2, rm_keep hp e3 (by simp), Paired.mapP e4 fun p q z => ⟨z.1, z.2.rm hp⟩⟩
theorem Step.rm {o : HO} (hp : H p = none) (s : Step (upd H p o) ρ H' ρ') : Step H ρ (rm H' p) ρ' where
  len := s.len
  old := s.old
  new := fun i a u hi h hu => by
    have e : a ≠ p := ne_of_none hu hp
    exact s.new i a u hi h (by rw [upd_ne e]; exact hu)
  fr := fun a u h m n => by
    have e : a ≠ p := ne_of_none h hp
    rw [rm_ne e]
    exact s.fr a u (by rw [upd_ne e]; exact h) m n
  dom := fun a u h m => by
    have e : a ≠ p := ne_of_none h hp
    rw [rm_ne e]
    exact s.dom a u (by rw [upd_ne e]; exact h) m
theorem Step.notNew {o : HO} (no : Nt o) (s : Step (upd H p o) ρ H' ρ') (hn : ∀ i : Nat, ρ[i]? ≠ some (some p)) : ∀ i : Nat, ρ'[i]? ≠ some (some p) := fun i h => by
  by_cases hi : i < ρ.length
  · exact hn i (s.old i p hi h)
  · exact s.new i p o (Nat.le_of_not_lt hi) h upd_same no
theorem notLiveNone (live : ∀ (i : Nat) (a : Addr), ρ[i]? = some (some a) → Mut (H a)) (hp : H p = none) : ∀ i : Nat, ρ[i]? ≠ some (some p) := fun i h => by
  have q := live i p h
  rw [hp] at q
  exact q
theorem SlOk.wipe {σ : L2.St} {δ : Sl} (h : SlOk G H ρ σ δ) : ∀ vs : List Nat, SlOk G H ρ (L2.wipe σ vs) (Df.wipe δ vs)
  | [] => h
  | v :: vs => (SlOk.wipe h vs).put
end

/-! ### comprehensions -/
/-- a clause's test -/
inductive DTs (cl : Cl) (X : Cx) : List Expr → Tv → Prop
  | nil : DTs cl X [] Df.tYes
  | one {c : Expr} {t : Tv} (h : DT cl W0 X c t) : DTs cl X [c] t
section
variable {cl : Cl} {W : WX} {X : Cx}
theorem DTs.pts {ifs : List Expr} {t : Tv} (h : DTs cl X ifs t) : PTs X ifs (tT (gm cl X) W0 t) := by
  cases h with
  | nil => exact ⟨fun pins s σ H Q I h => pts_nil.run pins s σ H Q I (by obtain ⟨ρ, δ, L, hs, ha, h⟩ := h; exact h H ρ (Step.refl _ _) ha)⟩
  | one h => exact pts_one h
theorem After.step {α : Type} {G : Gm} {W : WX} {σ : L2.St} {ρ ρ1 : Rho} {H H1 : Hp} {r : R α} {Q : α → Hp → Rho → Store → Prop} (st : Step H ρ H1 ρ1) (h : After G W σ ρ H r Q) : After G W σ ρ1 H1 r Q := by
  cases r with
  | ok a L => exact fun H' ρ' s => h H' ρ' (st.trans s)
  | err x L => exact fun cls dx H' ρ' s => h cls dx H' ρ' (st.trans s)
  | bad => exact h
/-- the same by the heap without the list that is being made -/
theorem After.hid {α β : Type} {G : Gm} {σ σ4 : L2.St} {ρ : Rho} {Hv H3 : Hp} {p : Addr} {o : HO} {r : R α} {f : α → Store → R β} {Q : β → Hp → Rho → Store → Prop} (hp : Hv p = none) (s3 : Step (upd Hv p o) ρ H3 ρ)
    (h : After G W σ ρ Hv (r.noErr.andThen f) Q) : After G W0 σ4 ρ H3 r fun a H5 ρ5 L5 => Step Hv ρ (rm H5 p) ρ5 ∧ After G W σ ρ5 (rm H5 p) (f a L5) Q := by
  cases r with
  | ok a L =>
    intro H5 ρ5 st5 ab5
    have s5 : Step Hv ρ (rm H5 p) ρ5 := Step.rm hp (s3.trans st5)
    exact ⟨s5, After.step s5 (show After G W σ ρ Hv (f a L) Q from h)⟩
  | err x L => exact (show False from h).elim
  | bad => exact (show False from h).elim
theorem wipe_idem (σ : L2.St) : ∀ vs : List Nat, L2.wipe (L2.wipe σ vs) vs = L2.wipe σ vs
  | [] => rfl
  | v :: vs => by
    show L2.wipe ((L2.wipe σ vs).set v none) (v :: vs) = (L2.wipe σ vs).set v none
    rw [wipe_set List.mem_cons_self]
    show (L2.wipe (L2.wipe σ vs) vs).set v none = _
    rw [wipe_idem σ vs]
theorem lc_read {g : TG} {wi : TI} {tg : Tg} {tt : Tv} {te : Ev} {it : Iv} {own : List Nat} (hsl : ∀ i ∈ tg.slots, i ∈ own)
    (hwi : ∀ (σ : L2.St) (H : Hp) (Rr : It → Hp → Prop) (ρ : Rho) (δ : Sl) (L : Store), SlOk (gm cl X) H ρ σ δ → AbsL (gm cl X) H ρ L →
      After (gm cl X) W σ ρ H (it δ L) (fun xs H' ρ' L' => ∀ J, Wk (gm cl X) H' ρ' J xs → Rr J H') → wi σ H Rr)
    (hgd : ∀ (H : Hp) (ρ : Rho) (σ : L2.St) (δ δ' : Sl) (d : D) (v : V) (Q : L2.St → Hp → Prop), SlOk (gm cl X) H ρ σ δ → Rep (gm cl X) H ρ d v → tg.put d δ = some δ' →
      (∀ σ', SlOk (gm cl X) H ρ σ' δ' → (∀ vs : List Nat, (∀ i ∈ tg.slots, i ∈ vs) → L2.wipe σ' vs = L2.wipe σ vs) → Q σ' H) → g v σ H Q)
    {σ : L2.St} {H : Hp} {Q Q0 : VK} {al : List D → Store → R D} (hal : ∀ (H : Hp) (ρ : Rho) (L : Store) (xs : List D) (vs : List V) (p : Addr), AbsL (gm cl X) H ρ L → RepL (gm cl X) H ρ xs vs → H p = none →
      After (gm cl X) W σ ρ H (al xs L) (fun d H' ρ' _ => ∀ w, Rep (gm cl X) H' ρ' d w → Q0 w H') → Q (.ref p) (upd H p (.lst vs)))
    (h : tE (gm cl X) W (fun δ L => (it δ L).andThen fun xs L => if xs.length ≤ most then (lcL tg tt te (Df.wipe δ own) xs [] L).andThen fun ys L => al ys L else .bad) σ H Q0) :
    tLc wi g (tT (gm cl X) W0 tt) (tE (gm cl X) W0 te) own σ H Q := by
  obtain ⟨ρ, δ, L, hs, ha, h⟩ := h
  refine hwi σ H _ ρ δ L hs ha (After.mono (After.andThen h) fun xs H1 ρ1 L1 st1 a1 h1 J wk P hP => ?_)
  have hs1 := hs.step ha.live st1
  by_cases hz : xs.length ≤ most
  · rw [if_pos hz] at h1
    refine ⟨fun i m Hc => m = xs.length - i ∧ i ≤ xs.length ∧ ∃ Hv ρ2 Lb acc accV, Hv P = none ∧ Hc = upd Hv P (.lst accV) ∧ Step H1 ρ1 Hv ρ2 ∧ AbsL (gm cl X) Hv ρ2 Lb ∧ RepL (gm cl X) Hv ρ2 acc accV ∧ acc.length ≤ i ∧
        After (gm cl X) W σ ρ2 Hv ((lcL tg tt te (Df.wipe δ own) (xs.drop i) acc Lb).andThen fun ys L => al ys L) (fun d H' ρ' _ => ∀ v, Rep (gm cl X) H' ρ' d v → Q0 v H'),
      ⟨xs.length, by simp, Nat.zero_le _, H1, ρ1, L1, [], [], hP, rfl, Step.refl _ _, a1, .nil, Nat.le_refl _, h1⟩, ?_⟩
    rintro i m Hc ⟨rfl, hi, Hv, ρ2, Lb, acc, accV, hvP, rfl, st2, a2, racc, hln, h2⟩
    have hnl : ∀ i : Nat, ρ2[i]? ≠ some (some P) := notLiveNone a2.live hvP
    by_cases hlt : i < xs.length
    · have e : xs.drop i = xs[i] :: xs.drop (i + 1) := List.drop_eq_getElem_cons hlt
      have hx : xs[i]? = some xs[i] := List.getElem?_eq_getElem hlt
      have stc : Step Hv ρ2 (upd Hv P (.lst accV)) ρ2 := Step.grow hvP
      have ac : AbsL (gm cl X) (upd Hv P (.lst accV)) ρ2 Lb := a2.grow hvP
      obtain ⟨go, yl⟩ := wk.go _ ρ2 Lb i _ (st2.trans stc) ac hx
      refine .inr ⟨go, fun Hc' => ∃ Hv ρ2 Lb acc accV, Hv P = none ∧ Hc' = upd Hv P (.lst accV) ∧ Step H1 ρ1 Hv ρ2 ∧ AbsL (gm cl X) Hv ρ2 Lb ∧ RepL (gm cl X) Hv ρ2 acc accV ∧ acc.length ≤ i + 1 ∧
        After (gm cl X) W σ ρ2 Hv ((lcL tg tt te (Df.wipe δ own) (xs.drop (i + 1)) acc Lb).andThen fun ys L => al ys L) (fun d H' ρ' _ => ∀ v, Rep (gm cl X) H' ρ' d v → Q0 v H'),
        fun Hc' q => ⟨xs.length - (i + 1), by omega, rfl, hlt, q⟩, fun x H3 hy => ?_⟩
      obtain ⟨s3, a3, r3⟩ := yl x H3 hy
      have hs3 : SlOk (gm cl X) H3 ρ2 (L2.wipe σ own) (Df.wipe δ own) := (((hs1.step a1.live st2).step a2.live stc).step ac.live s3).wipe own
      rw [e] at h2
      cases ep : tg.put xs[i] (Df.wipe δ own) with
      | none =>
        have h3 : After (gm cl X) W σ ρ2 Hv ((match tg.put xs[i] (Df.wipe δ own) with
          | none => .bad
          | some δ1 => (tt δ1 Lb).noErr.andThen fun b L => if b = true then (te δ1 L).noErr.andThen fun d L => lcL tg tt te (Df.wipe δ own) (xs.drop (i + 1)) (acc ++ [d]) L else lcL tg tt te (Df.wipe δ own) (xs.drop (i + 1)) acc L : R (List D)).andThen fun ys L => al ys L) _ := h2
        rw [ep] at h3
        exact (show False from h3).elim
      | some δ1 =>
        have h3 : After (gm cl X) W σ ρ2 Hv ((match tg.put xs[i] (Df.wipe δ own) with
          | none => .bad
          | some δ1 => (tt δ1 Lb).noErr.andThen fun b L => if b = true then (te δ1 L).noErr.andThen fun d L => lcL tg tt te (Df.wipe δ own) (xs.drop (i + 1)) (acc ++ [d]) L else lcL tg tt te (Df.wipe δ own) (xs.drop (i + 1)) acc L : R (List D)).andThen fun ys L => al ys L) _ := h2
        rw [ep] at h3
        have assoc : ∀ {α β γ : Type} (r : R α) (f : α → Store → R β) (g : β → Store → R γ), (r.noErr.andThen f).andThen g = r.noErr.andThen fun a L => (f a L).andThen g := by
          intro α β γ r f g
          cases r <;> rfl
        have h3' := h3
        simp only [] at h3'
        rw [assoc] at h3'
        refine hgd H3 ρ2 (L2.wipe σ own) (Df.wipe δ own) δ1 _ x _ hs3 r3 ep fun σ4 sl4 hw => ⟨by rw [hw own hsl, wipe_idem], ρ2, δ1, Lb, sl4, a3, After.mono (After.hid (σ4 := σ4) hvP s3 h3') fun b H5 ρ5 L5 st5 a5 ⟨sv5, h5⟩ => ?_⟩
        have hn5 : ∀ i : Nat, ρ5[i]? ≠ some (some P) := Step.notNew nt_lst (s3.trans st5) hnl
        have hP5 : H5 P = some (.lst accV) := (s3.trans st5).fr P _ upd_same nt_lst hnl
        cases b with
        | true =>
          rw [if_pos rfl] at h5
          rw [assoc] at h5
          have e5 : upd (rm H5 P) P (.lst accV) = H5 := upd_rm hP5
          refine iteT ⟨ρ5, δ1, L5, sl4.step a3.live st5, a5, After.mono (After.hid (σ4 := σ4) (o := .lst accV) rm_same (by rw [e5]; exact Step.refl _ _) h5) fun d H6 ρ6 L6 st6 a6 ⟨sv6, h6⟩ v rd => ?_⟩
          have hP6 : H6 P = some (.lst accV) := st6.fr P _ hP5 nt_lst hn5
          have hn6 : ∀ i : Nat, ρ6[i]? ≠ some (some P) := Step.notNew (H := rm H5 P) (o := .lst accV) nt_lst (by rw [e5]; exact st6) hn5
          have live5 : ∀ (i : Nat) (a : Addr), ρ5[i]? = some (some a) → Mut (rm H5 P a) := (a5.rm hP5 hn5).live
          refine ⟨accV, hP6, ?_, rm H6 P, ρ6, L6, acc ++ [d], accV ++ [v], rm_same, ?_, (st2.trans sv5).trans sv6, a6.rm hP6 hn6, ((racc.step a2.live sv5).step live5 sv6).append (.cons (rd.rm hP6) .nil), ?_, h6⟩
          · rw [← racc.length]
            exact most_lt (by omega)
          · funext b
            by_cases eb : b = P
            · subst eb; rw [upd_same, upd_same]
            · rw [upd_ne eb, upd_ne eb, rm_ne eb]
          · rw [List.length_append, List.length_singleton]; omega
        | false =>
          rw [if_neg Bool.false_ne_true] at h5
          exact iteF ⟨rm H5 P, ρ5, L5, acc, accV, rm_same, (upd_rm hP5).symm, st2.trans sv5, a5.rm hP5 hn5, racc.step a2.live sv5, by omega, h5⟩
    · have e : i = xs.length := by omega
      subst e
      rw [List.drop_length] at h2
      have h3 : After (gm cl X) W σ ρ2 Hv (al acc Lb) (fun d H' ρ' _ => ∀ v, Rep (gm cl X) H' ρ' d v → Q0 v H') := h2
      refine .inl ⟨wk.stop _ ρ2 Lb (st2.trans (Step.grow hvP)) (a2.grow hvP), hal _ _ _ _ _ _ a2 racc hvP h3⟩
  · rw [if_neg hz] at h1; exact h1.elim
/-- what a comprehension's block asks -/
abbrev Blk (X : Cx) (scope : Scope) (Pr : Cx → Prop) : Prop := ∀ (s : Shared) (H : Hp) (C : Addr) (cl : List (Str × Addr)) (fp : List Addr), Pr (X.blk s H scope (compEnvC scope cl C X.env) fp)
theorem de_lc {elt tg iter : Expr} {ifs : List Expr} {scope : Scope} {pos : Pos} {it : Iv} {t : Tg} {tt : Tv} {te : Ev} (own : List (Str × Nat)) (hc : X.calm = true) (hN : X.N.Nodup) (hi : DI cl W X tg iter it) (ok : BlkOk X.N X.env.scope scope own)
    (g : TG) (hg : Blk X scope fun Y => PG Y tg g) (hgd : ∀ (H : Hp) (ρ : Rho) (σ : L2.St) (δ δ' : Sl) (d : D) (v : V) (Q : L2.St → Hp → Prop), SlOk (gm cl X) H ρ σ δ → Rep (gm cl X) H ρ d v → t.put d δ = some δ' →
      (∀ σ', SlOk (gm cl X) H ρ σ' δ' → (∀ vs : List Nat, (∀ i ∈ t.slots, i ∈ vs) → L2.wipe σ' vs = L2.wipe σ vs) → Q σ' H) → g v σ H Q)
    (hsl : ∀ i ∈ t.slots, i ∈ own.map (·.2)) (ht : Blk X scope fun Y => DTs cl Y ifs tt) (he : Blk X scope fun Y => DE cl W0 Y elt te) (hs : ∀ x, foldedSetIterable iter X.env x = pure x := by intro _; rfl) :
    DE cl W X (.ListComp elt [⟨tg, iter, ifs, 0⟩] scope pos) (eLc it (own.map (·.2)) t tt te) := by
  obtain ⟨wi, hi, hwi⟩ := hi
  exact imp_e (pe_lc (tt := tT (gm cl X) W0 tt) (te := tE (gm cl X) W0 te) hc hN hi ok hg (fun s H C c fp => (ht s H C c fp).pts) (fun s H C c fp => he s H C c fp) hs) fun σ H Q h => lc_read (al := fun xs L => alloc (.lst xs) L) hsl hwi hgd (fun _ _ _ _ _ _ ab r hp h => alloc_lst ab r hp h) h
/-- targets of a block: a name, a tuple of names -/
theorem gd_name (i : Nat) : ∀ (H : Hp) (ρ : Rho) (σ : L2.St) (δ δ' : Sl) (d : D) (v : V) (Q : L2.St → Hp → Prop), SlOk (gm cl X) H ρ σ δ → Rep (gm cl X) H ρ d v → (Tg.nm i).put d δ = some δ' →
      (∀ σ', SlOk (gm cl X) H ρ σ' δ' → (∀ vs : List Nat, (∀ j ∈ (Tg.nm i).slots, j ∈ vs) → L2.wipe σ' vs = L2.wipe σ vs) → Q σ' H) → gName i v σ H Q := by
  intro H ρ σ δ δ' d v Q hs r hp k
  cases hp
  exact k _ (hs.set r) fun vs hv => wipe_set (hv i List.mem_cons_self)
def gNames : List Nat → TGs
  | [] => gNil
  | i :: is => gCons (gName i) (gNames is)
theorem gd_names : ∀ (is : List Nat) (H : Hp) (ρ : Rho) (σ : L2.St) (δ : Sl) (ds : List D) (vs : List V) (Q : L2.St → Hp → Prop), SlOk (gm cl X) H ρ σ δ → RepL (gm cl X) H ρ ds vs → ds.length = is.length →
      (∀ σ', SlOk (gm cl X) H ρ σ' (setAll is ds δ) → (∀ ws : List Nat, (∀ j ∈ is, j ∈ ws) → L2.wipe σ' ws = L2.wipe σ ws) → Q σ' H) → gNames is vs σ H Q
  | [], H, ρ, σ, δ, ds, vs, Q, hs, r, hl, k => by
    cases r with
    | nil => exact ⟨rfl, k σ hs fun _ _ => rfl⟩
    | cons _ _ => cases hl
  | i :: is, H, ρ, σ, δ, ds, vs, Q, hs, r, hl, k => by
    cases r with
    | nil => cases hl
    | cons r rr =>
      refine ⟨_, _, rfl, gd_names is H ρ _ _ _ _ _ (hs.set r) rr (Nat.succ.inj hl) fun σ' sl hw => k σ' sl fun ws hm => ?_⟩
      rw [hw ws fun j hj => hm j (List.mem_cons_of_mem _ hj), wipe_set (hm i List.mem_cons_self)]
theorem gd_tup (is : List Nat) : ∀ (H : Hp) (ρ : Rho) (σ : L2.St) (δ δ' : Sl) (d : D) (v : V) (Q : L2.St → Hp → Prop), SlOk (gm cl X) H ρ σ δ → Rep (gm cl X) H ρ d v → (Tg.tp is).put d δ = some δ' →
      (∀ σ', SlOk (gm cl X) H ρ σ' δ' → (∀ vs : List Nat, (∀ j ∈ (Tg.tp is).slots, j ∈ vs) → L2.wipe σ' vs = L2.wipe σ vs) → Q σ' H) → gTup X.K is.length (gNames is) v σ H Q := by
  intro H ρ σ δ δ' d v Q hs r hp kk
  cases d with
  | tup ds =>
    cases r with
    | tup hq rr =>
      have hp' : (if ds.length = is.length then some (setAll is ds δ) else none) = some δ' := hp
      by_cases e : ds.length = is.length
      · rw [if_pos e] at hp'
        cases hp'
        exact ⟨_, _, rfl, hq, by rw [← rr.length, e], gd_names is H ρ σ δ ds _ Q hs rr e kk⟩
      · rw [if_neg e] at hp'
        cases hp'
  | _ => cases hp
/-- [..] for a name -/
theorem de_lc1 {elt iter : Expr} {x : Str} {px : Pos} {ifs : List Expr} {scope : Scope} {pos : Pos} {it : Iv} {tt : Tv} {te : Ev} (i : Nat) (hc : X.calm = true) (hN : X.N.Nodup) (hi : DI cl W X (.Name x px) iter it) (ok : blkC X.N X.env.scope scope [(x, i)] = true)
    (ht : Blk X scope fun Y => DTs cl Y ifs tt) (he : Blk X scope fun Y => DE cl W0 Y elt te) (hx : X.N[i]? = some x := by rfl) (hg : Blk X scope fun Y => Loc Y.env.scope x ∧ (Y.fn x = true ∨ Y.env.scope.names.lookup x = some .local) := by
      intro _ _ _ _ _; exact ⟨by first | exact Or.inl rfl | exact Or.inr rfl, by first | exact .inl rfl | exact .inr rfl⟩)
    (hs : ∀ x, foldedSetIterable iter X.env x = pure x := by intro _; rfl) : DE cl W X (.ListComp elt [⟨.Name x px, iter, ifs, 0⟩] scope pos) (eLc it [i] (.nm i) tt te) :=
  de_lc [(x, i)] hc hN hi (blkOk_by ok) (gName i) (fun s H C c fp => pg_name hN hx (hg s H C c fp).1 (hg s H C c fp).2) (gd_name i) (by simp [Tg.slots]) ht he hs
end
end Df
namespace Df
open PySem PySem.Spec PyProof.Rows L2
section
variable {cl : Cl} {W : WX} {X : Cx}
/-- [..] for a, b, .. -/
theorem de_lcT {elt iter : Expr} {ets : List Expr} {kk : Nat} {pt : Pos} {ifs : List Expr} {scope : Scope} {pos : Pos} {it : Iv} {tt : Tv} {te : Ev} (own : List (Str × Nat)) (is : List Nat) (ho : own.map (·.2) = is) (hc : X.calm = true) (hN : X.N.Nodup)
    (hi : DI cl W X (.Tuple ets kk pt) iter it) (ok : blkC X.N X.env.scope scope own = true) (hg : Blk X scope fun Y => PGs Y ets (gNames is))
    (ht : Blk X scope fun Y => DTs cl Y ifs tt) (he : Blk X scope fun Y => DE cl W0 Y elt te)
    (hn : Blk X scope fun Y => (assignEach ets Y.env).length = is.length ∧ (assignEach ets Y.env).findIdx? (·.1) = none := by intro _ _ _ _ _; exact ⟨rfl, rfl⟩)
    (hs : ∀ x, foldedSetIterable iter X.env x = pure x := by intro _; rfl) : DE cl W X (.ListComp elt [⟨.Tuple ets kk pt, iter, ifs, 0⟩] scope pos) (eLc it is (.tp is) tt te) := by
  subst ho
  exact de_lc own hc hN hi (blkOk_by ok) (gTup X.K (own.map (·.2)).length (gNames (own.map (·.2)))) (fun s H C c fp => pg_tup (X := X.blk s H scope (compEnvC scope c C X.env) fp) hc (hg s H C c fp) (hn s H C c fp).1 (hn s H C c fp).2) (gd_tup _) (fun i hi => hi) ht he hs
/-- x = [..] on one line, x a local -/
theorem ds_setLc {elt tg iter : Expr} {y : Str} {py : Pos} {ifs : List Expr} {scope : Scope} {pos spos : Pos} {it : Iv} {t : Tg} {tt : Tv} {te : Ev} (i : Nat) (own : List (Str × Nat)) (hc : X.calm = true) (hN : X.N.Nodup)
    (hsw : swapsWith (.ListComp elt [⟨tg, iter, ifs, 0⟩] scope pos) (some (.Name y py)) spos.line X.env = pure true) (hi : DI cl W X tg iter it) (ok : BlkOk X.N X.env.scope scope own)
    (g : TG) (hg : Blk X scope fun Y => PG Y tg g) (hgd : ∀ (H : Hp) (ρ : Rho) (σ : L2.St) (δ δ' : Sl) (d : D) (v : V) (Q : L2.St → Hp → Prop), SlOk (gm cl X) H ρ σ δ → Rep (gm cl X) H ρ d v → t.put d δ = some δ' →
      (∀ σ', SlOk (gm cl X) H ρ σ' δ' → (∀ vs : List Nat, (∀ i ∈ t.slots, i ∈ vs) → L2.wipe σ' vs = L2.wipe σ vs) → Q σ' H) → g v σ H Q)
    (hsl : ∀ i ∈ t.slots, i ∈ own.map (·.2)) (ht : Blk X scope fun Y => DTs cl Y ifs tt) (he : Blk X scope fun Y => DE cl W0 Y elt te) (hy : X.N[i]? = some y := by rfl) (hyl : X.env.scope.names.lookup y = some .local := by rfl) (hs : ∀ x, foldedSetIterable iter X.env x = pure x := by intro _; rfl) :
    DS cl W X (.Assign [.Name y py] (.ListComp elt [⟨tg, iter, ifs, 0⟩] scope pos) spos) (sSet (.nm i) (eLc it (own.map (·.2)) t tt te)) := by
  obtain ⟨wi, hi, hwi⟩ := hi
  refine imp_s (ps_setLc (tt := tT (gm cl X) W0 tt) (te := tE (gm cl X) W0 te) hc hN hy hyl hsw hi ok hg (fun s H C c fp => (ht s H C c fp).pts) (fun s H C c fp => he s H C c fp) hs) fun D σ H h => ?_
  refine lc_read (te := te) (al := fun xs L => alloc (.lst xs) L) (Q0 := fun v H' => D.nx (σ.set i (some v)) H') hsl hwi hgd (fun _ _ _ _ _ _ ab r hp h => alloc_lst (Q := fun v H' => D.nx (σ.set i (some v)) H') ab r hp h) ?_
  obtain ⟨ρ, δ, L, hs, ha, h⟩ := h
  exact ⟨ρ, δ, L, hs, ha, After.mono (AfterS.andThen h) fun d H1 ρ1 L1 st1 a1 h2 w rw' => h2 _ H1 ρ1 (Step.refl _ _) ((hs.step ha.live st1).set rw') a1⟩
theorem ds_setLc1 {elt iter : Expr} {x y : Str} {px py : Pos} {ifs : List Expr} {scope : Scope} {pos spos : Pos} {it : Iv} {tt : Tv} {te : Ev} (i j : Nat) (hc : X.calm = true) (hN : X.N.Nodup)
    (hsw : swapsWith (.ListComp elt [⟨.Name x px, iter, ifs, 0⟩] scope pos) (some (.Name y py)) spos.line X.env = pure true) (hi : DI cl W X (.Name x px) iter it) (ok : blkC X.N X.env.scope scope [(x, j)] = true)
    (ht : Blk X scope fun Y => DTs cl Y ifs tt) (he : Blk X scope fun Y => DE cl W0 Y elt te) (hx : X.N[j]? = some x := by rfl) (hg : Blk X scope fun Y => Loc Y.env.scope x ∧ (Y.fn x = true ∨ Y.env.scope.names.lookup x = some .local) := by
      intro _ _ _ _ _; exact ⟨by first | exact Or.inl rfl | exact Or.inr rfl, by first | exact .inl rfl | exact .inr rfl⟩)
    (hy : X.N[i]? = some y := by rfl) (hyl : X.env.scope.names.lookup y = some .local := by rfl) (hs : ∀ x, foldedSetIterable iter X.env x = pure x := by intro _; rfl) :
    DS cl W X (.Assign [.Name y py] (.ListComp elt [⟨.Name x px, iter, ifs, 0⟩] scope pos) spos) (sSet (.nm i) (eLc it [j] (.nm j) tt te)) :=
  ds_setLc i [(x, j)] hc hN hsw hi (blkOk_by ok) (gName j) (fun s H C c fp => pg_name hN hx (hg s H C c fp).1 (hg s H C c fp).2) (gd_name j) (by simp [Tg.slots]) ht he hy hyl hs
theorem ds_setLcT {elt iter : Expr} {ets : List Expr} {kk : Nat} {pt : Pos} {y : Str} {py : Pos} {ifs : List Expr} {scope : Scope} {pos spos : Pos} {it : Iv} {tt : Tv} {te : Ev} (i : Nat) (own : List (Str × Nat)) (is : List Nat) (ho : own.map (·.2) = is) (hc : X.calm = true) (hN : X.N.Nodup)
    (hsw : swapsWith (.ListComp elt [⟨.Tuple ets kk pt, iter, ifs, 0⟩] scope pos) (some (.Name y py)) spos.line X.env = pure true) (hi : DI cl W X (.Tuple ets kk pt) iter it) (ok : blkC X.N X.env.scope scope own = true)
    (hg : Blk X scope fun Y => PGs Y ets (gNames is)) (ht : Blk X scope fun Y => DTs cl Y ifs tt) (he : Blk X scope fun Y => DE cl W0 Y elt te)
    (hn : Blk X scope fun Y => (assignEach ets Y.env).length = is.length ∧ (assignEach ets Y.env).findIdx? (·.1) = none := by intro _ _ _ _ _; exact ⟨rfl, rfl⟩)
    (hy : X.N[i]? = some y := by rfl) (hyl : X.env.scope.names.lookup y = some .local := by rfl) (hs : ∀ x, foldedSetIterable iter X.env x = pure x := by intro _; rfl) :
    DS cl W X (.Assign [.Name y py] (.ListComp elt [⟨.Tuple ets kk pt, iter, ifs, 0⟩] scope pos) spos) (sSet (.nm i) (eLc it is (.tp is) tt te)) := by
  subst ho
  exact ds_setLc i own hc hN hsw hi (blkOk_by ok) (gTup X.K (own.map (·.2)).length (gNames (own.map (·.2)))) (fun s H C c fp => pg_tup (X := X.blk s H scope (compEnvC scope c C X.env) fp) hc (hg s H C c fp) (hn s H C c fp).1 (hn s H C c fp).2) (gd_tup _) (fun i hi => hi) ht he hy hyl hs
end

/-! ### freezing -/
section
variable {cl : Cl} {W : WX} {X : Cx}
theorem kill_rep {H : Hp} {ρ : Rho} {L : Store} {i : Nat} {v : V} {d' : D} {L' : Store} (ab : AbsL (gm cl X) H ρ L) (r : Rep (gm cl X) H ρ (.ref i) v) (h : freeze (.ref i) L = .ok d' L') :
    ∃ p u, v = .ref p ∧ H p = some u ∧ Mut (some u) ∧ L' = L.set i .dead ∧ ∀ od, Step H ρ (upd H p (.frz od u)) (ρ.set i none) ∧ AbsL (gm cl X) (upd H p (.frz od u)) (ρ.set i none) (L.set i .dead) ∧ Rep (gm cl X) (upd H p (.frz od u)) (ρ.set i none) d' (.ref p) := by
  unfold freeze at h
  cases e : L[i]? with
  | none => simp only [e] at h; cases h
  | some m =>
    cases m with
    | lst xs =>
      simp only [e] at h
      by_cases c : D.flatL xs = true
      · rw [if_pos c] at h
        cases h
        obtain ⟨a, vs, rfl, h1, h2, h3⟩ := ref_lst ab r e
        refine ⟨a, _, rfl, h2, True.intro, rfl, fun od => ?_⟩
        obtain ⟨st, ab'⟩ := ab.kill (o := .frz od (.lst vs)) h1 nt_frz
        exact ⟨st, ab', .lst upd_same (h3.step ab.live st)⟩
      · rw [if_neg c] at h; cases h
    | dct kvs =>
      simp only [e] at h
      by_cases c : D.flatP kvs = true
      · rw [if_pos c] at h
        cases h
        obtain ⟨a, rfl, h1, h2⟩ := ref_at ab r e (by simp)
        obtain ⟨b, es, ep, z, h3, h4⟩ := h2
        cases z
        refine ⟨a, _, rfl, h3, True.intro, rfl, fun od => ?_⟩
        obtain ⟨st, ab'⟩ := ab.kill (o := .frz od (rawO a es ep)) h1 nt_frz
        exact ⟨st, ab', .dct upd_same (h4.step ab.live st)⟩
      · rw [if_neg c] at h; cases h
    | _ => simp only [e] at h; cases h
theorem freeze_other {d : D} {L : Store} (h : ∀ i, d ≠ .ref i) : freeze d L = .ok d L := by
  cases d with
  | ref i => exact absurd rfl (h i)
  | _ => rfl
theorem freeze_err {d : D} {L L' : Store} {x : XD} : freeze d L ≠ .err x L' := by
  intro h
  unfold freeze at h
  split at h
  · split at h
    · split at h <;> cases h
    · split at h <;> cases h
    · cases h
  · cases h
theorem de_frz {e : Expr} {f : Ev} (he : DE cl W X e f) : DE cl W X e (eFrz f) := by
  refine ⟨fun pins s σ H Q I h => ?_⟩
  have h1 : tE (gm cl X) W f σ H fun v H1 => Q v H1 ∨ ∃ p u, v = .ref p ∧ H1 p = some u ∧ Mut (some u) ∧ ∀ od, Q v (upd H1 p (.frz od u)) := by
    obtain ⟨ρ, δ, L, hs, ha, h⟩ := h
    refine ⟨ρ, δ, L, hs, ha, After.mono (After.andThen h) fun x H1 ρ1 L1 st1 a1 h1 v rv => ?_⟩
    by_cases c : ∃ i, x = .ref i
    · obtain ⟨i, rfl⟩ := c
      cases e : freeze (.ref i) L1 with
      | ok d' L' =>
        rw [e] at h1
        obtain ⟨p, u, rfl, q1, q2, rfl, q3⟩ := kill_rep a1 rv e
        exact .inr ⟨p, u, rfl, q1, q2, fun od => h1 _ _ (q3 od).1 (q3 od).2.1 _ (q3 od).2.2⟩
      | err y L' => exact absurd e freeze_err
      | bad => rw [e] at h1; exact h1.elim
    · rw [freeze_other fun i z => c ⟨i, z⟩] at h1
      exact .inl (now a1 h1 v rv)
  refine thn (he.run pins s σ H _ I h1) fun u s' ⟨v, H', I', r, q⟩ => ?_
  rcases q with q | ⟨p, o, rfl, q1, q2, q3⟩
  · exact ⟨v, H', I', r, q⟩
  · obtain ⟨od, I2⟩ := I'.lock q1 q2
    exact ⟨.ref p, _, I2, r, q3 od⟩
theorem dss_frz {rest : List Stmt} {u : Sv} (i : Nat) (h : DSs cl W X rest u) : DSs cl W X rest (sSeq (sFrz i) u) := by
  refine ⟨fun pins s σ H D I hw => ?_⟩
  obtain ⟨ρ, δ, L, hs, ha, hq⟩ := hw
  unfold sSeq sFrz at hq
  cases e : δ[i]? with
  | none => simp only [e] at hq; exact (show False from hq).elim
  | some o =>
    cases o with
    | none => simp only [e] at hq; exact (show False from hq).elim
    | some d =>
      simp only [e] at hq
      obtain ⟨v, hv, rv⟩ := hs.2 i d e
      by_cases c : ∃ k, d = .ref k
      · obtain ⟨k, rfl⟩ := c
        cases ef : freeze (.ref k) L with
        | ok d' L' =>
          rw [ef] at hq
          obtain ⟨p, o, rfl, q1, q2, rfl, q3⟩ := kill_rep ha rv ef
          obtain ⟨od, I2⟩ := I.lock q1 q2
          obtain ⟨st, ab, rd⟩ := q3 od
          refine h.run pins s σ _ D I2 ⟨_, δ.set i (some d'), _, ⟨by rw [List.length_set]; exact hs.1, fun j x hj => ?_⟩, ab, AfterS.step st hq⟩
          by_cases hji : i = j
          · subst hji
            rw [List.getElem?_set_self (List.getElem?_eq_some_iff.mp e).1] at hj
            cases hj
            exact ⟨_, hv, rd⟩
          · rw [List.getElem?_set_ne hji] at hj
            obtain ⟨w, w1, w2⟩ := hs.2 j x hj
            exact ⟨w, w1, w2.step ha.live st⟩
        | err y L' => exact absurd ef freeze_err
        | bad => rw [ef] at hq; exact (show False from hq).elim
      · rw [freeze_other fun k z => c ⟨k, z⟩] at hq
        have e2 : δ.set i (some d) = δ := by
          apply List.ext_getElem?
          intro j
          by_cases hji : i = j
          · subst hji
            rw [List.getElem?_set_self (List.getElem?_eq_some_iff.mp e).1, e]
          · rw [List.getElem?_set_ne hji]
        have hq : AfterS (gm cl X) W D ρ H (u (δ.set i (some d)) L) := hq
        rw [e2] at hq
        exact h.run pins s σ H D I ⟨ρ, δ, L, hs, ha, hq⟩
end

/-! ### what is made and frozen at once -/
/-- the end where what is made is frozen -/
def QF (Q : VK) : VK := fun v H => Q v H ∨ ∃ p u, v = .ref p ∧ H p = some u ∧ Mut (some u) ∧ ∀ od, Q v (upd H p (.frz od u))
section
variable {cl : Cl} {W : WX} {X : Cx} {e a b : Expr} {es : List Expr} {fs : Av} {fa fb f : Ev} {pos : Pos}
theorem lk {t : TE} (h : PE X e t) : PE X e (fun σ H Q => t σ H (QF Q)) := by
  refine ⟨fun pins s σ H Q I hw => thn (h.run pins s σ H _ I hw) fun u s' ⟨v, H', I', r, q⟩ => ?_⟩
  rcases q with q | ⟨p, o, rfl, q1, q2, q3⟩
  · exact ⟨v, H', I', r, q⟩
  · obtain ⟨od, I2⟩ := I'.lock q1 q2
    exact ⟨.ref p, _, I2, r, q3 od⟩
theorem QF.weak {σ : L2.St} {H : Hp} {ρ : Rho} {r : R D} {Q : VK} (h : After (gm cl X) W σ ρ H r fun d H' ρ' _ => ∀ w, Rep (gm cl X) H' ρ' d w → Q w H') : After (gm cl X) W σ ρ H r fun d H' ρ' _ => ∀ w, Rep (gm cl X) H' ρ' d w → QF Q w H' :=
  After.mono h fun d H' ρ' L' st ab hq w r => .inl (hq w r)
theorem frozen_lst {H : Hp} {ρ : Rho} {L : Store} {xs : List D} {vs : List V} {p : Addr} {σ : L2.St} {Q : VK} (ab : AbsL (gm cl X) H ρ L) (rv : RepL (gm cl X) H ρ xs vs) (hp : H p = none)
    (h : After (gm cl X) W σ ρ H (frozen (.lst xs) L) fun d H' ρ' _ => ∀ w, Rep (gm cl X) H' ρ' d w → Q w H') : QF Q (.ref p) (upd H p (.lst vs)) := by
  unfold frozen at h
  by_cases c : D.flatL xs = true
  · simp only [c, if_true] at h
    refine .inr ⟨p, _, rfl, upd_same, True.intro, fun od => ?_⟩
    rw [upd_upd]
    exact h _ ρ (Step.grow hp) (ab.grow hp) _ (.lst upd_same (rv.step ab.live (Step.grow hp)))
  · simp only [c, if_false] at h; exact (show False from h).elim
theorem de_lstF (h : DA cl W X es fs) : DE cl W X (.List es pos) (eLstF fs) := by
  refine imp_e (lk (pe_lst h)) fun σ H Q h => ?_
  obtain ⟨ρ, δ, L, hs, ha, h⟩ := h
  refine ⟨ρ, δ, L, hs, ha, After.mono (After.andThen h) fun ds H1 ρ1 L1 st1 a1 h1 vs rvs => ?_⟩
  by_cases hz : ds.length ≤ most
  · rw [if_pos hz] at h1
    exact ⟨by rw [← rvs.length]; exact most_le hz, fun p hp => frozen_lst a1 rvs hp h1⟩
  · rw [if_neg hz] at h1; exact h1.elim
theorem de_addF (ha : DE cl W X a fa) (hb : DE cl W X b fb) : DE cl W X (.BinOp a .Add b pos) (eOp oAddF fa fb) := by
  refine imp_e (lk (pe_op op_catL ha hb)) fun σ H Q h => ?_
  obtain ⟨ρ, δ, L, hs, ha, h⟩ := h
  refine ⟨ρ, δ, L, hs, ha, After.mono (After.andThen h) fun x H1 ρ1 L1 st1 a1 h1 v rv => ?_⟩
  refine ⟨ρ1, δ, L1, hs.step ha.live st1, a1, After.mono (After.andThen h1) fun y H2 ρ2 L2 st2 a2 h2 u ru => ?_⟩
  have rv := rv.step a1.live st2
  unfold oAddF at h2
  cases e1 : lstOf L2 x with
  | none => rw [e1] at h2; exact h2.elim
  | some xs =>
    cases e2 : lstOf L2 y with
    | none => rw [e1, e2] at h2; exact h2.elim
    | some ys =>
      simp only [e1, e2] at h2
      obtain ⟨p, vs, rfl, k1, k2⟩ := lst_at a2 rv e1
      obtain ⟨q, us, rfl, k3, k4⟩ := lst_at a2 ru e2
      by_cases hz : xs.length + ys.length ≤ most
      · rw [if_pos hz] at h2
        exact ⟨p, q, vs, us, rfl, rfl, k1, k3, by rw [← k2.length, ← k4.length]; exact most_le hz, fun z hz => frozen_lst a2 (k2.append k4) hz h2⟩
      · rw [if_neg hz] at h2; exact h2.elim
theorem de_sliceF {p2 : Pos} {lo hi : Option Expr} {pl ph : Pt} (ha : DE cl W X a fa) (hl : DO cl W X lo pl) (hh : DO cl W X hi ph) : DE cl W X (.Subscript a (.Slice lo hi none p2) pos) (eSliceF fa pl ph) := by
  refine imp_e (lk (pe_slice sl_list ha hl hh)) fun σ H Q h => ?_
  obtain ⟨ρ, δ, L, hs, ha, h⟩ := h
  refine ⟨ρ, δ, L, hs, ha, After.mono (After.andThen h) fun x H1 ρ1 L1 st1 a1 h1 v rv => ?_⟩
  have hs1 := hs.step ha.live st1
  refine ⟨ρ1, δ, L1, hs1, a1, After.mono (After.andThen h1) fun i H2 ρ2 L2 st2 a2 h2 => ?_⟩
  have hs2 := hs1.step a1.live st2
  refine ⟨ρ2, δ, L2, hs2, a2, After.mono (After.andThen h2) fun j H3 ρ3 L3 st3 a3 h3 => ?_⟩
  have r3 := (rv.step a1.live st2).step a2.live st3
  cases es : lstOf L3 x with
  | none => simp only [es] at h3; exact (show False from h3).elim
  | some xs =>
    simp only [es] at h3
    obtain ⟨p, vs, rfl, q1, q2⟩ := lst_at a3 r3 es
    exact ⟨p, vs, rfl, .inl q1, fun z hz => frozen_lst a3 (cut_rep q2) hz h3⟩
theorem de_listF {p : Pos} (hm : X.mg "list" = none) (ha : DE cl W X e f) (hg : Gl X "list" := by rfl) (he : starEach [e] X.env = (false, eval e X.env) :: starEach [] X.env := by rfl) : DE cl W X (.Call (.Name "list" p) [e] [] pos) (eB bListF (aCons f aNil)) := by
  refine imp_e (lk (pe_callTy call_list_of hg hm PyProof.Rows.boot_list (da_cons ha da_nil he) (by decide) (by decide) he)) fun σ H Q h => ?_
  obtain ⟨ρ, δ, L, hs, ha, h⟩ := h
  refine ⟨ρ, δ, L, hs, ha, After.mono (After.andThen h) fun ds H1 ρ1 L1 st1 a1 h1 vs rv => ?_⟩
  unfold bListF at h1
  split at h1
  · rename_i x
    obtain ⟨v, rfl, r⟩ := rep1 rv
    cases es : seqOf L1 x with
    | none => simp only [es] at h1; exact (show False from h1).elim
    | some ys =>
      simp only [es] at h1
      obtain ⟨q, vs, rfl, q1, q2⟩ := seq_at a1 r es
      exact ⟨q, vs, rfl, q1, fun z hz => frozen_lst a1 q2 hz h1⟩
  · exact h1.elim
theorem de_lcF {elt tg iter : Expr} {ifs : List Expr} {scope : Scope} {it : Iv} {t : Tg} {tt : Tv} {te : Ev} (own : List (Str × Nat)) (hc : X.calm = true) (hN : X.N.Nodup) (hi : DI cl W X tg iter it) (ok : BlkOk X.N X.env.scope scope own)
    (g : TG) (hg : Blk X scope fun Y => PG Y tg g) (hgd : ∀ (H : Hp) (ρ : Rho) (σ : L2.St) (δ δ' : Sl) (d : D) (v : V) (Q : L2.St → Hp → Prop), SlOk (gm cl X) H ρ σ δ → Rep (gm cl X) H ρ d v → t.put d δ = some δ' →
      (∀ σ', SlOk (gm cl X) H ρ σ' δ' → (∀ vs : List Nat, (∀ i ∈ t.slots, i ∈ vs) → L2.wipe σ' vs = L2.wipe σ vs) → Q σ' H) → g v σ H Q)
    (hsl : ∀ i ∈ t.slots, i ∈ own.map (·.2)) (ht : Blk X scope fun Y => DTs cl Y ifs tt) (he : Blk X scope fun Y => DE cl W0 Y elt te) (hs : ∀ x, foldedSetIterable iter X.env x = pure x := by intro _; rfl) :
    DE cl W X (.ListComp elt [⟨tg, iter, ifs, 0⟩] scope pos) (eLcF it (own.map (·.2)) t tt te) := by
  obtain ⟨wi, hi, hwi⟩ := hi
  exact imp_e (lk (pe_lc (tt := tT (gm cl X) W0 tt) (te := tE (gm cl X) W0 te) hc hN hi ok hg (fun s H C c fp => (ht s H C c fp).pts) (fun s H C c fp => he s H C c fp) hs)) fun σ H Q h =>
    lc_read (al := fun xs L => frozen (.lst xs) L) hsl hwi hgd (fun _ _ _ _ _ _ ab r hp h => frozen_lst ab r hp h) h
theorem de_lc1F {elt iter : Expr} {x : Str} {px : Pos} {ifs : List Expr} {scope : Scope} {it : Iv} {tt : Tv} {te : Ev} (i : Nat) (hc : X.calm = true) (hN : X.N.Nodup) (hi : DI cl W X (.Name x px) iter it) (ok : blkC X.N X.env.scope scope [(x, i)] = true)
    (ht : Blk X scope fun Y => DTs cl Y ifs tt) (he : Blk X scope fun Y => DE cl W0 Y elt te) (hx : X.N[i]? = some x := by rfl) (hg : Blk X scope fun Y => Loc Y.env.scope x ∧ (Y.fn x = true ∨ Y.env.scope.names.lookup x = some .local) := by
      intro _ _ _ _ _; exact ⟨by first | exact Or.inl rfl | exact Or.inr rfl, by first | exact .inl rfl | exact .inr rfl⟩)
    (hs : ∀ x, foldedSetIterable iter X.env x = pure x := by intro _; rfl) : DE cl W X (.ListComp elt [⟨.Name x px, iter, ifs, 0⟩] scope pos) (eLcF it [i] (.nm i) tt te) :=
  de_lcF [(x, i)] hc hN hi (blkOk_by ok) (gName i) (fun s H C c fp => pg_name hN hx (hg s H C c fp).1 (hg s H C c fp).2) (gd_name i) (by simp [Tg.slots]) ht he hs
theorem de_lcTF {elt iter : Expr} {ets : List Expr} {kk : Nat} {pt : Pos} {ifs : List Expr} {scope : Scope} {it : Iv} {tt : Tv} {te : Ev} (own : List (Str × Nat)) (is : List Nat) (ho : own.map (·.2) = is) (hc : X.calm = true) (hN : X.N.Nodup)
    (hi : DI cl W X (.Tuple ets kk pt) iter it) (ok : blkC X.N X.env.scope scope own = true) (hg : Blk X scope fun Y => PGs Y ets (gNames is))
    (ht : Blk X scope fun Y => DTs cl Y ifs tt) (he : Blk X scope fun Y => DE cl W0 Y elt te)
    (hn : Blk X scope fun Y => (assignEach ets Y.env).length = is.length ∧ (assignEach ets Y.env).findIdx? (·.1) = none := by intro _ _ _ _ _; exact ⟨rfl, rfl⟩)
    (hs : ∀ x, foldedSetIterable iter X.env x = pure x := by intro _; rfl) : DE cl W X (.ListComp elt [⟨.Tuple ets kk pt, iter, ifs, 0⟩] scope pos) (eLcF it is (.tp is) tt te) := by
  subst ho
  exact de_lcF own hc hN hi (blkOk_by ok) (gTup X.K (own.map (·.2)).length (gNames (own.map (·.2)))) (fun s H C c fp => pg_tup (X := X.blk s H scope (compEnvC scope c C X.env) fp) hc (hg s H C c fp) (hn s H C c fp).1 (hn s H C c fp).2) (gd_tup _) (fun i hi => hi) ht he hs
theorem ds_setLcF {elt tg iter : Expr} {y : Str} {py : Pos} {ifs : List Expr} {scope : Scope} {spos : Pos} {it : Iv} {t : Tg} {tt : Tv} {te : Ev} (i : Nat) (own : List (Str × Nat)) (hc : X.calm = true) (hN : X.N.Nodup)
    (hsw : swapsWith (.ListComp elt [⟨tg, iter, ifs, 0⟩] scope pos) (some (.Name y py)) spos.line X.env = pure true) (hi : DI cl W X tg iter it) (ok : BlkOk X.N X.env.scope scope own)
    (g : TG) (hg : Blk X scope fun Y => PG Y tg g) (hgd : ∀ (H : Hp) (ρ : Rho) (σ : L2.St) (δ δ' : Sl) (d : D) (v : V) (Q : L2.St → Hp → Prop), SlOk (gm cl X) H ρ σ δ → Rep (gm cl X) H ρ d v → t.put d δ = some δ' →
      (∀ σ', SlOk (gm cl X) H ρ σ' δ' → (∀ vs : List Nat, (∀ i ∈ t.slots, i ∈ vs) → L2.wipe σ' vs = L2.wipe σ vs) → Q σ' H) → g v σ H Q)
    (hsl : ∀ i ∈ t.slots, i ∈ own.map (·.2)) (ht : Blk X scope fun Y => DTs cl Y ifs tt) (he : Blk X scope fun Y => DE cl W0 Y elt te) (hy : X.N[i]? = some y := by rfl) (hyl : X.env.scope.names.lookup y = some .local := by rfl) (hs : ∀ x, foldedSetIterable iter X.env x = pure x := by intro _; rfl) :
    DS cl W X (.Assign [.Name y py] (.ListComp elt [⟨tg, iter, ifs, 0⟩] scope pos) spos) (sSet (.nm i) (eLcF it (own.map (·.2)) t tt te)) := by
  obtain ⟨wi, hi, hwi⟩ := hi
  have base := ps_setLc (tt := tT (gm cl X) W0 tt) (te := tE (gm cl X) W0 te) hc hN hy hyl hsw hi ok hg (fun s H C c fp => (ht s H C c fp).pts) (fun s H C c fp => he s H C c fp) hs
  refine ⟨fun pins s σ H D I hw => ?_⟩
  have h1 : tAsg (tLc wi g (tT (gm cl X) W0 tt) (tE (gm cl X) W0 te) (own.map (·.2))) (gName i) { D with nx := fun σ' H' => D.nx σ' H' ∨ ∃ p u, H' p = some u ∧ Mut (some u) ∧ ∀ od, D.nx σ' (upd H' p (.frz od u)) } σ H := by
    refine lc_read (te := te) (al := fun xs L => frozen (.lst xs) L) (Q0 := fun v H' => D.nx (σ.set i (some v)) H') hsl hwi hgd (fun _ _ _ _ _ _ ab r hp h => ?_) ?_
    · rcases frozen_lst ab r hp h with q | ⟨p, u, e, q1, q2, q3⟩
      · exact .inl q
      · exact .inr ⟨p, u, q1, q2, q3⟩
    · obtain ⟨ρ, δ, L, hs, ha, h⟩ := hw
      exact ⟨ρ, δ, L, hs, ha, After.mono (AfterS.andThen h) fun d H1 ρ1 L1 st1 a1 h2 w rw' => h2 _ H1 ρ1 (Step.refl _ _) ((hs.step ha.live st1).set rw') a1⟩
  refine thn (base.run pins s σ H _ I h1) fun fl s' q => ?_
  cases fl with
  | next =>
    obtain ⟨σ', H', I', q⟩ := q
    rcases q with q | ⟨p, u, q1, q2, q3⟩
    · exact ⟨σ', H', I', q⟩
    · obtain ⟨od, I2⟩ := I'.lock q1 q2
      exact ⟨σ', _, I2, q3 od⟩
  | ret v => exact q
  | brk => exact q
  | cont => exact q
theorem ds_setLc1F {elt iter : Expr} {x y : Str} {px py : Pos} {ifs : List Expr} {scope : Scope} {spos : Pos} {it : Iv} {tt : Tv} {te : Ev} (i j : Nat) (hc : X.calm = true) (hN : X.N.Nodup)
    (hsw : swapsWith (.ListComp elt [⟨.Name x px, iter, ifs, 0⟩] scope pos) (some (.Name y py)) spos.line X.env = pure true) (hi : DI cl W X (.Name x px) iter it) (ok : blkC X.N X.env.scope scope [(x, j)] = true)
    (ht : Blk X scope fun Y => DTs cl Y ifs tt) (he : Blk X scope fun Y => DE cl W0 Y elt te) (hx : X.N[j]? = some x := by rfl) (hg : Blk X scope fun Y => Loc Y.env.scope x ∧ (Y.fn x = true ∨ Y.env.scope.names.lookup x = some .local) := by
      intro _ _ _ _ _; exact ⟨by first | exact Or.inl rfl | exact Or.inr rfl, by first | exact .inl rfl | exact .inr rfl⟩)
    (hy : X.N[i]? = some y := by rfl) (hyl : X.env.scope.names.lookup y = some .local := by rfl) (hs : ∀ x, foldedSetIterable iter X.env x = pure x := by intro _; rfl) :
    DS cl W X (.Assign [.Name y py] (.ListComp elt [⟨.Name x px, iter, ifs, 0⟩] scope pos) spos) (sSet (.nm i) (eLcF it [j] (.nm j) tt te)) :=
  ds_setLcF i [(x, j)] hc hN hsw hi (blkOk_by ok) (gName j) (fun s H C c fp => pg_name hN hx (hg s H C c fp).1 (hg s H C c fp).2) (gd_name j) (by simp [Tg.slots]) ht he hy hyl hs
theorem ds_setLcTF {elt iter : Expr} {ets : List Expr} {kk : Nat} {pt : Pos} {y : Str} {py : Pos} {ifs : List Expr} {scope : Scope} {spos : Pos} {it : Iv} {tt : Tv} {te : Ev} (i : Nat) (own : List (Str × Nat)) (is : List Nat) (ho : own.map (·.2) = is) (hc : X.calm = true) (hN : X.N.Nodup)
    (hsw : swapsWith (.ListComp elt [⟨.Tuple ets kk pt, iter, ifs, 0⟩] scope pos) (some (.Name y py)) spos.line X.env = pure true) (hi : DI cl W X (.Tuple ets kk pt) iter it) (ok : blkC X.N X.env.scope scope own = true)
    (hg : Blk X scope fun Y => PGs Y ets (gNames is)) (ht : Blk X scope fun Y => DTs cl Y ifs tt) (he : Blk X scope fun Y => DE cl W0 Y elt te)
    (hn : Blk X scope fun Y => (assignEach ets Y.env).length = is.length ∧ (assignEach ets Y.env).findIdx? (·.1) = none := by intro _ _ _ _ _; exact ⟨rfl, rfl⟩)
    (hy : X.N[i]? = some y := by rfl) (hyl : X.env.scope.names.lookup y = some .local := by rfl) (hs : ∀ x, foldedSetIterable iter X.env x = pure x := by intro _; rfl) :
    DS cl W X (.Assign [.Name y py] (.ListComp elt [⟨.Tuple ets kk pt, iter, ifs, 0⟩] scope pos) spos) (sSet (.nm i) (eLcF it is (.tp is) tt te)) := by
  subst ho
  exact ds_setLcF i own hc hN hsw hi (blkOk_by ok) (gTup X.K (own.map (·.2)).length (gNames (own.map (·.2)))) (fun s H C c fp => pg_tup (X := X.blk s H scope (compEnvC scope c C X.env) fp) hc (hg s H C c fp) (hn s H C c fp).1 (hn s H C c fp).2) (gd_tup _) (fun i hi => hi) ht he hy hyl hs
/-- a call whose new list nobody changes -/
theorem de_callF {x : Str} {p : Pos} {k : Nat} {fa : Addr} {fd : FuncData} {ps : List Str} {F : Fn} (n : Nat) (G : FnOk X.prog X.w X.K X.mg X.base CX0 k fa fd ps (sp0 cl X.w X.K n F)) (hr : Room k X.A) (hm : X.mg x = some (.ref fa)) (hk : PySem.W.keepIn X.K (.ref fa) = true) (hb : Binds X.K fd ps [])
    (ha : DA cl W0 X (e :: es) fs) (hg : Gl X x := by rfl) (hdb : (x == ("__debug__" : Str)) = false := by decide) (he : starEach (e :: es) X.env = (false, eval e X.env) :: starEach es X.env := by rfl) (hpl : (backTo pos (starEach es X.env)).any (·.1) = false := by rfl) :
    DE cl W0 X (.Call (.Name x p) (e :: es) [] pos) (eCallF n F fs) := by
  refine imp_e (lk (pe_call G hr hg hm hk hb .nil pass0 ha hdb he hpl)) fun σ H Q h => ?_
  obtain ⟨ρ, δ, L, hs, ha, h⟩ := h
  refine ⟨ρ, δ, L, hs, ha, After.mono (After.andThen h) fun ds H1 ρ1 L1 st1 a1 h1 vs rv => ?_⟩
  show sp0 cl X.w X.K n F (vs ++ []) H1 (QF Q) E0
  rw [List.append_nil]
  by_cases hf : ds.length = n ∧ D.flatL ds = true
  · rw [if_pos hf] at h1
    refine ⟨by rw [← rv.length]; exact hf.1, [], ds, [], rv.flat hf.2, .nil a1.tab, ?_⟩
    cases eF : F ds [] with
    | bad => rw [eF] at h1; exact h1.elim
    | err y L2 =>
      rw [eF] at h1
      show ∀ cls dx H' ρ', _
      intro cls dx H' ρ' st hx ab
      have h1 : After (gm cl X) W0 σ ρ1 H1 (match (if y.v.flat = true then Out.e y else Out.bad) with
        | .v d => .ok d L1
        | .o m => frozen m L1
        | .e x => .err x L1
        | .bad => .bad) fun d H' ρ' _ => ∀ v, Rep (gm cl X) H' ρ' d v → Q v H' := h1
      by_cases hy : y.v.flat = true
      · rw [if_pos hy] at h1
        have same : ∀ a o, Nt o → H1 a = some o → H' a = some o := fun a o n q => st.fr a o q n fun i z => by simp at z
        obtain ⟨s2, a2⟩ := a1.same ab.tab same
        refine h1 cls dx H' ρ1 s2 ⟨hx.1, ?_⟩ a2
        rcases hx.2 with z | ⟨zn, d, f, v, z1, z2, z3, z4⟩
        · exact .inl z
        · exact .inr ⟨zn, d, f, v, z1, z2, z3.flat hy, z4⟩
      · rw [if_neg hy] at h1; exact h1.elim
    | ok d L2 =>
      rw [eF] at h1
      show ∀ H' ρ', _
      intro H' ρ' st ab v rd
      have same : ∀ a o, Nt o → H1 a = some o → H' a = some o := fun a o n q => st.fr a o q n fun i z => by simp at z
      by_cases hd : ∀ k, d ≠ .ref k
      · rw [out_flat hd] at h1
        by_cases hy : d.flat = true
        · rw [if_pos hy] at h1
          obtain ⟨s2, a2⟩ := a1.same ab.tab same
          exact .inl (h1 H' ρ1 s2 a2 v (rd.flat hy))
        · rw [if_neg hy] at h1; exact h1.elim
      · have : ∃ k, d = .ref k := Classical.byContradiction fun z => hd fun k q => z ⟨k, q⟩
        obtain ⟨k, rfl⟩ := this
        have h1 : After (gm cl X) W0 σ ρ1 H1 (match (match L2[k]? with
          | some m => if m.flat then Out.o m else .bad
          | none => .bad) with
        | .v d => .ok d L1
        | .o m => frozen m L1
        | .e x => .err x L1
        | .bad => .bad) fun d H' ρ' _ => ∀ v, Rep (gm cl X) H' ρ' d v → Q v H' := h1
        cases em : L2[k]? with
        | none => rw [em] at h1; exact h1.elim
        | some m =>
          rw [em] at h1
          by_cases hm : m.flat = true
          · simp only [hm, if_true] at h1
            obtain ⟨s2, a2⟩ := a1.same ab.tab same
            cases m with
            | lst xs =>
              obtain ⟨ad, vs', rfl, o1, o2, o3⟩ := ref_lst ab rd em
              have hp : ∀ o, H1 ad = some o → ¬ Nt o := fun o => st.new k ad o (Nat.zero_le _) o1
              refine .inr ⟨ad, _, rfl, o2, True.intro, fun od => ?_⟩
              have hm' : D.flatL xs = true := hm
              simp only [frozen, hm', if_true] at h1
              have r2 : RepL (gm cl X) H' ρ1 xs vs' := o3.flat hm'
              have same2 : ∀ a o, Nt o → H1 a = some o → upd H' ad (.frz od (.lst vs')) a = some o := fun a o n q => by rw [upd_ne (fun e => hp o (by rw [← e]; exact q) n)]; exact same a o n q
              obtain ⟨s3, a3⟩ := a1.same (ab.kill (o := .frz od (.lst vs')) o1 nt_frz).2.tab same2
              have s4 : Step H' ρ' (upd H' ad (.frz od (.lst vs'))) (ρ'.set k none) := (ab.kill o1 nt_frz).1
              exact h1 _ ρ1 s3 a3 _ (.lst upd_same ((o3.step ab.live s4).flat hm'))
            | dct kvs =>
              obtain ⟨ad, rfl, o1, b, es', ep, z, o2, o3⟩ := ref_at ab rd em (by simp)
              cases z
              have hp : ∀ o, H1 ad = some o → ¬ Nt o := fun o => st.new k ad o (Nat.zero_le _) o1
              refine .inr ⟨ad, _, rfl, o2, True.intro, fun od => ?_⟩
              have hm' : D.flatP kvs = true := hm
              simp only [frozen, hm', if_true] at h1
              have same2 : ∀ a o, Nt o → H1 a = some o → upd H' ad (.frz od (rawO ad es' ep)) a = some o := fun a o n q => by rw [upd_ne (fun e => hp o (by rw [← e]; exact q) n)]; exact same a o n q
              obtain ⟨s3, a3⟩ := a1.same (ab.kill (o := .frz od (rawO ad es' ep)) o1 nt_frz).2.tab same2
              have s4 : Step H' ρ' (upd H' ad (.frz od (rawO ad es' ep))) (ρ'.set k none) := (ab.kill o1 nt_frz).1
              exact h1 _ ρ1 s3 a3 _ (.dct upd_same ((o3.step ab.live s4).flat hm'))
            | _ => exact absurd hm Bool.false_ne_true
          · simp only [hm, if_false] at h1
            exact (show False from h1).elim
  · rw [if_neg hf] at h1; exact h1.elim
end

/-! ### methods of lists, stores -/
def OpM (cl : Cl) (X : Cx) (g : D → List D → Store → R D) (r : V → List V → Hp → VK → Prop) : Prop :=
  ∀ (W : WX) (σ : L2.St) (H : Hp) (ρ : Rho) (L : Store) (x : D) (xs : List D) (v : V) (vs : List V) (Q : VK), AbsL (gm cl X) H ρ L → Rep (gm cl X) H ρ x v → RepL (gm cl X) H ρ xs vs →
    After (gm cl X) W σ ρ H (g x xs L) (fun d H' ρ' _ => ∀ w, Rep (gm cl X) H' ρ' d w → Q w H') → r v vs H Q
section
variable {cl : Cl} {W : WX} {X : Cx} {o e : Expr} {es : List Expr} {fo f : Ev} {fs : Av} {name : Str} {apos cpos : Pos} {id : String} {r : V → List V → Hp → VK → Prop} {g : D → List D → Store → R D}
theorem de_ml (pa : PlainAttrs "list") (slot : Slot "list" name id) (hty : typeOf (.builtin id) = pure (.type "method_descriptor")) (hm : MtR X id r) (hd : OpM cl X g r) (ho : DE cl W X o fo) (ha : DA cl W X (e :: es) fs)
    (hbase : attributeBase o name X.env (eval o X.env) = eval o X.env := by rfl)
    (hfew : ((backTo cpos (starEach (e :: es) X.env)).all (fun x => !x.1) && (backToKw cpos (keywordEach [] X.env)).all (fun x => x.1.isSome)
      && decide ((e :: es).length + ([] : List Keyword).length + (if ([] : List Keyword).isEmpty then 0 else 1) < 30)) = true := by rfl)
    (hline : (apos.endLine == cpos.line) = true := by rfl) (hs : starEach (e :: es) X.env = (false, eval e X.env) :: starEach es X.env := by rfl) (hplain : (backTo cpos (starEach es X.env)).any (·.1) = false := by rfl) :
    DE cl W X (.Call (.Attribute o name apos) (e :: es) [] cpos) (eM g fo fs) := by
  refine imp_e (pe_bm pa slot hty hm ho ha hbase hfew hline hs hplain) fun σ H Q h => ?_
  obtain ⟨ρ, δ, L, hs, ha, h⟩ := h
  refine ⟨ρ, δ, L, hs, ha, After.mono (After.andThen h) fun x H1 ρ1 L1 st1 a1 h1 v rv => ?_⟩
  cases el : lstOf L1 x with
  | none => simp only [el] at h1; exact (show False from h1).elim
  | some zs =>
    simp only [el] at h1
    obtain ⟨p, vs, rfl, q1, q2⟩ := lst_at a1 rv el
    refine ⟨.inl ⟨rfl, vs, .inl q1⟩, ρ1, δ, L1, hs.step ha.live st1, a1, After.mono (After.andThen h1) fun ds H2 ρ2 L2 st2 a2 h2 us rus => ?_⟩
    exact hd W σ H2 ρ2 L2 x ds _ us Q a2 (rv.step a1.live st2) rus h2
theorem de_ml0 (pa : PlainAttrs "list") (slot : Slot "list" name id) (hty : typeOf (.builtin id) = pure (.type "method_descriptor")) (hm : MtR X id r) (hd : OpM cl X g r) (ho : DE cl W X o fo)
    (hbase : attributeBase o name X.env (eval o X.env) = eval o X.env := by rfl) (hline : (apos.endLine == cpos.line) = true := by rfl) :
    DE cl W X (.Call (.Attribute o name apos) [] [] cpos) (eM g fo aNil) := by
  refine imp_e (pe_bm0 pa slot hty hm ho hbase hline) fun σ H Q h => ?_
  obtain ⟨ρ, δ, L, hs, ha, h⟩ := h
  refine ⟨ρ, δ, L, hs, ha, After.mono (After.andThen h) fun x H1 ρ1 L1 st1 a1 h1 v rv => ?_⟩
  cases el : lstOf L1 x with
  | none => simp only [el] at h1; exact (show False from h1).elim
  | some zs =>
    simp only [el] at h1
    obtain ⟨p, vs, rfl, q1, q2⟩ := lst_at a1 rv el
    exact ⟨.inl ⟨rfl, vs, .inl q1⟩, hd W σ H1 ρ1 L1 x [] _ [] Q a1 rv .nil h1⟩
/-- the i-th object is a list that now holds other items -/
theorem wrote_lst {W : WX} {σ : L2.St} {α : Type} {H : Hp} {ρ : Rho} {L : Store} {i : Nat} {p : Addr} {ys : List D} {us : List V} {d : α} {Q : α → Hp → Rho → Store → Prop} (ab : AbsL (gm cl X) H ρ L) (hi : ρ[i]? = some (some p)) (r : RepL (gm cl X) H ρ ys us)
    (h : After (gm cl X) W σ ρ H (.ok d (L.set i (.lst ys))) Q) : Q d (upd H p (.lst us)) ρ (L.set i (.lst ys)) ∧ Step H ρ (upd H p (.lst us)) ρ := by
  have st0 : Step H ρ (upd H p (.lst us)) ρ := Step.over hi nt_lst
  obtain ⟨st, ab2⟩ := AbsL.write (m := .lst ys) (o := .lst us) ab hi True.intro ⟨p, us, rfl, upd_same, r.step ab.live st0⟩
  exact ⟨h _ _ st ab2, st⟩
theorem d_append : OpM cl X mAppend rAppend := by
  intro W σ H ρ L x xs v vs Q ab rx rs h
  unfold mAppend at h
  split at h
  · rename_i i d
    obtain ⟨w, rfl, rw'⟩ := rep1 rs
    cases e : L[i]? with
    | none => simp only [e] at h; exact (show False from h).elim
    | some m =>
      cases m with
      | lst ys =>
        simp only [e] at h
        obtain ⟨p, us, rfl, h1, h2, h3⟩ := ref_lst ab rx e
        by_cases c : ys.length < most
        · rw [if_pos c] at h
          refine ⟨p, us, w, rfl, rfl, h2, by rw [← h3.length]; exact most_lt c, ?_⟩
          exact (wrote_lst ab h1 (h3.append (.cons rw' .nil)) h).1 _ .non
        · rw [if_neg c] at h; exact h.elim
      | _ => simp only [e] at h; exact (show False from h).elim
  · exact h.elim
theorem d_extend : OpM cl X mExtend rExtendL := by
  intro W σ H ρ L x xs v vs Q ab rx rs h
  unfold mExtend at h
  split at h
  · rename_i i y
    obtain ⟨w, rfl, rw'⟩ := rep1 rs
    cases e : L[i]? with
    | none => simp only [e] at h; exact (show False from h).elim
    | some m =>
      cases m with
      | lst ys =>
        cases e2 : lstOf L y with
        | none => simp only [e, e2] at h; exact (show False from h).elim
        | some zs =>
          simp only [e, e2] at h
          obtain ⟨p, us, rfl, h1, h2, h3⟩ := ref_lst ab rx e
          obtain ⟨q, ws, rfl, h4, h5⟩ := lst_at ab rw' e2
          by_cases c : ys.length + zs.length ≤ most ∧ y ≠ .ref i
          · rw [if_pos c] at h
            refine ⟨p, q, us, ws, rfl, rfl, h2, h4, by rw [← h3.length, ← h5.length]; exact most_le c.1, ?_⟩
            exact (wrote_lst ab h1 (h3.append h5) h).1 _ .non
          · rw [if_neg c] at h; exact h.elim
      | _ => simp only [e] at h; exact (show False from h).elim
  · exact h.elim
theorem d_pop : OpM cl X mPop rPop := by
  intro W σ H ρ L x xs v vs Q ab rx rs h
  unfold mPop at h
  split at h
  · rename_i i
    cases rs
    cases e : L[i]? with
    | none => simp only [e] at h; exact (show False from h).elim
    | some m =>
      cases m with
      | lst ys =>
        simp only [e] at h
        obtain ⟨p, us, rfl, h1, h2, h3⟩ := ref_lst ab rx e
        cases ey : ys[ys.length - 1]? with
        | none => simp only [ey] at h; exact (show False from h).elim
        | some y =>
          simp only [ey] at h
          obtain ⟨w, w1, w2⟩ := h3.get ey
          refine ⟨p, us, w, rfl, rfl, h2, by rw [← h3.length]; exact w1, ?_⟩
          obtain ⟨q, st⟩ := wrote_lst ab h1 h3.dropLast h
          exact q _ (w2.step ab.live st)
      | _ => simp only [e] at h; exact (show False from h).elim
  · exact h.elim
theorem d_pLst : OpP cl X pLst rSetL := by
  intro W σ H ρ L x y z u v w Q ab rx ry rz h
  unfold pLst at h
  split at h
  · rename_i i k
    cases ry
    cases e : L[i]? with
    | none => simp only [e] at h; exact (show False from h).elim
    | some m =>
      cases m with
      | lst ys =>
        simp only [e] at h
        obtain ⟨p, us, rfl, h1, h2, h3⟩ := ref_lst ab rx e
        cases ek : ixI ys.length k with
        | none => simp only [ek] at h; exact (show False from h).elim
        | some j =>
          simp only [ek] at h
          refine ⟨p, us, k, j, rfl, rfl, h2, by rw [← h3.length]; exact ek, ?_⟩
          exact (wrote_lst ab h1 (h3.set rz j) h).1
      | _ => simp only [e] at h; exact (show False from h).elim
  · exact h.elim
theorem de_append (ho : DE cl W X o fo) (ha : DE cl W X e f) (hbase : attributeBase o "append" X.env (eval o X.env) = eval o X.env := by rfl)
    (hfew : ((backTo cpos (starEach [e] X.env)).all (fun x => !x.1) && (backToKw cpos (keywordEach [] X.env)).all (fun x => x.1.isSome)
      && decide ([e].length + ([] : List Keyword).length + (if ([] : List Keyword).isEmpty then 0 else 1) < 30)) = true := by rfl)
    (hline : (apos.endLine == cpos.line) = true := by rfl) (hs : starEach [e] X.env = (false, eval e X.env) :: starEach [] X.env := by rfl) : DE cl W X (.Call (.Attribute o "append" apos) [e] [] cpos) (eM mAppend fo (aCons f aNil)) :=
  de_ml PySem.F.plainAttrs_list PySem.F.slot_list_append PySem.F.type_list_append mt_append d_append ho (da_cons ha da_nil hs) hbase hfew hline hs rfl
theorem de_extend (ho : DE cl W X o fo) (ha : DE cl W X e f) (hbase : attributeBase o "extend" X.env (eval o X.env) = eval o X.env := by rfl)
    (hfew : ((backTo cpos (starEach [e] X.env)).all (fun x => !x.1) && (backToKw cpos (keywordEach [] X.env)).all (fun x => x.1.isSome)
      && decide ([e].length + ([] : List Keyword).length + (if ([] : List Keyword).isEmpty then 0 else 1) < 30)) = true := by rfl)
    (hline : (apos.endLine == cpos.line) = true := by rfl) (hs : starEach [e] X.env = (false, eval e X.env) :: starEach [] X.env := by rfl) : DE cl W X (.Call (.Attribute o "extend" apos) [e] [] cpos) (eM mExtend fo (aCons f aNil)) :=
  de_ml PySem.F.plainAttrs_list PySem.F.slot_list_extend PySem.F.type_list_extend mt_extendL d_extend ho (da_cons ha da_nil hs) hbase hfew hline hs rfl
theorem de_pop (ho : DE cl W X o fo) (hbase : attributeBase o "pop" X.env (eval o X.env) = eval o X.env := by rfl) (hline : (apos.endLine == cpos.line) = true := by rfl) : DE cl W X (.Call (.Attribute o "pop" apos) [] [] cpos) (eM mPop fo aNil) :=
  de_ml0 PySem.F.plainAttrs_list PySem.F.slot_list_pop PySem.F.type_list_pop mt_pop d_pop ho hbase hline
end
end Df
namespace Df
open PySem PySem.Spec PyProof.Rows L2
/-- a def of the text, as the top left it -/
def FnAt (K : PySem.W.Frag) (mg : Str → Option Value) (x : Str) (st : Stmt) (ps : List Str) : Prop := ∃ f fd, mg x = some (.ref f) ∧ Fun K x x st f fd ∧ L2.Binds K fd ps []
/-- .. and what it does -/
def OkFn (cl : Cl) (P : Program) (w : World) (K : PySem.W.Frag) (mg : Str → Option Value) (base : Heap) (x : Str) (ps : List Str) (k : Nat) (F : Fn) : Prop :=
  ∃ f fd, mg x = some (.ref f) ∧ PySem.W.keepIn K (.ref f) = true ∧ L2.Binds K fd ps [] ∧ FnOk P w K mg base CX0 k f fd ps (sp0 cl w K ps.length F)
section
variable {cl : Cl} {P : Program} {w : World} {K : PySem.W.Frag} {mg : Str → Option Value} {base : Heap}
theorem OkFn.mono {x : Str} {ps : List Str} {k j : Nat} {F : Fn} (h : OkFn cl P w K mg base x ps k F) (hk : k ≤ j) : OkFn cl P w K mg base x ps j F := by
  obtain ⟨f, fd, h1, h2, h3, h4⟩ := h
  exact ⟨f, fd, h1, h2, h3, h4.mono hk⟩
theorem ok_bad {x : Str} {st : Stmt} {ps : List Str} (A : FnAt K mg x st ps) (k : Nat) : OkFn cl P w K mg base x ps k (fun _ _ => .bad) := by
  obtain ⟨f, fd, h1, h2, h3⟩ := A
  refine ⟨f, fd, h1, h2.kp, h3, ⟨fun vs H Q E h => h.1, fun A outer s H args us vs Q E hr he hb hv h => ?_⟩⟩
  obtain ⟨_, ρ, ds, L, _, _, q⟩ := h
  exact q.elim
theorem ok_fn {x : Str} {st : Stmt} {N ps : List Str} {b : Sv} (n k : Nat) (A : FnAt K mg x st ps) (S : FnScope N ps (defScope st)) (hn : n = N.length)
    (hb : ∀ (f : Addr) (cdv : Value) (A : Around) (outer : List Env) (s : Shared) (H : Hp) (E : XK), Room k (A.deeper (envOfC x (defScope st) s.heap.objs.size f cdv)) → DSs cl W0 (cxOf CX0 P w K mg base N x (defScope st) f cdv A outer s H E).nox (defBody st) b) :
    OkFn cl P w K mg base x ps (k + 1) (fnOf n b) := by
  obtain ⟨f, fd, h1, h2, h3⟩ := A
  refine ⟨f, fd, h1, h2.kp, h3, fn0 h2 S n hn fun X cdv A outer s H E e hr => ?_⟩
  subst e
  exact hb f cdv A outer s H E hr
end
section
variable {cl : Cl} {W : WX} {X : Cx} {k : Nat} {ps : List Str} {F : Fn} {x : Str} {p pos : Pos} {e : Expr} {es : List Expr} {fs : Av}
theorem c0 (n : Nat) (G : OkFn cl X.prog X.w X.K X.mg X.base x ps k F) (hr : Room k X.A) (ha : DA cl W0 X (e :: es) fs) (hn : ps.length = n := by rfl) (hg : Gl X x := by rfl) (hdb : (x == ("__debug__" : Str)) = false := by decide) (he : starEach (e :: es) X.env = (false, eval e X.env) :: starEach es X.env := by rfl) (hpl : (backTo pos (starEach es X.env)).any (·.1) = false := by rfl) :
    DE cl W0 X (.Call (.Name x p) (e :: es) [] pos) (eCall n F fs) := by
  obtain ⟨f, fd, h1, h2, h3, h4⟩ := G
  subst hn
  exact de_call _ h4 hr h1 h2 h3 ha hg hdb he hpl
theorem c0F (n : Nat) (G : OkFn cl X.prog X.w X.K X.mg X.base x ps k F) (hr : Room k X.A) (ha : DA cl W0 X (e :: es) fs) (hn : ps.length = n := by rfl) (hg : Gl X x := by rfl) (hdb : (x == ("__debug__" : Str)) = false := by decide) (he : starEach (e :: es) X.env = (false, eval e X.env) :: starEach es X.env := by rfl) (hpl : (backTo pos (starEach es X.env)).any (·.1) = false := by rfl) :
    DE cl W0 X (.Call (.Name x p) (e :: es) [] pos) (eCallF n F fs) := by
  obtain ⟨f, fd, h1, h2, h3, h4⟩ := G
  subst hn
  exact de_callF _ h4 hr h1 h2 h3 ha hg hdb he hpl
theorem c1 (n : Nat) (G : OkFn cl X.prog X.w X.K X.mg X.base x ps k F) (hr : Room k X.A) (ha : DA cl W0 X (e :: es) fs) (hn : ps.length = n := by rfl) (hg : Gl X x := by rfl) (hdb : (x == ("__debug__" : Str)) = false := by decide) (he : starEach (e :: es) X.env = (false, eval e X.env) :: starEach es X.env := by rfl) (hpl : (backTo pos (starEach es X.env)).any (·.1) = false := by rfl) :
    DE cl W0 X (.Call (.Name x p) (e :: es) [] pos) (eCall1 n F fs) := by
  obtain ⟨f, fd, h1, h2, h3, h4⟩ := G
  subst hn
  exact de_call1 _ h4 hr h1 h2 h3 ha hg hdb he hpl
theorem cA (n : Nat) (G : OkFn cl X.prog X.w X.K X.mg X.base x ps k F) (hr : Room k X.A) (ha : DA cl W0 X (e :: es) fs) (hn : ps.length = n := by rfl) (hg : Gl X x := by rfl) (hdb : (x == ("__debug__" : Str)) = false := by decide) (he : starEach (e :: es) X.env = (false, eval e X.env) :: starEach es X.env := by rfl) (hpl : (backTo pos (starEach es X.env)).any (·.1) = false := by rfl) :
    DE cl W0 X (.Call (.Name x p) (e :: es) [] pos) (eCallA n F fs) := by
  obtain ⟨f, fd, h1, h2, h3, h4⟩ := G
  subst hn
  exact de_callA _ h4 hr h1 h2 h3 ha hg hdb he hpl
/-- a constant of the module -/
theorem de_gi {i : Int} (hm : ∃ t, X.mg x = some (.int i t)) (hg : Gl X x := by rfl) (hd : (x == ("__debug__" : Str)) = false := by decide) : DE cl W X (.Name x pos) (eC (.int i)) := by
  obtain ⟨t, hm⟩ := hm
  exact de_gint hm hg hd
theorem de_gs {y : Str} (hm : ∃ t, X.mg x = some (.str y t)) (hg : Gl X x := by rfl) (hd : (x == ("__debug__" : Str)) = false := by decide) : DE cl W X (.Name x pos) (eC (.str y)) := by
  obtain ⟨t, hm⟩ := hm
  exact de_gstr hm hg hd
end
end Df
/-! dicts with keys of all kinds: None, numbers, texts, tuples of such -/
namespace Df
open PySem PySem.Spec PyProof.Rows L2
abbrev Kv := NestedKey × Value × Value
def entV (w : World) (x : Kv) : DictEntry := ⟨x.1.hash w, x.2.1, x.2.2⟩
/-- the value is that key -/
def KIs (h : Heap) (k : NestedKey) (v : Value) : Prop := NestedIs h k v ∧ k.depth ≤ 8
structure EntsV (w : World) (h : Heap) (es : Array DictEntry) (xs : List Kv) : Prop where
  eq : es.toList = xs.map (entV w)
  is : ∀ x ∈ xs, KIs h x.1 x.2.1
  nd : (xs.map (·.1)).Nodup
section
variable {prog : Program} {w : World} {A : Around} {E : Value → Shared → Prop} {s : Shared} {h : Heap} {es : Array DictEntry} {xs : List Kv} {k : NestedKey} {key : Value}
theorem EntsV.get (H : EntsV w h es xs) (j : Nat) : es[j]? = (xs[j]?).map (entV w) := by
  rw [← Array.getElem?_toList, H.eq, List.getElem?_map]
theorem EntsV.size (H : EntsV w h es xs) : es.size = xs.length := by
  rw [← Array.length_toList, H.eq, List.length_map]
theorem EntsV.one (H : EntsV w h es xs) {i j : Nat} {x y : Kv} (hi : xs[i]? = some x) (hj : xs[j]? = some y) (e : x.1 = y.1) : i = j := by
  have a : (xs.map (·.1))[i]? = some x.1 := by rw [List.getElem?_map, hi]; rfl
  have b : (xs.map (·.1))[j]? = some x.1 := by rw [List.getElem?_map, hj, e]; rfl
  exact (List.getElem?_inj (List.getElem?_eq_some_iff.mp a).1 H.nd).mp (a.trans b.symm)
/-- where a key stands -/
def At (xs : List Kv) (k : NestedKey) (j : Nat) : Prop := ∃ y, xs[j]? = some y ∧ y.1 = k
/-- what a search tells -/
def Found (xs : List Kv) (k : NestedKey) : Option Nat → Prop
  | none => ∀ j, ¬ At xs k j
  | some j => At xs k j
/-- what is known in the midst of a search over the places left -/
def Midst (xs : List Kv) (k : NestedKey) (rest : List Nat) : Option Nat → Prop
  | none => ∀ j, At xs k j → j ∈ rest
  | some j => At xs k j ∧ j ∉ rest
theorem Midst.skip {x : Nat} {rest : List Nat} {hit : Option Nat} (m : Midst xs k (x :: rest) hit) (hn : ¬ At xs k x) : Midst xs k rest hit := by
  cases hit with
  | none =>
    intro j hj
    rcases List.mem_cons.mp (m j hj) with e | q
    · subst e; exact absurd hj hn
    · exact q
  | some j => exact ⟨m.1, fun z => m.2 (List.mem_cons_of_mem _ z)⟩
theorem Midst.done {hit : Option Nat} (m : Midst xs k [] hit) : Found xs k hit := by
  cases hit with
  | none => exact fun j hj => nomatch m j hj
  | some j => exact m.1
/-- the places of a hash -/
theorem places_all (H : EntsV w h es xs) : ∀ j, At xs k j → j ∈ placesWithHash es.size (fun i => es[i]?.map (·.hash)) (k.hash w) := by
  rintro j ⟨y, hy, rfl⟩
  refine List.mem_filter.mpr ⟨List.mem_range.mpr (by rw [H.size]; exact (List.getElem?_eq_some_iff.mp hy).1), ?_⟩
  show (es[j]?.map (·.hash) == some (y.1.hash w)) = true
  rw [H.get j, hy]
  simp [entV]
theorem places_nd (n : Nat) (f : Nat → Option Int) (i : Int) : (placesWithHash n f i).Nodup := List.nodup_range.filter _
theorem kis_eq (hs : s.heap = h) {x y : NestedKey} {u v : Value} (hx : KIs h x u) (hy : KIs h y v) (hu : A.units + 8 < cLine) {Q : Bool → Shared → Prop} (q : Q (decide (x = y)) s) : wpAny (model prog w) A (PySem.eqBool u v) Q E s := by
  subst hs
  have e := eqAt_key (prog := prog) (w := w) x y A s u v hx.1 hy.1 (by have := hx.2; omega)
  refine e _ _ ?_
  rw [← NestedKey.decide_eq]
  exact q
theorem kis_hash (hk : KIs s.heap k key) (hu : A.units + 8 < cLine) {Q : Int → Shared → Prop} (q : Q (k.hash w) { s with toks := s.toks + k.draws }) : wpAny (model prog w) A (PySem.pyHash key) Q E s :=
  pyHash_key k key A s Q hk.1 (by have := hk.2; omega) q
theorem kis_quiet (hk : KIs s.heap k key) {Q : Bool → Shared → Prop} (q : Q true s) : wpAny (model prog w) A (eqIsQuiet 8 key) Q E s := quiet_key k key 8 s hk.1 hk.2 A E Q q
theorem kis_tell {stored : List Value} (hs : s.heap = h) (hk : KIs h k key) (hst : ∀ v ∈ stored, ∃ k', KIs h k' v) {Q : Bool → Shared → Prop} (q : Q false s) : wpAny (model prog w) A (tableMayTell key stored) Q E s := by
  subst hs
  unfold tableMayTell
  split
  · exact wpAny_pure q
  · refine wpAny_bind (kis_quiet hk ?_)
    simp only [Bool.not_true, Bool.false_eq_true, if_false]
    refine wpAny_bind (wpAny_forIn_list _ (fun rest r s' => (s' = s ∧ r = (none, ())) ∧ ∀ v ∈ rest, ∃ k', KIs s.heap k' v) _ ?_ ?_ _ _ ⟨⟨rfl, rfl⟩, hst⟩)
    · rintro v rest r s' ⟨⟨rfl, rfl⟩, all⟩
      obtain ⟨k', hv⟩ := all v List.mem_cons_self
      refine wpAny_bind (kis_quiet hv ?_)
      simp only [Bool.not_true, Bool.false_eq_true, if_false]
      exact wpAny_pure ⟨⟨rfl, rfl⟩, fun u hu => all u (List.mem_cons_of_mem _ hu)⟩
    · rintro r s' ⟨⟨rfl, rfl⟩, _⟩
      exact wpAny_pure q
variable {d : Addr} {o : Obj} {ep : Nat}
theorem stored_is (H : EntsV w h es xs) (ps : List Nat) : ∀ v ∈ ps.filterMap fun i => es[i]?.map (·.key), ∃ k', KIs h k' v := fun v hv => by
  obtain ⟨i, _, e⟩ := List.mem_filterMap.mp hv
  rw [H.get i] at e
  cases q : xs[i]? with
  | none => rw [q] at e; cases e
  | some y =>
    rw [q] at e
    cases e
    exact ⟨y.1, H.is y (List.mem_of_getElem? q)⟩
/-- keys that are carried by value -/
theorem find_plain (ho : s.heap.get? d = some o) (hd : o.data = .dict es ep) (H : EntsV w s.heap es xs) (hk : KIs s.heap k key) (hu : A.units + 8 < cLine) {Q : Option Nat → Shared → Prop} (q : ∀ r, Found xs k r → Q r s) :
    wpAny (model prog w) A (dictWalkPlain d key (k.hash w) es (placesWithHash es.size (fun i => es[i]?.map (·.hash)) (k.hash w))) Q E s := by
  unfold dictWalkPlain
  refine wpAny_bind (wpAny_forIn_list _ (fun rest r s' => s' = s ∧ r = (none, ()) ∧ Midst xs k rest none) _ ?_ ?_ _ _ ⟨rfl, rfl, places_all H⟩)
  · rintro i rest r s' ⟨rfl, rfl, m⟩
    cases hy : xs[i]? with
    | none =>
      rw [H.get i, hy]
      exact wpAny_pure ⟨rfl, rfl, m.skip fun ⟨y, z, _⟩ => by rw [hy] at z; cases z⟩
    | some y =>
      rw [H.get i, hy]
      have hyk := H.is y (List.mem_of_getElem? hy)
      show wpAny _ _ (if (y.1.hash w == k.hash w) = true then _ else _) _ E _
      by_cases hh : (y.1.hash w == k.hash w) = true
      · rw [if_pos hh]
        refine wpAny_bind (wpAny_dictEpoch ho hd (wpAny_bind (kis_eq rfl hyk hk hu (wpAny_bind (wpAny_dictEpoch ho hd ?_)))))
        show wpAny _ _ (if (ep != ep) = true then _ else _) _ E _
        rw [if_neg (by simp)]
        by_cases e : y.1 = k
        · rw [decide_eq_true e]
          simp only [if_true]
          refine wpAny_bind (wpAny_rule ?_)
          exact wpAny_pure (wpAny_pure (q (some i) ⟨y, hy, e⟩))
        · rw [decide_eq_false e]
          simp only [Bool.false_eq_true, if_false]
          refine wpAny_bind (wpAny_rule ?_)
          exact wpAny_pure ⟨rfl, rfl, m.skip fun ⟨y', z, z2⟩ => by rw [hy] at z; cases z; exact e z2⟩
      · rw [if_neg hh]
        refine wpAny_pure ⟨rfl, rfl, m.skip fun ⟨y', z, z2⟩ => by
          rw [hy] at z; cases z
          exact hh (by rw [z2]; simp)⟩
  · rintro r s' ⟨rfl, rfl, m⟩
    exact wpAny_pure (q none (Midst.done m))
theorem At.same (H : EntsV w h es xs) {i j : Nat} (hi : At xs k i) (hj : At xs k j) : i = j := by
  obtain ⟨x, h1, h2⟩ := hi
  obtain ⟨y, h3, h4⟩ := hj
  exact H.one h1 h3 (h2.trans h4.symm)
theorem any_not {a : Addr} (H : EntsV w h es xs) (hk : KIs h k (.ref a)) : ¬ (es.any fun e => e.key == Value.ref a && e.hash != k.hash w) = true := by
  rw [← Array.any_toList, List.any_eq_true, H.eq]
  rintro ⟨e, he, c⟩
  obtain ⟨x, hx, rfl⟩ := List.mem_map.mp he
  rw [Bool.and_eq_true, beq_iff_eq, bne_iff_ne] at c
  have hx2 := H.is x hx
  have e1 : x.2.1 = Value.ref a := c.1
  rw [e1] at hx2
  exact c.2 (by show x.1.hash w = _; rw [NestedIs.inj _ _ _ hx2.1 hk.1])
theorem if_split {α : Type} {c : Prop} [Decidable c] {x y : Sem α} {M : Model} {Q : α → Shared → Prop} (h1 : c → wpAny M A x Q E s) (h2 : ¬ c → wpAny M A y Q E s) : wpAny M A (if c then x else y) Q E s := by
  by_cases h : c
  · rw [if_pos h]; exact h1 h
  · rw [if_neg h]; exact h2 h
theorem bind_split {α β : Type} {c : Prop} [Decidable c] {x : α} {y : Sem α} {f : α → Sem β} {M : Model} {Q : β → Shared → Prop} (h1 : c → wpAny M A (f x) Q E s) (h2 : ¬ c → wpAny M A y (fun a s => wpAny M A (f a) Q E s) E s) : wpAny M A ((if c then pure x else y) >>= f) Q E s := by
  by_cases h : c
  · rw [if_pos h]; exact wpAny_bind (wpAny_pure (h1 h))
  · rw [if_neg h]; exact wpAny_bind (h2 h)
/-- a search; not for a text among texts alone -/
theorem find_gen (ho : s.heap.get? d = some o) (hd : o.data = .dict es ep) (H : EntsV w s.heap es xs) (hk : KIs s.heap k key) (hu : A.units + 8 < cLine) {Q : Option Nat → Shared → Prop} (q : ∀ r, Found xs k r → Q r s)
    (hno : ∀ x t, key = .str x t → ¬ (es.all fun e => isExactStrKey e.key) = true) : wpAny (model prog w) A (dictFind d key (k.hash w)) Q E s := by
  have plainWay := find_plain (prog := prog) (E := E) ho hd H hk hu q
  have tellWay : ∀ Q' : Bool → Shared → Prop, Q' false s → wpAny (model prog w) A (tableMayTell key ((placesWithHash es.size (fun i => es[i]?.map (·.hash)) (k.hash w)).filterMap fun i => es[i]?.map (·.key))) Q' E s := fun Q' h => kis_tell rfl hk (stored_is H _) h
  have pl := places_all (k := k) H
  have pn := places_nd es.size (fun i => es[i]?.map (·.hash)) (k.hash w)
  unfold dictFind
  refine wpAny_holding (wpAny_bind (wpAny_dictEntries ho hd ?_))
  generalize placesWithHash es.size (fun i => es[i]?.map (·.hash)) (k.hash w) = ps at *
  have anyNot : ∀ a, key = .ref a → ¬ (es.any fun e => e.key == Value.ref a && e.hash != k.hash w) = true := fun a e => any_not H (by rw [← e]; exact hk)
  cases key
  all_goals
    try dsimp only
    try rw [if_neg (hno _ _ rfl)]
    refine (if_split (fun c => ?_) fun c => ?_)
    · exact plainWay
    try rw [if_neg (anyNot _ rfl)]
    refine if_split (fun _ => wpAny_bind (wpAny_pure ?_)) fun _ => wpAny_bind (tellWay _ ?_)
    all_goals
      rw [if_neg (by simp)]
      refine wpAny_bind (wpAny_forIn_list _ (fun (rest : List Nat) (r : Option (Option Nat) × Option Nat) (s' : Shared) => (s' = s ∧ r.1 = none) ∧ rest.Nodup ∧ Midst xs k rest r.2) _ ?_ ?_ _ _ ⟨⟨rfl, rfl⟩, pn, pl⟩)
      · rintro i rest ⟨r, hit⟩ s' ⟨⟨rfl, hr⟩, nd, m⟩
        obtain rfl : r = none := hr
        rw [List.nodup_cons] at nd
        cases hy : xs[i]? with
        | none =>
          rw [H.get i, hy]
          exact wpAny_pure ⟨⟨rfl, rfl⟩, nd.2, m.skip fun ⟨y, z, _⟩ => by rw [hy] at z; cases z⟩
        | some y =>
          rw [H.get i, hy]
          have hyk := H.is y (List.mem_of_getElem? hy)
          dsimp only [Option.map_some]
          refine if_split (fun hh => ?_) fun hh => ?_
          · refine wpAny_bind (wpAny_dictEpoch ho hd (wpAny_bind (kis_eq rfl hyk hk hu (wpAny_bind (wpAny_dictEpoch ho hd ?_)))))
            rw [if_neg (by simp)]
            by_cases e : y.1 = k
            · have hat : At xs k i := ⟨y, hy, e⟩
              rw [decide_eq_true e]
              have hn : hit = none := by
                cases hit with
                | none => rfl
                | some j => exact absurd (At.same H m.1 hat ▸ List.mem_cons_self) m.2
              subst hn
              simp only [if_true, Option.isSome_none, Bool.false_eq_true, if_false]
              refine wpAny_bind (wpAny_rule ?_)
              refine if_split (fun _ => ?_) fun _ => ?_
              · exact wpAny_pure (wpAny_pure (q (some i) hat))
              · exact wpAny_pure ⟨⟨rfl, rfl⟩, nd.2, hat, nd.1⟩
            · rw [decide_eq_false e]
              simp only [Bool.false_eq_true, if_false, Bool.false_and]
              refine wpAny_bind (wpAny_rule ?_)
              exact wpAny_pure ⟨⟨rfl, rfl⟩, nd.2, m.skip fun ⟨y', z, z2⟩ => by rw [hy] at z; cases z; exact e z2⟩
          · refine wpAny_pure ⟨⟨rfl, rfl⟩, nd.2, m.skip fun ⟨y', z, z2⟩ => by
              rw [hy] at z; cases z
              exact hh (by rw [← z2]; simp [entV])⟩
      · rintro ⟨r, hit⟩ s' ⟨⟨rfl, hr⟩, _, m⟩
        obtain rfl : r = none := hr
        exact wpAny_pure (q hit (Midst.done m))
/-- a text among texts alone -/
theorem find_text (ho : s.heap.get? d = some o) (hd : o.data = .dict es ep) (H : EntsV w s.heap es xs) {x : Str} {t : Tok} (hk : KIs s.heap k (.str x t)) (hu : A.units + 8 < cLine) {Q : Option Nat → Shared → Prop} (q : ∀ r, Found xs k r → Q r s) :
    wpAny (model prog w) A (foundByValue d (.str x t) es x) Q E s := by
  obtain rfl : k = .text x := by cases hk.1; rfl
  have sure : ∀ (j : Nat) (e : DictEntry), es[j]? = some e → (e.key.isStr x = true ↔ At xs (.text x) j) := fun j e he => by
    rw [H.get j] at he
    obtain ⟨y, hy, rfl⟩ := Option.map_eq_some_iff.mp he
    have hyk := H.is y (List.mem_of_getElem? hy)
    constructor
    · intro c
      refine ⟨y, hy, ?_⟩
      have c' : y.2.1.isStr x = true := c
      cases hv : y.2.1 with
      | str z u =>
        rw [hv] at c' hyk
        have : z = x := by simpa [Value.isStr] using c'
        subst this
        generalize y.1 = yk at hyk
        cases hyk.1
        rfl
      | _ => rw [hv] at c'; exact absurd c' Bool.false_ne_true
    · rintro ⟨y', hy', e2⟩
      rw [hy] at hy'
      cases hy'
      show y.2.1.isStr x = true
      rw [e2] at hyk
      generalize y.2.1 = u at hyk
      cases hyk.1
      simp [Value.isStr]
  unfold foundByValue
  cases hf : es.findIdx? (·.key.isStr x) with
  | none =>
    rw [Array.findIdx?_eq_none_iff] at hf
    refine wpAny_pure (q none fun j hj => ?_)
    obtain ⟨y, hy, e2⟩ := hj
    have he : es[j]? = some (entV w y) := by rw [H.get j, hy]; rfl
    have c := (sure j _ he).mpr ⟨y, hy, e2⟩
    have := hf (entV w y) (Array.mem_of_getElem? he)
    rw [this] at c
    cases c
  | some i =>
    have hlt := Array.findIdx?_eq_some_iff_getElem.mp hf
    obtain ⟨hi, hp, _⟩ := hlt
    have he : es[i]? = some es[i] := Array.getElem?_eq_getElem hi
    have hat := (sure i es[i] he).mp hp
    obtain ⟨y, hy, e2⟩ := id hat
    have ee : es[i] = entV w y := by
      have := H.get i
      rw [he, hy] at this
      exact Option.some.inj this
    dsimp only
    rw [he]
    dsimp only
    rw [ee]
    refine wpAny_bind (wpAny_dictEpoch ho hd (wpAny_bind (kis_eq rfl (H.is y (List.mem_of_getElem? hy)) hk hu (wpAny_bind (wpAny_dictEpoch ho hd ?_)))))
    rw [if_neg (by simp), decide_eq_true e2]
    simp only [if_true]
    exact wpAny_bind (wpAny_rule (wpAny_pure (q (some i) hat)))
theorem find_key (ho : s.heap.get? d = some o) (hd : o.data = .dict es ep) (H : EntsV w s.heap es xs) (hk : KIs s.heap k key) (hu : A.units + 8 < cLine) {Q : Option Nat → Shared → Prop} (q : ∀ r, Found xs k r → Q r s) : wpAny (model prog w) A (dictFind d key (k.hash w)) Q E s := by
  by_cases c : ∃ x t, key = .str x t ∧ (es.all fun e => isExactStrKey e.key) = true
  · obtain ⟨x, t, rfl, c⟩ := c
    have ft := find_text (prog := prog) (A := A) (E := E) ho hd H hk hu q
    unfold dictFind
    refine wpAny_holding (wpAny_bind (wpAny_dictEntries ho hd ?_))
    dsimp only
    rw [if_pos c]
    exact ft
  · exact find_gen ho hd H hk hu q fun x t e z => c ⟨x, t, e, z⟩
/-! the dict as a whole -/
def DictV (w : World) (h : Heap) (d : Addr) (xs : List Kv) : Prop := ∃ o es ep, h.get? d = some o ∧ o.ExactDict ∧ o.data = .dict es ep ∧ EntsV w h es xs
def atV (xs : List Kv) (k : NestedKey) : Option Value := (xs.find? fun x => decide (x.1 = k)).map (·.2.2)
def putV (k : NestedKey) (v : Value) (x : Kv) : Kv := if x.1 = k then (x.1, x.2.1, v) else x
def storV (xs : List Kv) (k : NestedKey) (key v : Value) : List Kv := if (atV xs k).isSome = true then xs.map (putV k v) else xs ++ [(k, key, v)]
theorem DictV.typeIs {d : Addr} (hm : DictV w s.heap d xs) : s.TypeIs (.ref d) "dict" := let ⟨o, _, _, ho, hc, _⟩ := hm; ⟨o, ho, hc.1⟩
theorem atV_found (hn : (xs.map (·.1)).Nodup) {r : Option Nat} (f : Found xs k r) : match r with
    | none => atV xs k = none
    | some j => ∃ y, xs[j]? = some y ∧ y.1 = k ∧ atV xs k = some y.2.2 := by
  cases r with
  | none =>
    show atV xs k = none
    unfold atV
    rw [Option.map_eq_none_iff, List.find?_eq_none]
    intro x hx c
    obtain ⟨j, hj⟩ := List.mem_iff_getElem?.mp hx
    exact f j ⟨x, hj, of_decide_eq_true c⟩
  | some j =>
    obtain ⟨y, hy, e⟩ := f
    refine ⟨y, hy, e, ?_⟩
    unfold atV
    cases hf : xs.find? fun x => decide (x.1 = k) with
    | none =>
      rw [List.find?_eq_none] at hf
      exact absurd (decide_eq_true e) (hf y (List.mem_of_getElem? hy))
    | some z =>
      have hz := List.find?_some hf
      obtain ⟨i, hi⟩ := List.mem_iff_getElem?.mp (List.mem_of_find?_eq_some hf)
      have a : (xs.map (·.1))[i]? = some k := by rw [List.getElem?_map, hi]; exact congrArg some (of_decide_eq_true hz)
      have b : (xs.map (·.1))[j]? = some k := by rw [List.getElem?_map, hy]; exact congrArg some e
      have ij : i = j := (List.getElem?_inj (List.getElem?_eq_some_iff.mp a).1 hn).mp (a.trans b.symm)
      subst ij
      rw [hi] at hy
      cases hy
      rfl
theorem get_key (hm : DictV w s.heap d xs) (hk : KIs s.heap k key) (hu : A.units + 8 < cLine) {Q : Option Value → Shared → Prop} (q : Q (atV xs k) { s with toks := s.toks + k.draws }) : wpAny (model prog w) A (dictGet d key) Q E s := by
  obtain ⟨o, es, ep, ho, _, hd, H⟩ := hm
  unfold dictGet
  refine wpAny_holding (wpAny_bind (kis_hash hk hu (wpAny_bind (find_key (s := { s with toks := s.toks + k.draws }) ho hd H hk hu fun r f => ?_))))
  have z := atV_found H.nd f
  cases r with
  | none => rw [show atV xs k = none from z] at q; exact wpAny_pure q
  | some j =>
    obtain ⟨y, hy, _, e⟩ := z
    rw [e] at q
    refine wpAny_bind (wpAny_dictEntries (s := { s with toks := s.toks + k.draws }) ho hd ?_)
    rw [H.get j, hy]
    exact wpAny_pure q
theorem EntsV.kept {h h' : Heap} (H : EntsV w h es xs) (ho : h.get? d = some o) (hd : o.data = .dict es ep) (hs : Heap.SameBut d h h') : ∀ k v, KIs h k v → KIs h' k v := fun k v hk =>
  ⟨NestedIs.at (fun a o' vs n g c => (hs.2 a fun e => by subst e; rw [ho] at g; cases g; rw [hd] at c; cases c).trans g) k v hk.1, hk.2⟩
theorem map_putV (hn : (xs.map (·.1)).Nodup) {j : Nat} {y : Kv} (hy : xs[j]? = some y) (v : Value) : (xs.map (entV w)).modify j (fun e : DictEntry => { e with val := v }) = (xs.map (putV y.1 v)).map (entV w) := by
  apply List.ext_getElem?
  intro i
  rw [List.getElem?_modify, List.getElem?_map, List.getElem?_map, List.getElem?_map]
  cases hi : xs[i]? with
  | none => simp
  | some z =>
    simp only [Option.map_some]
    by_cases c : j = i
    · subst c
      rw [hy] at hi
      cases hi
      simp [putV, entV]
    · have hne : ¬ z.1 = y.1 := fun e => c (by
        have a : (xs.map (·.1))[j]? = some y.1 := by rw [List.getElem?_map, hy]; rfl
        have b : (xs.map (·.1))[i]? = some y.1 := by rw [List.getElem?_map, hi, ← e]; rfl
        exact (List.getElem?_inj (List.getElem?_eq_some_iff.mp a).1 hn).mp (a.trans b.symm))
      simp [c, putV, hne]
theorem keys_putV (k : NestedKey) (v : Value) : ∀ xs : List Kv, (xs.map (putV k v)).map (·.1) = xs.map (·.1)
  | [] => rfl
  | x :: xs => by
    rw [List.map_cons, List.map_cons, List.map_cons, keys_putV k v xs]
    congr 1
    unfold putV
    split <;> rfl
theorem put_old {h h' : Heap} (H : EntsV w h es xs) (ho : h.get? d = some o) (hd : o.data = .dict es ep) (hs : Heap.SameBut d h h') {j : Nat} {y : Kv} (hy : xs[j]? = some y) (v : Value) : EntsV w h' (es.modify j fun e => { e with val := v }) (xs.map (putV y.1 v)) where
  eq := by
    rw [← map_putV H.nd hy v, ← H.eq]
    obtain ⟨l⟩ := es
    simp
  is := fun x hx => by
    obtain ⟨z, hz, rfl⟩ := List.mem_map.mp hx
    have := H.kept ho hd hs z.1 z.2.1 (H.is z hz)
    unfold putV
    split <;> exact this
  nd := by rw [keys_putV]; exact H.nd
theorem putV_new {h h' : Heap} (H : EntsV w h es xs) (ho : h.get? d = some o) (hd : o.data = .dict es ep) (hs : Heap.SameBut d h h') (hk : KIs h k key) (f : ∀ j, ¬ At xs k j) (v : Value) : EntsV w h' (es.push ⟨k.hash w, key, v⟩) (xs ++ [(k, key, v)]) where
  eq := by simp [H.eq, entV]
  is := fun x hx => by
    rcases List.mem_append.mp hx with hx | hx
    · exact H.kept ho hd hs _ _ (H.is x hx)
    · rw [List.mem_singleton.mp hx]; exact H.kept ho hd hs _ _ hk
  nd := by
    rw [List.map_append, List.nodup_append]
    refine ⟨H.nd, by simp, fun a ha b hb e => ?_⟩
    obtain ⟨x, hx, rfl⟩ := List.mem_map.mp ha
    obtain ⟨j, hj⟩ := List.mem_iff_getElem?.mp hx
    have hb' : b = k := by simpa using hb
    exact f j ⟨x, hj, e.trans hb'⟩
theorem set_hashed {v : Value} (hm : DictV w s.heap d xs) (hk : KIs s.heap k key) (hu : A.units + 8 < cLine) (hz : xs.length ≤ sizeLine) {Q : Unit → Shared → Prop}
    (q : ∀ h', DictV w h' d (storV xs k key v) → Heap.SameBut d s.heap h' → Q () { s with heap := h' }) : wpAny (model prog w) A (dictSetHashed d key (k.hash w) v) Q E s := by
  obtain ⟨o, es, ep, ho, hc, hd, H⟩ := hm
  unfold dictSetHashed
  refine wpAny_holding (wpAny_bind (find_key ho hd H hk hu fun r f => ?_))
  have z := atV_found H.nd f
  cases r with
  | none =>
    have es0 : storV xs k key v = xs ++ [(k, key, v)] := by unfold storV; rw [show atV xs k = none from z]; rfl
    refine wpAny_bind (wpAny_rule (wpAny_updateDictKeys (hz := by rw [H.size]; exact hz) ho hd (q _ ⟨_, _, ep + 1, Heap.get?_update_self _ ho (Obj.isFreed_of_dict (Obj.data_mapDictKeys hd _)), hc.mapDictKeys _, Obj.data_mapDictKeys hd _, ?_⟩ (Heap.SameBut.update ..))))
    rw [es0]
    exact putV_new H ho hd (Heap.SameBut.update ..) hk f v
  | some j =>
    obtain ⟨y, hy, e1, e2⟩ := z
    have es1 : storV xs k key v = xs.map (putV y.1 v) := by unfold storV; rw [e2, e1]; rfl
    refine wpAny_bind (wpAny_rule (wpAny_bind (wpAny_updateDict ho hd (wpAny_point (q _ ⟨_, _, ep, Heap.get?_update_self _ ho (Obj.isFreed_of_dict (Obj.data_mapDict hd _)), hc.mapDict _, Obj.data_mapDict hd _, ?_⟩ (Heap.SameBut.update ..))))))
    rw [es1]
    exact put_old H ho hd (Heap.SameBut.update ..) hy v
theorem set_keyV {v : Value} (hm : DictV w s.heap d xs) (hk : KIs s.heap k key) (hu : A.units + 8 < cLine) (hz : xs.length ≤ sizeLine) {Q : Unit → Shared → Prop}
    (q : ∀ h', DictV w h' d (storV xs k key v) → Heap.SameBut d s.heap h' → Q () { s with heap := h', toks := s.toks + k.draws }) : wpAny (model prog w) A (dictSet d key v) Q E s := by
  unfold dictSet
  exact wpAny_holding (wpAny_bind (kis_hash hk hu (set_hashed (s := { s with toks := s.toks + k.draws }) hm hk hu hz fun h' h1 h2 => q h' h1 h2)))
theorem setdef_keyV {v : Value} (hm : DictV w s.heap d xs) (hk : KIs s.heap k key) (hu : A.units + 8 < cLine) (hz : xs.length ≤ sizeLine) {Q : Value → Shared → Prop}
    (q1 : ∀ u, atV xs k = some u → Q u { s with toks := s.toks + k.draws })
    (q2 : atV xs k = none → ∀ h', DictV w h' d (storV xs k key v) → Heap.SameBut d s.heap h' → Q v { s with heap := h', toks := s.toks + k.draws }) : wpAny (model prog w) A (dictSetDefault d key v) Q E s := by
  obtain ⟨o, es, ep, ho, hc, hd, H⟩ := hm
  unfold dictSetDefault
  refine wpAny_holding (wpAny_bind (kis_hash hk hu (wpAny_bind (find_key (s := { s with toks := s.toks + k.draws }) ho hd H hk hu fun r f => ?_))))
  have z := atV_found H.nd f
  cases r with
  | none =>
    have es0 : storV xs k key v = xs ++ [(k, key, v)] := by unfold storV; rw [show atV xs k = none from z]; rfl
    refine wpAny_bind (wpAny_rule (wpAny_bind (wpAny_updateDictKeys (s := { s with toks := s.toks + k.draws }) (hz := by rw [H.size]; exact hz) ho hd (wpAny_pure (q2 z _ ⟨_, _, ep + 1, Heap.get?_update_self _ ho (Obj.isFreed_of_dict (Obj.data_mapDictKeys hd _)), hc.mapDictKeys _, Obj.data_mapDictKeys hd _, ?_⟩ (Heap.SameBut.update ..))))))
    rw [es0]
    exact putV_new H ho hd (Heap.SameBut.update ..) hk f v
  | some j =>
    obtain ⟨y, hy, e1, e2⟩ := z
    refine wpAny_bind (wpAny_dictEntries (s := { s with toks := s.toks + k.draws }) ho hd ?_)
    rw [H.get j, hy]
    exact wpAny_bind (wpAny_rule (wpAny_pure (q1 _ e2)))
end
end Df
/-! dicts whose keys are tuples -/
namespace Df
open PySem PySem.Spec PyProof.Rows L2

mutual
theorem toKey_inj : ∀ a b : D, keyish a = true → keyish b = true → toKey a = toKey b → a = b
  | .non, b, _, hb, e => by cases b <;> first | rfl | exact absurd hb Bool.false_ne_true | (simp [toKey] at e)
  | .int i, b, _, hb, e => by
    cases b <;> first | exact absurd hb Bool.false_ne_true | (simp [toKey] at e) | skip
    rw [e]
  | .str i, b, _, hb, e => by
    cases b <;> first | exact absurd hb Bool.false_ne_true | (simp [toKey] at e) | skip
    rw [e]
  | .tup xs, b, ha, hb, e => by
    cases b with
    | tup ys =>
      rw [toKey, toKey] at e
      rw [toKeys_inj xs ys (by simpa [keyish] using ha) (by simpa [keyish] using hb) (NestedKey.tup.inj e)]
    | non => simp [toKey] at e
    | int _ => simp [toKey] at e
    | str _ => simp [toKey] at e
    | _ => exact absurd hb Bool.false_ne_true
  | .bl _, _, h, _, _ => absurd h Bool.false_ne_true
  | .lst _, _, h, _, _ => absurd h Bool.false_ne_true
  | .dct _, _, h, _, _ => absurd h Bool.false_ne_true
  | .ref _, _, h, _, _ => absurd h Bool.false_ne_true
  | .scr _, _, h, _, _ => absurd h Bool.false_ne_true
  | .xc _ _, _, h, _, _ => absurd h Bool.false_ne_true
  | .clo _ _, _, h, _, _ => absurd h Bool.false_ne_true
theorem toKeys_inj : ∀ a b : List D, keyishL a = true → keyishL b = true → toKeys a = toKeys b → a = b
  | [], [], _, _, _ => rfl
  | [], _ :: _, _, _, e => by simp [toKeys] at e
  | _ :: _, [], _, _, e => by simp [toKeys] at e
  | x :: xs, y :: ys, ha, hb, e => by
    rw [keyishL, Bool.and_eq_true] at ha hb
    rw [toKeys, toKeys] at e
    injection e with e1 e2
    rw [toKey_inj x y ha.1 hb.1 e1, toKeys_inj xs ys ha.2 hb.2 e2]
end
mutual
theorem toKey_depth : ∀ a : D, keyish a = true → (toKey a).depth = a.depth
  | .non, _ => rfl
  | .int _, _ => rfl
  | .str _, _ => rfl
  | .tup xs, h => by rw [toKey, NestedKey.depth, D.depth, toKeys_depth xs (by simpa [keyish] using h)]
  | .bl _, h => absurd h Bool.false_ne_true
  | .lst _, h => absurd h Bool.false_ne_true
  | .dct _, h => absurd h Bool.false_ne_true
  | .ref _, h => absurd h Bool.false_ne_true
  | .scr _, h => absurd h Bool.false_ne_true
  | .xc _ _, h => absurd h Bool.false_ne_true
  | .clo _ _, h => absurd h Bool.false_ne_true
theorem toKeys_depth : ∀ xs : List D, keyishL xs = true → NestedKey.depthAll (toKeys xs) = D.depthL xs
  | [], _ => rfl
  | x :: xs, h => by
    rw [keyishL, Bool.and_eq_true] at h
    rw [toKeys, NestedKey.depthAll, D.depthL, toKey_depth x h.1, toKeys_depth xs h.2]
end
theorem isKey_keyish {k : D} (h : isKey k = true) : keyish k = true := by
  simp only [isKey, Bool.and_eq_true] at h; exact h.1
theorem isKey_depth {k : D} (h : isKey k = true) : (toKey k).depth ≤ 8 := by
  rw [toKey_depth k (isKey_keyish h)]
  simp only [isKey, Bool.and_eq_true, decide_eq_true_eq] at h; omega
theorem key_iff {a b : D} (ha : isKey a = true) (hb : isKey b = true) : toKey a = toKey b ↔ a = b := ⟨toKey_inj a b (isKey_keyish ha) (isKey_keyish hb), fun e => by rw [e]⟩

/-! look-ups and stores -/
theorem dget_put_ne {k a : D} (v : D) (hk : isKey k = true) (hne : a ≠ k) (ha : isKey a = true) : ∀ {r : List (D × D)}, (∀ p ∈ r, isKey p.1 = true) → dget (dput r k v) a = dget r a
  | [], _ => by
    show (if D.eqv k a = true then some v else none) = none
    rw [key_eqv hk ha, decide_eq_false (Ne.symm hne)]; rfl
  | (c, x) :: r, h => by
    have hc := h _ List.mem_cons_self
    rw [dput]
    by_cases e : D.eqv c k = true
    · rw [if_pos e, dget, dget]
      rw [key_eqv hc hk, decide_eq_true_eq] at e
      have e2 : D.eqv c a = false := by rw [key_eqv hc ha, e]; exact decide_eq_false (Ne.symm hne)
      rw [e2]; rfl
    · rw [if_neg e, dget, dget, dget_put_ne v hk hne ha fun p hp => h p (List.mem_cons_of_mem _ hp)]
theorem dget_put_same {k : D} (v : D) (hk : isKey k = true) : ∀ {r : List (D × D)}, (∀ p ∈ r, isKey p.1 = true) → dget (dput r k v) k = some v
  | [], _ => by
    show (if D.eqv k k = true then some v else none) = some v
    rw [key_eqv hk hk, decide_eq_true rfl]; rfl
  | (c, x) :: r, h => by
    rw [dput]
    by_cases e : D.eqv c k = true
    · rw [if_pos e, dget, if_pos e]
    · rw [if_neg e, dget, if_neg e, dget_put_same v hk fun p hp => h p (List.mem_cons_of_mem _ hp)]
def Nd : List (D × D) → Prop
  | [] => True
  | (k, _) :: r => isKey k = true ∧ dget r k = none ∧ Nd r
theorem Nd.keys : ∀ {kvs : List (D × D)}, Nd kvs → ∀ p ∈ kvs, isKey p.1 = true
  | [], _, p, hp => nomatch hp
  | (k, x) :: r, h, p, hp => by
    rcases List.mem_cons.mp hp with e | hp
    · subst e; exact h.1
    · exact Nd.keys h.2.2 p hp
theorem Nd.put {k : D} (v : D) (hk : isKey k = true) : ∀ {kvs : List (D × D)}, Nd kvs → Nd (dput kvs k v)
  | [], _ => ⟨hk, rfl, True.intro⟩
  | (c, x) :: r, h => by
    rw [dput]
    by_cases e : D.eqv c k = true
    · rw [if_pos e]; exact ⟨h.1, h.2.1, h.2.2⟩
    · rw [if_neg e]
      rw [key_eqv h.1 hk, decide_eq_true_eq] at e
      exact ⟨h.1, by rw [dget_put_ne v hk e h.1 (Nd.keys h.2.2)]; exact h.2.1, Nd.put v hk h.2.2⟩
theorem dput_new {k : D} (v : D) : ∀ {kvs : List (D × D)}, dget kvs k = none → dput kvs k v = kvs ++ [(k, v)]
  | [], _ => rfl
  | (c, x) :: r, h => by
    rw [dget] at h
    by_cases e : D.eqv c k = true
    · rw [if_pos e] at h; cases h
    · rw [if_neg e] at h
      rw [dput, if_neg e, dput_new v h]; rfl
theorem dput_length {k : D} (v : D) : ∀ kvs : List (D × D), (dput kvs k v).length ≤ kvs.length + 1
  | [] => Nat.le_refl _
  | (c, x) :: r => by
    rw [dput]
    by_cases e : D.eqv c k = true
    · rw [if_pos e]; simp
    · rw [if_neg e]
      have := dput_length (k := k) v r
      simp only [List.length_cons]; omega

theorem atV_cons (x : Kv) (xs : List Kv) (k : NestedKey) : atV (x :: xs) k = if x.1 = k then some x.2.2 else atV xs k := by
  unfold atV
  rw [List.find?_cons]
  by_cases e : x.1 = k
  · rw [decide_eq_true e, if_pos e]; rfl
  · rw [decide_eq_false e, if_neg e]
theorem putAll_fresh (k : NestedKey) (u : Value) : ∀ xs : List Kv, atV xs k = none → xs.map (putV k u) = xs
  | [], _ => rfl
  | x :: xs, h => by
    rw [atV_cons] at h
    by_cases e : x.1 = k
    · rw [if_pos e] at h; cases h
    · rw [if_neg e] at h
      rw [List.map_cons, putAll_fresh k u xs h, putV, if_neg e]
def storAllV (xs ps : List Kv) : List Kv := ps.foldl (fun acc p => storV acc p.1 p.2.1 p.2.2) xs

/-- entry by entry -/
def KE1 (G : Gm) (H : Hp) (ρ : Rho) (p : D × D) (q : Kv) : Prop := isKey p.1 = true ∧ q.1 = toKey p.1 ∧ (∃ kv, Rep G H ρ p.1 kv ∧ RelV kv q.2.1) ∧ ∃ v, Rep G H ρ p.2 v ∧ RelV v q.2.2
def KX (G : Gm) (H : Hp) (ρ : Rho) : List (D × D) → List Kv → Prop := Paired (KE1 G H ρ)
section
variable {G : Gm} {H : Hp} {ρ : Rho}
theorem KX.get {k : D} (hk : isKey k = true) : ∀ {kvs : List (D × D)} {xs : List Kv}, KX G H ρ kvs xs →
    (dget kvs k = none ∧ atV xs (toKey k) = none) ∨ ∃ d u v, dget kvs k = some d ∧ atV xs (toKey k) = some u ∧ Rep G H ρ d v ∧ RelV v u
  | _, _, .nil => .inl ⟨rfl, rfl⟩
  | (c, x) :: r, q :: qs, .cons h t => by
    obtain ⟨h1, h2, h3, v, h4, h5⟩ := h
    rw [atV_cons, dget, h2]
    by_cases e : c = k
    · have e1 : D.eqv c k = true := by rw [key_eqv h1 hk]; exact decide_eq_true e
      rw [if_pos e1, if_pos (show toKey (c, x).1 = toKey k by rw [show (c, x).1 = k from e])]
      exact .inr ⟨x, q.2.2, v, rfl, rfl, h4, h5⟩
    · have e1 : D.eqv c k = false := by rw [key_eqv h1 hk]; exact decide_eq_false e
      rw [e1, if_neg Bool.false_ne_true, if_neg (fun z => e ((key_iff h1 hk).mp z))]
      exact KX.get hk t
theorem KX.fresh {k : D} (hk : isKey k = true) {kvs : List (D × D)} {xs : List Kv} (h : KX G H ρ kvs xs) (e : dget kvs k = none) : atV xs (toKey k) = none := by
  rcases h.get hk with ⟨_, q⟩ | ⟨d, p, v, q, _⟩
  · exact q
  · rw [e] at q; cases q
theorem KX.isSome {k : D} (hk : isKey k = true) {kvs : List (D × D)} {xs : List Kv} (h : KX G H ρ kvs xs) : (atV xs (toKey k)).isSome = (dget kvs k).isSome := by
  rcases h.get hk with ⟨q1, q⟩ | ⟨d, p, v, q1, q, _⟩
  · rw [q, q1]; rfl
  · rw [q, q1]; rfl
theorem KX.nodup : ∀ {kvs : List (D × D)} {xs : List Kv}, KX G H ρ kvs xs → Nd kvs → (xs.map (·.1)).Nodup
  | _, _, .nil, _ => List.nodup_nil
  | (c, x) :: r, q :: qs, .cons h t, n => by
    rw [List.map_cons, List.nodup_cons]
    refine ⟨fun hm => ?_, KX.nodup t n.2.2⟩
    obtain ⟨z, hz, ez⟩ := List.mem_map.mp hm
    have e : atV qs (toKey c) = none := KX.fresh n.1 t n.2.1
    unfold atV at e
    rw [Option.map_eq_none_iff, List.find?_eq_none] at e
    exact e z hz (decide_eq_true (ez.trans h.2.1))
theorem KX.putOld {k d : D} {v : V} {u : Value} (hk : isKey k = true) (rd : Rep G H ρ d v) (ru : RelV v u) : ∀ {kvs : List (D × D)} {xs : List Kv}, KX G H ρ kvs xs → Nd kvs → (dget kvs k).isSome = true → KX G H ρ (dput kvs k d) (xs.map (putV (toKey k) u))
  | _, _, .nil, _, e => absurd e Bool.false_ne_true
  | (c, x) :: r, q :: qs, .cons h t, n, e => by
    rw [dput, List.map_cons]
    by_cases ec : D.eqv c k = true
    · have ec' := ec
      rw [key_eqv n.1 hk, decide_eq_true_eq] at ec'
      rw [if_pos ec, putAll_fresh (toKey k) u qs (by rw [← ec']; exact KX.fresh n.1 t n.2.1)]
      refine .cons ?_ t
      rw [putV, if_pos (show q.1 = toKey k by rw [h.2.1]; exact (key_iff n.1 hk).mpr ec')]
      exact ⟨h.1, h.2.1, h.2.2.1, v, rd, ru⟩
    · rw [dget, if_neg ec] at e
      rw [if_neg ec, putV, if_neg (show ¬ q.1 = toKey k by
        rw [h.2.1]; intro z
        exact ec (by rw [key_eqv n.1 hk]; exact decide_eq_true ((key_iff n.1 hk).mp z)))]
      exact .cons h (KX.putOld hk rd ru t n.2.2 e)
theorem KX.put {k d : D} {kv : V} {b : Value} {v : V} {u : Value} (hk : isKey k = true) (rk : Rep G H ρ k kv) (rb : RelV kv b) (rd : Rep G H ρ d v) (ru : RelV v u) {kvs : List (D × D)} {xs : List Kv} (h : KX G H ρ kvs xs) (n : Nd kvs) :
    KX G H ρ (dput kvs k d) (storV xs (toKey k) b u) := by
  unfold storV
  rw [h.isSome hk]
  by_cases e : (dget kvs k).isSome = true
  · rw [if_pos e]; exact h.putOld hk rd ru n e
  · rw [if_neg e, dput_new d (by cases q : dget kvs k with | none => rfl | some _ => rw [q] at e; exact absurd rfl e)]
    exact Paired.snoc h ⟨hk, rfl, ⟨kv, rk, rb⟩, v, rd, ru⟩
theorem KX.putAll : ∀ {ps : List (D × D)} {ys : List Kv} {kvs : List (D × D)} {xs : List Kv}, KX G H ρ ps ys → KX G H ρ kvs xs → Nd kvs → KX G H ρ (mkD ps kvs) (storAllV xs ys) ∧ Nd (mkD ps kvs)
  | _, _, _, _, .nil, h, n => ⟨h, n⟩
  | (k, d) :: r, q :: qs, kvs, xs, .cons g t, h, n => by
    obtain ⟨h1, h2, ⟨kv, h3, h3'⟩, v, h4, h5⟩ := g
    have e : storAllV xs (q :: qs) = storAllV (storV xs (toKey k) q.2.1 q.2.2) qs := by
      show storAllV (storV xs q.1 q.2.1 q.2.2) qs = _
      rw [h2]
    rw [e]
    show KX G H ρ (mkD r (dput kvs k d)) _ ∧ Nd (mkD r (dput kvs k d))
    exact KX.putAll t (h.put h1 h3 h3' h4 h5 n) (n.put d h1)
theorem KX.length {kvs : List (D × D)} {xs : List Kv} (h : KX G H ρ kvs xs) : kvs.length = xs.length := Paired.length h
end
section
variable {cl : Cl} {X : Cx} {pins : List (Addr × Obj)} {σ : L2.St} {H : Hp} {ρ : Rho} {L : Store} {s : Shared} {a : Addr}
theorem kx_of : ∀ {kvs : List (D × D)} {es : List DictEntry}, RepE (gm cl X) H ρ kvs es → ∃ xs, KX (gm cl X) H ρ kvs xs ∧ es = xs.map (entV X.w) ∧ Nd kvs
  | _, _, .nil => ⟨[], .nil, rfl, True.intro⟩
  | (k, x) :: r, e :: es, .cons g rk ek eh rx ex t => by
    obtain ⟨xs, h1, h2, h3⟩ := kx_of t
    refine ⟨(toKey k, e.key, e.val) :: xs, .cons ⟨g.1, rfl, ⟨_, rk, ek⟩, _, rx, ex⟩ h1, ?_, g.1, g.2, h3⟩
    rw [List.map_cons, ← h2]
    congr 1
    cases e with
    | mk hh kk vv =>
      show DictEntry.mk hh kk vv = DictEntry.mk ((toKey k).hash X.w) kk vv
      rw [show hh = (toKey k).hash X.w from eh]
theorem of_kx : ∀ {kvs : List (D × D)} {xs : List Kv}, KX (gm cl X) H ρ kvs xs → Nd kvs → RepE (gm cl X) H ρ kvs (xs.map (entV X.w))
  | _, _, .nil, _ => .nil
  | (k, x) :: r, q :: qs, .cons h t, n => by
    obtain ⟨h1, h2, ⟨kv, h3, h3'⟩, v, h4, h5⟩ := h
    rw [List.map_cons]
    refine .cons ⟨n.1, n.2.1⟩ h3 h3' ?_ h4 h5 (of_kx t n.2.2)
    show q.1.hash X.w = (toKey k).hash X.w
    rw [h2]
mutual
theorem nested_of (I : Inv X pins σ H s) : ∀ {d : D} {v : V} {u : Value}, keyish d = true → Rep (gm cl X) H ρ d v → RelV v u → NestedIs s.heap (toKey d) u
  | _, _, _, _, .non, r => by cases r; exact .none
  | _, _, _, _, .int i, r => by obtain ⟨t, rfl⟩ := r; exact .int i t
  | _, _, _, _, .str x, r => by obtain ⟨t, rfl⟩ := r; exact .text x t
  | _, _, _, h, .tup a t, r => by
    cases r
    obtain ⟨its, rv, ⟨o, ho, hc, n, hd⟩, _⟩ := I.tuple a
    exact .tup ho hc hd (nesteds_of I (by simpa [keyish] using h) t rv)
  | _, _, _, h, .bl _, _ => absurd h Bool.false_ne_true
  | _, _, _, h, .lst _ _, _ => absurd h Bool.false_ne_true
  | _, _, _, h, .dct _ _, _ => absurd h Bool.false_ne_true
  | _, _, _, h, .scr _, _ => absurd h Bool.false_ne_true
  | _, _, _, h, .ref _ _, _ => absurd h Bool.false_ne_true
theorem nesteds_of (I : Inv X pins σ H s) : ∀ {ds : List D} {vs : List V} {us : List Value}, keyishL ds = true → RepL (gm cl X) H ρ ds vs → Vals vs us → NestedAll s.heap (toKeys ds) us
  | _, _, _, _, .nil, r => by cases r; exact .nil
  | _, _, _, h, .cons rd t, r => by
    rw [keyishL, Bool.and_eq_true] at h
    cases r with
    | cons r1 r2 => exact .cons (nested_of I h.1 rd r1) (nesteds_of I h.2 t r2)
end
theorem key_is (I : Inv X pins σ H s) {k : D} {kv : V} {b : Value} (hk : isKey k = true) (rk : Rep (gm cl X) H ρ k kv) (rb : RelV kv b) : KIs s.heap (toKey k) b := ⟨nested_of I (isKey_keyish hk) rk rb, isKey_depth hk⟩
theorem KX.is (I : Inv X pins σ H s) : ∀ {kvs : List (D × D)} {xs : List Kv}, KX (gm cl X) H ρ kvs xs → ∀ x ∈ xs, KIs s.heap x.1 x.2.1
  | _, _, .nil, x, hx => nomatch hx
  | (k, _) :: r, q :: qs, .cons h t, x, hx => by
    rcases List.mem_cons.mp hx with e | hx
    · subst e
      obtain ⟨kv, h3, h4⟩ := h.2.2.1
      rw [h.2.1]
      exact key_is I h.1 h3 h4
    · exact KX.is I t x hx
/-- at a stands a dict, tracked or frozen -/
def DAt (G : Gm) (H : Hp) (ρ : Rho) (a : Addr) (kvs : List (D × D)) : Prop := ∃ es ep, Rd H a (rawO a es ep) ∧ RepE G H ρ kvs es.toList
theorem DAt.model {kvs : List (D × D)} (I : Inv X pins σ H s) (h : DAt (gm cl X) H ρ a kvs) : (a == sysModules) = false ∧ ∃ xs, KX (gm cl X) H ρ kvs xs ∧ Nd kvs ∧ DictV X.w s.heap a xs := by
  obtain ⟨es, ep, h1, h2⟩ := h
  obtain ⟨⟨⟨o, q1, q2, q3⟩, q4⟩, _⟩ := (show ObjOk X.prog X.w H s.heap a (rawO a es ep) from h1.ok I.hok)
  obtain ⟨xs, h3, h4, h5⟩ := kx_of h2
  exact ⟨q4, xs, h3, h5, o, es, ep, q1, q2, q3, h4, h3.is I, h3.nodup h5⟩
theorem dct_at {d : D} {v : V} {kvs : List (D × D)} (A : AbsL (gm cl X) H ρ L) (r : Rep (gm cl X) H ρ d v) (h : dctOf L d = some kvs) : ∃ a, v = .ref a ∧ DAt (gm cl X) H ρ a kvs := by
  cases d with
  | dct ys => cases h; cases r with | dct a b => exact ⟨_, rfl, _, _, .inr ⟨_, a⟩, b⟩
  | ref i =>
    cases e : L[i]? with
    | none => simp only [dctOf, e] at h; cases h
    | some m =>
      cases m with
      | dct ys =>
        simp only [dctOf, e] at h
        cases h
        obtain ⟨a, e1, e2, e3⟩ := ref_at A r e (by simp)
        obtain ⟨b, es, ep, z, h1, h2⟩ := e3
        cases z
        exact ⟨a, e1, es, ep, .inl h1, h2⟩
      | _ => simp only [dctOf, e] at h; cases h
  | _ => cases h
/-- a dict that stands behind: the object -/
theorem raw_ok {H' : Hp} {h' : Heap} {xs : List Kv} (hd : (a == sysModules) = false) (dd : DictV X.w h' a xs) : ∃ es ep, es.toList = xs.map (entV X.w) ∧ ObjOk X.prog X.w H' h' a (rawO a es ep) := by
  obtain ⟨o, es, ep, h1, h2, h3, h4⟩ := dd
  exact ⟨es, ep, h4.eq, ⟨⟨o, h1, h2, h3⟩, hd⟩, ⟨o, h1⟩, fun g1 g2 ⟨⟨o', p1, p2⟩, p3⟩ k => ⟨⟨o', k _ p1, p2⟩, p3⟩⟩
end
end Df
/-! what is done with a dict, whatever its keys -/
namespace Df
open PySem PySem.Spec PyProof.Rows L2
section
variable {prog : Program} {w : World} {A : Around} {E : Value → Shared → Prop} {s : Shared} {d : Addr} {xs : List Kv} {k : NestedKey} {key : Value}
theorem contains_dV (hu : A.in1.units + 8 < cLine) (hk : KIs s.heap k key) (hd : (d == sysModules) = false) (hm : DictV w s.heap d xs) {Q : Bool → Shared → Prop} (q : Q (atV xs k).isSome { s with toks := s.toks + k.draws }) :
    wpAny (model prog w) A (contains (.ref d) key) Q E s := by
  have ty := hm.typeIs
  unfold contains
  refine wpAny_holding (wpAny_bind (wpAny_specialOf ty slot_dict_contains.lookup ?_))
  refine (if_split (fun c => absurd c (by rw [beq_builtin_none]; exact Bool.false_ne_true)) fun _ => ?_)
  refine wpAny_bind (wpAny_callSpecialUnlessNone?_slot (name := Str.ofString "__contains__") ty slot_dict_contains (wpAny_call_entry slot_dict_contains ty entry_dict_contains ?_ (args_dict_contains _ _)))
  refine (show wpAny _ _ (dictGet d key >>= _) _ _ s from wpAny_bind (get_key hm hk hu ?_))
  cases e : atV xs k with
  | some v =>
    rw [e] at q
    refine (show wpAny _ _ (ret (.bool true)) _ _ _ from wpAny_pure ⟨_, rfl, wpAny_truthy_bool q⟩)
  | none =>
    rw [e] at q
    refine (show wpAny _ _ (Builtin.Dict.pendingKey? d key >>= _) _ _ _ from wpAny_bind (wpAny_pendingKey_other hd (wpAny_pure ⟨_, rfl, wpAny_truthy_bool q⟩)))
theorem in_dV (hu : A.in1.units + 8 < cLine) (hk : KIs s.heap k key) (hd : (d == sysModules) = false) (hm : DictV w s.heap d xs) {Q : Value → Shared → Prop} (q : Q (.bool (atV xs k).isSome) { s with toks := s.toks + k.draws }) :
    wpAny (model prog w) A (compareOp .In key (.ref d)) Q E s :=
  show wpAny _ _ (contains (.ref d) key >>= fun b => pure (.bool b)) Q E s from wpAny_bind (contains_dV hu hk hd hm (wpAny_pure q))
theorem notIn_dV (hu : A.in1.units + 8 < cLine) (hk : KIs s.heap k key) (hd : (d == sysModules) = false) (hm : DictV w s.heap d xs) {Q : Value → Shared → Prop} (q : Q (.bool (!(atV xs k).isSome)) { s with toks := s.toks + k.draws }) :
    wpAny (model prog w) A (compareOp .NotIn key (.ref d)) Q E s :=
  show wpAny _ _ (contains (.ref d) key >>= fun b => pure (.bool (!b))) Q E s from wpAny_bind (contains_dV hu hk hd hm (wpAny_pure q))
theorem item_dV {v : Value} (hu : A.in1.units + 8 < cLine) (hk : KIs s.heap k key) (hm : DictV w s.heap d xs) (hv : atV xs k = some v) {Q : Value → Shared → Prop} (q : Q v { s with toks := s.toks + k.draws }) :
    wpAny (model prog w) A (getItem (.ref d) key) Q E s := by
  have ty := hm.typeIs
  unfold getItem
  refine wpAny_holding (wpAny_bind (wpAny_sequenceKey ty (by decide) ?_))
  refine wpAny_bind (wpAny_callSpecial?_slot (name := Str.ofString "__getitem__") ty slot_dict_getitem (wpAny_call_entry slot_dict_getitem ty entry_dict_getitem ?_ (args_dict_getitem _ _)))
  refine (show wpAny _ _ (dictGet d key >>= _) _ _ s from wpAny_bind (get_key hm hk hu ?_))
  rw [hv]
  exact wpAny_pure ⟨v, rfl, wpAny_pure q⟩
theorem store_dV {v : Value} (hu : A.in1.units + 8 < cLine) (hk : KIs s.heap k key) (hm : DictV w s.heap d xs) (hz : xs.length ≤ sizeLine) {Q : Unit → Shared → Prop}
    (q : ∀ h', DictV w h' d (storV xs k key v) → Heap.SameBut d s.heap h' → Q () { s with heap := h', toks := s.toks + k.draws }) : wpAny (model prog w) A (setItem (.ref d) key v) Q E s := by
  have ty := hm.typeIs
  unfold setItem
  refine wpAny_holding (wpAny_bind (wpAny_sequenceKey ty (by decide) ?_))
  refine wpAny_bind (wpAny_callSpecial?_slot (name := Str.ofString "__setitem__") ty slot_dict_setitem (wpAny_call_entry slot_dict_setitem ty entry_dict_setitem ?_ (args_dict_setitem _ _ _)))
  refine (show wpAny _ _ (Builtin.Dict.notOrdered "__setitem__" ⟨[.ref d, key, v], []⟩ >>= _) _ _ s from wpAny_bind (wpAny_notOrdered_dict ty ?_))
  refine (show wpAny _ _ (dictSet d key v >>= _) _ _ s from wpAny_bind (set_keyV hm hk hu hz fun h' h1 h2 => wpAny_pure ⟨.none, rfl, wpAny_pure (q h' h1 h2)⟩))
/-! get, setdefault -/
theorem meets_getV (hd : (d == sysModules) = false) : MeetsIn prog w (Builtin.«dict.get» ⟨[.ref d, key], []⟩) (fun A R s => A.in1.units + 8 < cLine ∧ ∃ k xs, KIs s.heap k key ∧ DictV w s.heap d xs ∧ R (.ok (.ret ((atV xs k).getD .none))) { s with toks := s.toks + k.draws }) :=
  .of_wp fun A R s ⟨hu, k, xs, hk, hm, q⟩ => by
    refine (show wpAny _ _ (dictGet d key >>= _) _ _ s from wpAny_bind (get_key hm hk hu ?_))
    cases e : atV xs k with
    | some v => rw [e] at q; exact wpAny_pure ⟨v, rfl, q⟩
    | none => rw [e] at q; exact (show wpAny _ _ (Builtin.Dict.missed d key >>= _) _ _ _ from wpAny_bind (wpAny_missed_other hd (wpAny_pure ⟨.none, rfl, q⟩)))
theorem meets_getV2 (hd : (d == sysModules) = false) (x : Value) : MeetsIn prog w (Builtin.«dict.get» ⟨[.ref d, key, x], []⟩) (fun A R s => A.in1.units + 8 < cLine ∧ ∃ k xs, KIs s.heap k key ∧ DictV w s.heap d xs ∧ R (.ok (.ret ((atV xs k).getD x))) { s with toks := s.toks + k.draws }) :=
  .of_wp fun A R s ⟨hu, k, xs, hk, hm, q⟩ => by
    refine (show wpAny _ _ (dictGet d key >>= _) _ _ s from wpAny_bind (get_key hm hk hu ?_))
    cases e : atV xs k with
    | some v => rw [e] at q; exact wpAny_pure ⟨v, rfl, q⟩
    | none => rw [e] at q; exact (show wpAny _ _ (Builtin.Dict.missed d key >>= _) _ _ _ from wpAny_bind (wpAny_missed_other hd (wpAny_pure ⟨x, rfl, q⟩)))
theorem meets_setdefV (hd : (d == sysModules) = false) (x : Value) : MeetsIn prog w (Builtin.«dict.setdefault» ⟨[.ref d, key, x], []⟩) (fun A R s => A.in1.units + 8 < cLine ∧ ∃ k xs, KIs s.heap k key ∧ DictV w s.heap d xs ∧ xs.length ≤ sizeLine ∧
    (∀ u, atV xs k = some u → R (.ok (.ret u)) { s with toks := s.toks + k.draws }) ∧ (atV xs k = none → ∀ h', DictV w h' d (storV xs k key x) → Heap.SameBut d s.heap h' → R (.ok (.ret x)) { s with heap := h', toks := s.toks + k.draws })) :=
  .of_wp fun A R s ⟨hu, k, xs, hk, hm, hz, q1, q2⟩ => by
    have hn : ¬ (d == sysModules) = true := by rw [hd]; exact Bool.false_ne_true
    have two : wpAny (model prog w) A.in1 (Builtin.Dict.keyAndDefault "setdefault" ⟨[.ref d, key, x], []⟩) (fun r s' => r = (d, key, some x) ∧ s' = s) (fun e s' => R (.error e) s') s := by
      unfold Builtin.Dict.keyAndDefault
      exact wpAny_bind (wpAny_notOrdered_dict hm.typeIs (show wpAny _ _ (pure (d, key, some x)) _ _ s from wpAny_pure ⟨rfl, rfl⟩))
    unfold Builtin.«dict.setdefault»
    refine wpAny_bind (wpAny_mono two (fun r s' z => ?_) fun _ _ z => z)
    obtain ⟨rfl, rfl⟩ := z
    dsimp only
    rw [if_neg hn]
    exact wpAny_bind (setdef_keyV hm hk hu hz (fun u e => wpAny_pure ⟨u, rfl, q1 u e⟩) fun e h' h1 h2 => wpAny_pure ⟨x, rfl, q2 e h' h1 h2⟩)
/-! dict(pairs), update(pairs) -/
theorem DictV.at' {h h' : Heap} (x : DictV w h d xs) (e : ∀ o, h.get? d = some o → h'.get? d = some o) (ks : ∀ y ∈ xs, KIs h' y.1 y.2.1) : DictV w h' d xs :=
  let ⟨o, es, ep, ho, hc, hd, H⟩ := x
  ⟨o, es, ep, e o ho, hc, hd, H.eq, ks, H.nd⟩
theorem DictV.lt {h : Heap} (x : DictV w h d xs) : d < h.objs.size := let ⟨_, _, _, ho, _⟩ := x; Heap.lt_size ho
theorem DictV.new (h : Heap) : DictV w (h.push { cls := .type "dict", data := .dict #[] }) h.objs.size [] :=
  ⟨_, #[], 0, Heap.get?_push_size _ rfl, ⟨rfl, rfl, rfl⟩, rfl, rfl, fun _ hx => (by simp at hx), List.nodup_nil⟩
theorem storV_len (xs : List Kv) (k : NestedKey) (a v : Value) : (storV xs k a v).length ≤ xs.length + 1 := by
  unfold storV; split <;> simp
theorem storAllV_len : ∀ ps xs : List Kv, (storAllV xs ps).length ≤ xs.length + ps.length
  | [], xs => by simp [storAllV]
  | p :: ps, xs => by
    have h1 := storV_len xs p.1 p.2.1 p.2.2
    have h2 := storAllV_len ps (storV xs p.1 p.2.1 p.2.2)
    show (storAllV (storV xs p.1 p.2.1 p.2.2) ps).length ≤ _
    simp only [List.length_cons]; omega
theorem storV_keys {P : NestedKey → Value → Prop} {xs : List Kv} {k : NestedKey} {a v : Value} (h : ∀ x ∈ xs, P x.1 x.2.1) (hk : P k a) : ∀ x ∈ storV xs k a v, P x.1 x.2.1 := fun x hx => by
  unfold storV at hx
  split at hx
  · obtain ⟨y, hy, rfl⟩ := List.mem_map.mp hx
    have := h y hy
    unfold putV
    split <;> exact this
  · rcases List.mem_append.mp hx with hx | hx
    · exact h x hx
    · rw [List.mem_singleton.mp hx]; exact hk
theorem storAllV_keys {P : NestedKey → Value → Prop} : ∀ {ps xs : List Kv}, (∀ x ∈ xs, P x.1 x.2.1) → (∀ x ∈ ps, P x.1 x.2.1) → ∀ x ∈ storAllV xs ps, P x.1 x.2.1
  | [], xs, h, _, x, hx => h x hx
  | p :: ps, xs, h, hp, x, hx => storAllV_keys (ps := ps) (storV_keys h (hp p List.mem_cons_self)) (fun y hy => hp y (List.mem_cons_of_mem _ hy)) x hx
theorem storAllV_snoc (xs ps : List Kv) (i : Nat) (p : Kv) (h : ps[i]? = some p) : storAllV xs (ps.take (i + 1)) = storV (storAllV xs (ps.take i)) p.1 p.2.1 p.2.2 := by
  unfold storAllV
  rw [List.take_add_one, h, List.foldl_append]; rfl
variable {T : String} {a : Addr} {fp wr : List Addr} {n : Nat} {Rel : Nat → Value → Value → Prop} {OK : Heap → Prop}
/-- the pairs that an argument brings -/
def Brings (n : Nat) (Rel : Nat → Value → Value → Prop) (ps : List Kv) : Prop := ps.length = n ∧ ∀ i key v, Rel i key v → ∃ k, ps[i]? = some (k, key, v)
theorem fill_dV {R : Result → Shared → Prop} {nm : String} {acc ps : List Kv} (P : PairArg prog w T a fp wr n Rel OK) (res : Value) (hh : A.handled = none) (hu : A.in1.units + 8 < cLine) (ok : OK s.heap) (hdf : d ∉ fp) (hc : Brings n Rel ps)
    (hst : ∀ h', (∀ b o, b ≠ d → b ∉ wr → s.heap.get? b = some o → h'.get? b = some o) → ∀ x ∈ acc ++ ps, KIs h' x.1 x.2.1) (hm : DictV w s.heap d acc) (hsz : acc.length + n ≤ sizeLine)
    (hR : ∀ h' tk, DictV w h' d (storAllV acc ps) → (∀ b o, b ≠ d → b ∉ wr → s.heap.get? b = some o → h'.get? b = some o) → R (.ok (.ret res)) { s with heap := h', toks := tk }) :
    wpAny (model prog w) A.in1 (Builtin.Dict.updateFrom nm d (.ref a) [] res)
      (fun fin s' => match fin with | .done f => R (.ok f) s' | .again c' => c'.quiet = true ∧ codeAny (model prog w) A c' R s') (fun e s' => R (.error e) s') s := by
  have his : ∀ i h, (∀ b o, b ≠ d → b ∉ wr → s.heap.get? b = some o → h.get? b = some o) → ∀ x ∈ storAllV acc (ps.take i), KIs h x.1 x.2.1 := fun i h hk =>
    storAllV_keys (P := fun k b => KIs h k b) (fun x hx => hst h hk x (List.mem_append_left _ hx)) fun x hx => hst h hk x (List.mem_append_right _ (List.mem_of_mem_take hx))
  refine updateFrom_arg (Tab := fun i h => DictV w h d (storAllV acc (ps.take i)) ∧ ∀ b o, b ≠ d → b ∉ wr → s.heap.get? b = some o → h.get? b = some o) P res hh ok hdf ⟨hm, fun _ _ _ _ e => e⟩ (fun _ _ tb => tb.1.lt) (fun i h h' wr' hd hw tb hk => ?_) (fun i key v s' Q E' hi hrel tb _ hQ => ?_) (fun h' tk tb hk => ?_)
  · have hk' : ∀ b o, b ≠ d → b ∉ wr → s.heap.get? b = some o → h'.get? b = some o := fun b o h1 h2 e => by
      refine hk b o (fun hb => ?_) (tb.2 b o h1 h2 e)
      rcases hw b hb with q | q
      · exact h2 q
      · rw [q] at e; cases e
    exact ⟨tb.1.at' (fun o e => hk d o hd e) (his i h' hk'), hk'⟩
  · obtain ⟨k, hk⟩ := hc.2 i key v hrel
    have hl := storAllV_len (ps.take i) acc
    rw [List.length_take] at hl
    refine set_keyV tb.1 (hst _ tb.2 _ (List.mem_append_right _ (List.mem_of_getElem? hk))) hu (by omega) fun h' hm' hs => hQ h' _ ⟨?_, fun c o h1 h2 e => hs.extBut c o h1 (tb.2 c o h1 h2 e)⟩ hs
    rw [storAllV_snoc acc ps i _ hk]; exact hm'
  · rw [List.take_of_length_le (Nat.le_of_eq hc.1)] at tb
    exact hR h' tk tb.1 hk
theorem call_dictV {ps : List Kv} {Q : Value → Shared → Prop} (P : PairArg prog w T a fp wr n Rel OK) (hh : A.handled = none) (hu : A.in1.in1.units + 8 < cLine) (ok : OK s.heap) (hc : Brings n Rel ps)
    (hst : ∀ h', (∀ b o, b ≠ s.heap.objs.size → b ∉ wr → s.heap.get? b = some o → h'.get? b = some o) → ∀ x ∈ ps, KIs h' x.1 x.2.1) (hsz : n ≤ sizeLine)
    (h : ∀ h' tk, DictV w h' s.heap.objs.size (storAllV [] ps) → (∀ b o, b ∉ wr → s.heap.get? b = some o → h'.get? b = some o) → Q (.ref s.heap.objs.size) { s with heap := h', toks := tk }) :
    wpAny (model prog w) A (call (.type "dict") [.ref a]) Q E s := by
  refine call_dict_arg P ok fun s₁ e1 hdf ok₁ => ?_
  subst e1
  refine fill_dV (A := A.in1) (acc := []) P .none hh hu ok₁ hdf hc (fun h' hk x hx => hst h' (fun b o h1 h2 e => hk b o h1 h2 (Heap.get?_push_of_some _ e)) x (by simpa using hx)) (DictV.new s.heap) (by simpa using hsz) fun h' tk hd' hk => ⟨rfl, h h' tk hd' fun b o hw e => hk b o (Nat.ne_of_lt (Heap.lt_size e)) hw (Heap.get?_push_of_some _ e)⟩
theorem call_updV {acc ps : List Kv} {Q : Value → Shared → Prop} (P : PairArg prog w T a fp wr n Rel OK) (hh : A.handled = none) (hu : A.in1.units + 8 < cLine) (ok : OK s.heap) (hdf : d ∉ fp) (hc : Brings n Rel ps)
    (hst : ∀ h', (∀ b o, b ≠ d → b ∉ wr → s.heap.get? b = some o → h'.get? b = some o) → ∀ x ∈ acc ++ ps, KIs h' x.1 x.2.1) (hm : DictV w s.heap d acc) (hsz : acc.length + n ≤ sizeLine)
    (h : ∀ h' tk, DictV w h' d (storAllV acc ps) → (∀ b o, b ≠ d → b ∉ wr → s.heap.get? b = some o → h'.get? b = some o) → Q .none { s with heap := h', toks := tk }) :
    wpAny (model prog w) A (call (.builtin "dict.update") [.ref d, .ref a]) Q E s :=
  call_meetsIn F.slot_dict_update hm.typeIs F.entry_dict_update (F.args_dict_update_2 _ _)
    (S := fun A' R s' => A' = A ∧ s' = s ∧ ∀ h' tk, DictV w h' d (storAllV acc ps) → (∀ b o, b ≠ d → b ∉ wr → s.heap.get? b = some o → h'.get? b = some o) → R (.ok (.ret .none)) { s with heap := h', toks := tk })
    (fun A' R s' z => (by obtain ⟨rfl, rfl, hq⟩ := z; exact meets_dict_update_arg hm.typeIs (fill_dV P .none hh hu ok hdf hc hst hm hsz hq))) ⟨rfl, rfl, h⟩
end
end Df
namespace Df
open PySem PySem.Spec PyProof.Rows L2
section
variable {cl : Cl} {X : Cx}
theorem key_room (hu : X.A.units + 64 < cLine) : X.A.in1.units + 8 < cLine := by
  show X.A.units + 1 + 8 < cLine
  omega
theorem key_room2 (hu : X.A.units + 64 < cLine) : X.A.in1.in1.units + 8 < cLine := by
  show X.A.units + 1 + 1 + 8 < cLine
  omega
/-! ### k in d -/
def rInK (cl : Cl) (X : Cx) (ng : Bool) : R2 := fun x y H Q => ∃ (ρ : Rho) (kvs : List (D × D)) (k : D) (a : Addr), y = .ref a ∧ DAt (gm cl X) H ρ a kvs ∧ Rep (gm cl X) H ρ k x ∧ isKey k = true ∧ Q (.bl (if ng = true then !(dget kvs k).isSome else (dget kvs k).isSome)) H
theorem op_inK (hu : X.A.units + 64 < cLine) : OpR X (compareOp .In) (rInK cl X false) := by
  intro pins s σ H x y u w Q I rx ry h
  obtain ⟨ρ, kvs, k, a, rfl, hd, rk, hk, q⟩ := h
  cases ry
  obtain ⟨h1, xs, h2, h3, h4⟩ := hd.model I
  refine in_dV (key_room hu) (key_is I hk rk rx) h1 h4 ?_
  rw [h2.isSome hk]
  exact ⟨.bl _, H, I.tok _, rfl, q⟩
theorem op_notInK (hu : X.A.units + 64 < cLine) : OpR X (compareOp .NotIn) (rInK cl X true) := by
  intro pins s σ H x y u w Q I rx ry h
  obtain ⟨ρ, kvs, k, a, rfl, hd, rk, hk, q⟩ := h
  cases ry
  obtain ⟨h1, xs, h2, h3, h4⟩ := hd.model I
  refine notIn_dV (key_room hu) (key_is I hk rk rx) h1 h4 ?_
  rw [h2.isSome hk]
  exact ⟨.bl _, H, I.tok _, rfl, q⟩
theorem d_inD : Op2 cl X cInD (rInK cl X false) := by
  intro W σ H ρ L x y v u Q ab rx ry h
  unfold cInD at h
  cases e : dctOf L y with
  | none => simp only [e] at h; exact (show False from h).elim
  | some kvs =>
    simp only [e] at h
    by_cases hk : isKey x = true
    · rw [if_pos hk] at h
      obtain ⟨a, rfl, hd⟩ := dct_at ab ry e
      exact ⟨ρ, kvs, x, a, rfl, hd, rx, hk, now ab h _ (.bl _)⟩
    · rw [if_neg hk] at h; exact (show False from h).elim
theorem d_notInD : Op2 cl X cNotInD (rInK cl X true) := by
  intro W σ H ρ L x y v u Q ab rx ry h
  unfold cNotInD at h
  cases e : dctOf L y with
  | none => simp only [e] at h; exact (show False from h).elim
  | some kvs =>
    simp only [e] at h
    by_cases hk : isKey x = true
    · rw [if_pos hk] at h
      obtain ⟨a, rfl, hd⟩ := dct_at ab ry e
      exact ⟨ρ, kvs, x, a, rfl, hd, rx, hk, now ab h _ (.bl _)⟩
    · rw [if_neg hk] at h; exact (show False from h).elim
/-! ### d[k] -/
def rKey (cl : Cl) (X : Cx) : R2 := fun x y H Q => ∃ (ρ : Rho) (kvs : List (D × D)) (k d : D) (a : Addr), x = .ref a ∧ DAt (gm cl X) H ρ a kvs ∧ Rep (gm cl X) H ρ k y ∧ isKey k = true ∧ dget kvs k = some d ∧ ∀ v, Rep (gm cl X) H ρ d v → Q v H
theorem ix_key (hu : X.A.units + 64 < cLine) : IxR X (rKey cl X) := by
  intro value slice pins s σ H x y v u Q I rx ry h hs
  obtain ⟨ρ, kvs, k, d, a, rfl, hd, rk, hk, e, q⟩ := h
  cases rx
  obtain ⟨h1, xs, h2, h3, h4⟩ := hd.model I
  rcases h2.get hk with ⟨e2, _⟩ | ⟨d2, p, v, e2, e3, r4, r5⟩
  · rw [e] at e2; cases e2
  · rw [e] at e2; cases e2
    have hT : s.TypeIs (.ref a) "dict" := h4.typeIs
    unfold subscriptTail
    refine wpAny_bind ?_
    rw [getitemInPython_of_ne hT.not_modules]
    refine wpAny_bind (wpAny_specialOf hT PySem.F.slot_dict_getitem.lookup ?_)
    have fin : wpAny (model X.prog X.w) X.A (subscripted slice false (.ref a) u) (fun r s₃ => wpAny (model X.prog X.w) X.A (letTemporaryGo value (.ref a) r >>= fun _ => pure r) (EP X pins σ Q) X.xe s₃) X.xe s := by
      rw [hs]
      exact wpAny_operating (item_dV (key_room hu) (key_is I hk rk ry) h4 e3 (wpAny_bind (wpAny_letTemporaryGo (wpAny_pure ⟨v, H, I.tok _, r5, q v r4⟩))))
    first
      | exact wpAny_pure (wpAny_bind fin)
      | exact wpAny_bind (wpAny_pure (wpAny_bind fin))
      | exact wpAny_bind fin
theorem d_key : Op2 cl X oKey (rKey cl X) := by
  intro W σ H ρ L x y v u Q ab rx ry h
  unfold oKey at h
  cases e : dctOf L x with
  | none => simp only [e] at h; exact (show False from h).elim
  | some kvs =>
    simp only [e] at h
    by_cases hk : isKey y = true
    · rw [if_pos hk] at h
      obtain ⟨a, rfl, hd⟩ := dct_at ab rx e
      cases eg : dget kvs y with
      | none => simp only [eg] at h; exact (show False from h).elim
      | some d =>
        simp only [eg] at h
        exact ⟨ρ, kvs, y, d, a, rfl, hd, ry, hk, eg, now ab h⟩
    · rw [if_neg hk] at h; exact (show False from h).elim
/-! ### d[k] = v -/
def rSetK (cl : Cl) (X : Cx) : V → V → V → Hp → (Hp → Prop) → Prop := fun o y d H Q => ∃ (ρ : Rho) (kvs : List (D × D)) (k x : D) (a : Addr) (es : Array DictEntry) (ep : Nat), o = .ref a ∧ H a = some (rawO a es ep) ∧ RepE (gm cl X) H ρ kvs es.toList ∧ Rep (gm cl X) H ρ k y ∧ isKey k = true ∧
  Rep (gm cl X) H ρ x d ∧ kvs.length < sizeLine ∧ ∀ (es' : Array DictEntry) (ep' : Nat), RepE (gm cl X) H ρ (dput kvs k x) es'.toList → Q (upd H a (rawO a es' ep'))
theorem set_key (hu : X.A.units + 64 < cLine) : PSet X (rSetK cl X) := by
  intro pins s σ H o i v ov iv u Q I ro ri rv h
  obtain ⟨ρ, kvs, k, x, a, es, ep, rfl, h1, h2, rk, hk, rx, hz, q⟩ := h
  cases ro
  obtain ⟨hd, xs, h4, h5, h6⟩ := DAt.model I ⟨es, ep, .inl h1, h2⟩
  have hl := h4.length
  refine store_dV (key_room hu) (key_is I hk rk ri) h6 (by omega) fun h' dd' hs => ?_
  obtain ⟨es', ep', e1, new⟩ := raw_ok (X := X) (H' := H) hd dd'
  refine ⟨upd H a (rawO a es' ep'), I.write (x := a) (e := a) (by rw [h1]; exact True.intro) (.inl rfl) (fun b q hb z => (hs.2 b hb).trans z) (let ⟨o, _, _, g, _⟩ := dd'; ⟨o, g⟩) new, q es' ep' ?_⟩
  rw [e1]
  exact of_kx (h4.put hk rk ri rx rv h5) (h5.put x hk)
theorem wrote_dct {W : WX} {σ : L2.St} {α : Type} {H : Hp} {ρ : Rho} {L : Store} {i : Nat} {p : Addr} {kvs : List (D × D)} {es : Array DictEntry} {ep : Nat} {d : α} {Q : α → Hp → Rho → Store → Prop} (ab : AbsL (gm cl X) H ρ L) (hi : ρ[i]? = some (some p)) (r : RepE (gm cl X) H ρ kvs es.toList)
    (h : After (gm cl X) W σ ρ H (.ok d (L.set i (.dct kvs))) Q) : Q d (upd H p (rawO p es ep)) ρ (L.set i (.dct kvs)) ∧ Step H ρ (upd H p (rawO p es ep)) ρ := by
  have st0 : Step H ρ (upd H p (rawO p es ep)) ρ := Step.over hi nt_ext
  obtain ⟨st, ab2⟩ := AbsL.write (m := .dct kvs) (o := rawO p es ep) ab hi True.intro ⟨p, es, ep, rfl, upd_same, r.step ab.live st0⟩
  exact ⟨h _ _ st ab2, st⟩
theorem ref_dct {H : Hp} {ρ : Rho} {L : Store} {i : Nat} {v : V} {kvs : List (D × D)} (A : AbsL (gm cl X) H ρ L) (r : Rep (gm cl X) H ρ (.ref i) v) (e : L[i]? = some (.dct kvs)) : ∃ a es ep, v = .ref a ∧ ρ[i]? = some (some a) ∧ H a = some (rawO a es ep) ∧ RepE (gm cl X) H ρ kvs es.toList := by
  obtain ⟨a, e1, e2, e3⟩ := ref_at A r e (by simp)
  obtain ⟨b, es, ep, z, h1, h2⟩ := e3
  cases z
  exact ⟨a, es, ep, e1, e2, h1, h2⟩
theorem d_pDct : OpP cl X pDct (rSetK cl X) := by
  intro W σ H ρ L x y z u v w Q ab rx ry rz h
  unfold pDct at h
  split at h
  · rename_i i
    cases e : L[i]? with
    | none => simp only [e] at h; exact (show False from h).elim
    | some m =>
      cases m with
      | dct kvs =>
        simp only [e] at h
        obtain ⟨p, es, ep, rfl, h1, h2, h3⟩ := ref_dct ab rx e
        by_cases c : (isKey y && decide (kvs.length < most)) = true
        · rw [if_pos c] at h
          rw [Bool.and_eq_true, decide_eq_true_eq] at c
          exact ⟨ρ, kvs, y, z, p, es, ep, rfl, h2, h3, ry, c.1, rz, most_lt c.2, fun es' ep' r => (wrote_dct ab h1 r h).1⟩
        · rw [if_neg c] at h; exact (show False from h).elim
      | _ => simp only [e] at h; exact (show False from h).elim
  · exact h.elim
/-! ### {} -/
theorem de_dct0 {W : WX} {pos : Pos} : DE cl W X (.Dict [] [] pos) eDct0 := by
  refine ⟨fun pins s σ H Q I h => ?_⟩
  obtain ⟨ρ, δ, L, hs, ab, h⟩ := h
  have hn := I.hok.fresh (Nat.le_refl s.heap.objs.size)
  have hsys : (s.heap.objs.size == sysModules) = false := beq_eq_false_iff_ne.mpr (Ne.symm (Nat.ne_of_lt I.big))
  have dd : DictV X.w (s.heap.push { cls := .type "dict", data := .dict #[] }) s.heap.objs.size [] := DictV.new s.heap
  obtain ⟨es, ep, e1, new⟩ := raw_ok (X := X) (H' := upd H s.heap.objs.size (rawO s.heap.objs.size #[] 0)) hsys dd
  refine wpAny_Dict_empty ⟨.ref s.heap.objs.size, upd H s.heap.objs.size (rawO s.heap.objs.size es ep), I.laid (t' := s.toks) (fun _ _ q => Heap.get?_push_of_some _ q) (Nat.le_refl _) new, rfl, ?_⟩
  have hnil : RepE (gm cl X) (upd H s.heap.objs.size (rawO s.heap.objs.size es ep)) (ρ ++ [some s.heap.objs.size]) [] es.toList := by rw [e1]; exact .nil
  obtain ⟨st, ab', r⟩ := AbsL.adopt (m := .dct []) ab (tabs_new ab.tab hn) (fun a o _ q => by rw [upd_ne (ne_of_none q hn)]; exact q) (fun o e => by rw [hn] at e; cases e) (by rw [upd_same]; exact True.intro) ⟨_, es, ep, rfl, upd_same, hnil⟩
  exact h _ _ st ab' _ r
end
end Df
namespace Df
open PySem PySem.Spec PyProof.Rows L2
theorem pairsOf_cons {d : D} {r : List D} {ps : List (D × D)} (h : pairsOf (d :: r) = some ps) : ∃ k v ps', d = .tup [k, v] ∧ isKey k = true ∧ pairsOf r = some ps' ∧ ps = (k, v) :: ps' := by
  unfold pairsOf at h
  split at h
  · rename_i e; cases e
  · rename_i k v r' e
    cases e
    by_cases hk : isKey k = true
    · rw [if_pos hk] at h
      obtain ⟨ps', h1, h2⟩ := Option.map_eq_some_iff.mp h
      exact ⟨k, v, ps', rfl, hk, h1, h2.symm⟩
    · rw [if_neg hk] at h; cases h
  · cases h
theorem pairsOf_length : ∀ {ds : List D} {ps : List (D × D)}, pairsOf ds = some ps → ps.length = ds.length
  | [], ps, h => by cases h; rfl
  | d :: r, ps, h => by
    obtain ⟨k, v, ps', rfl, _, h2, rfl⟩ := pairsOf_cons h
    rw [List.length_cons, List.length_cons, pairsOf_length h2]
section
variable {cl : Cl} {X : Cx} {pins : List (Addr × Obj)} {σ : L2.St} {H : Hp} {ρ : Rho} {s : Shared}
theorem pairs_model (I : Inv X pins σ H s) : ∀ {ds : List D} {vs : List V} {its : List Value} {ps : List (D × D)}, RepL (gm cl X) H ρ ds vs → Vals vs its → pairsOf ds = some ps →
    ∃ (ys : List Kv) (Ts : List Addr), KX (gm cl X) H ρ ps ys ∧ its = Ts.map Value.ref ∧ Ts.length = ys.length ∧ ∀ (j : Nat) (y : Kv) (T : Addr), ys[j]? = some y → Ts[j]? = some T → IsTup s.heap T #[y.2.1, y.2.2]
  | _, _, _, ps, .nil, r, h => by
    cases r
    cases h
    exact ⟨[], [], .nil, rfl, rfl, fun j y T e => by simp at e⟩
  | _, _, _, ps, .cons rd t, r, h => by
    obtain ⟨k, v, ps', rfl, hk, h2, rfl⟩ := pairsOf_cons h
    cases r with
    | cons r1 r2 =>
      obtain ⟨ys, Ts, g1, g2, g3, g4⟩ := pairs_model I t r2 h2
      obtain ⟨T, vs', rfl, q1, q2⟩ := tup_sq rd
      cases q2 with
      | cons rk q3 =>
        cases q3 with
        | cons rv q4 =>
          cases q4
          obtain ⟨its', rv', tup, _⟩ := I.tuple q1
          cases rv' with
          | cons m1 m2 =>
            cases m2 with
            | cons m3 m4 =>
              cases m4
              cases r1
              refine ⟨(toKey k, _, _) :: ys, T :: Ts, .cons ⟨hk, rfl, ⟨_, rk, m1⟩, _, rv, m3⟩ g1, by rw [List.map_cons, g2], by rw [List.length_cons, List.length_cons, g3], fun j y T' e1 e2 => ?_⟩
              cases j with
              | zero => cases e1; cases e2; exact tup
              | succ j => exact g4 j y T' (by simpa using e1) (by simpa using e2)
theorem pair_items {its : List Value} {ys : List Kv} {Ts : List Addr} (e : its = Ts.map Value.ref) (hl : Ts.length = ys.length)
    (ht : ∀ (j : Nat) (y : Kv) (T : Addr), ys[j]? = some y → Ts[j]? = some T → IsTup s.heap T #[y.2.1, y.2.2]) : PairItems s.heap its.toArray (fun j => Ts.getD j 0) (ys.map fun y => (y.2.1, y.2.2)) := by
  subst e
  refine ⟨by rw [List.size_toArray, List.length_map, List.length_map]; exact hl, fun j k v hj => ?_⟩
  rw [List.getElem?_map] at hj
  obtain ⟨y, hy, ey⟩ := Option.map_eq_some_iff.mp hj
  cases ey
  have hj2 : j < Ts.length := by rw [hl]; exact (List.getElem?_eq_some_iff.mp hy).1
  have hT : Ts[j]? = some Ts[j] := List.getElem?_eq_getElem hj2
  refine ⟨?_, .inl ?_⟩
  · rw [List.getElem?_toArray, List.getElem?_map, hT]
    show some (Value.ref Ts[j]) = some (Value.ref (Ts.getD j 0))
    rw [List.getD_eq_getElem?_getD, hT]; rfl
  · show s.heap.IsTuple (Ts.getD j 0) _
    rw [List.getD_eq_getElem?_getD, hT]
    exact ht j y Ts[j] hy hT
theorem pairs_have {ys : List Kv} : Brings ys.length (PairRel (ys.map fun y => (y.2.1, y.2.2))) ys := ⟨rfl, fun i key v hr => by
  rw [PairRel, List.getElem?_map] at hr
  obtain ⟨y, hy, ey⟩ := Option.map_eq_some_iff.mp hr
  cases ey
  exact ⟨y.1, hy⟩⟩
theorem keys_stay {h h' : Heap} {d : Addr} (hk : ∀ b o, b ≠ d → h.get? b = some o → h'.get? b = some o) (hd : ∀ o vs n, h.get? d = some o → o.data ≠ .seq vs n) {x : NestedKey} {a : Value} (hx : KIs h x a) : KIs h' x a :=
  ⟨NestedIs.at (fun b o vs n hb hq => hk b o (fun e => by subst e; exact hd o vs n hb hq) hb) x a hx.1, hx.2⟩
/-! ### dict(pairs) -/
def rDictK (cl : Cl) (X : Cx) : List V → Hp → VK → Prop := fun xs H Q => ∃ (ρ : Rho) (l : Addr) (vs : List V) (ds : List D) (ps : List (D × D)), xs = [.ref l] ∧ Rd H l (.lst vs) ∧ RepL (gm cl X) H ρ ds vs ∧ pairsOf ds = some ps ∧
  ∀ (p : Addr) (es : Array DictEntry) (ep : Nat), H p = none → RepE (gm cl X) H ρ (mkD ps []) es.toList → Q (.ref p) (upd H p (rawO p es ep))
theorem call_dictK (hc : X.calm = true) (hu : X.A.units + 64 < cLine) : CallR X (.type "dict") (rDictK cl X) := by
  intro pins s σ H xs us Q I r h
  obtain ⟨ρ, l, vs, ds, ps, rfl, hl, rds, hp, q⟩ := h
  obtain ⟨u, rfl, rx⟩ := r.one
  cases rx
  obtain ⟨z, its, n, rits, hlen, e⟩ := rd_list I hl
  obtain ⟨ys, Ts, g1, g2, g3, g4⟩ := pairs_model I rds rits hp
  have hnot : ∀ o, s.heap.get? s.heap.objs.size ≠ some o := fun o ho => absurd (Heap.lt_size ho) (Nat.lt_irrefl _)
  have hyl : ys.length = its.length := by rw [← g3, g2, List.length_map]
  have h0 : s.heap.objs.size ≠ sysModules := Ne.symm (Nat.ne_of_lt I.big)
  refine call_dictV (ps := ys) (PairArg.list l its.toArray (fun j => Ts.getD j 0) (ys.map fun y => (y.2.1, y.2.2))) (I.ok.hd hc) (key_room2 hu) ⟨⟨_, n, e, rfl, rfl, rfl⟩, pair_items g2 g3 g4⟩ (by rw [List.length_map]; exact pairs_have)
    (fun h' hk x hx => keys_stay (fun b o hb ho => hk b o hb (by simp) ho) (fun o vs' n' ho => absurd ho (hnot o)) (KX.is I g1 x hx)) (by rw [List.length_map]; omega) fun h' tk dd' hk => ?_
  obtain ⟨k1, k2⟩ := KX.putAll g1 (Paired.nil : KX (gm cl X) H ρ [] []) True.intro
  obtain ⟨es, ep, e1, new⟩ := raw_ok (X := X) (H' := H) (beq_eq_false_iff_ne.mpr h0) dd'
  have hfresh := I.hok.fresh (Nat.le_refl s.heap.objs.size)
  refine ⟨.ref s.heap.objs.size, upd H s.heap.objs.size (rawO s.heap.objs.size es ep), I.laid (t' := tk) (fun b o ho => hk b o (by simp) ho) (Nat.le_refl _) new, rfl, q _ es ep hfresh ?_⟩
  rw [e1]
  exact of_kx k1 k2
/-! ### d.update(pairs) -/
def rUpdK (cl : Cl) (X : Cx) : V → List V → Hp → VK → Prop := fun x xs H Q => ∃ (ρ : Rho) (kvs : List (D × D)) (a : Addr) (es : Array DictEntry) (ep : Nat) (l : Addr) (vs : List V) (ds : List D) (ps : List (D × D)), x = .ref a ∧ xs = [.ref l] ∧ H a = some (rawO a es ep) ∧ RepE (gm cl X) H ρ kvs es.toList ∧
  Rd H l (.lst vs) ∧ RepL (gm cl X) H ρ ds vs ∧ pairsOf ds = some ps ∧ kvs.length + ds.length ≤ sizeLine ∧ ∀ (es' : Array DictEntry) (ep' : Nat), RepE (gm cl X) H ρ (mkD ps kvs) es'.toList → Q .non (upd H a (rawO a es' ep'))
theorem mt_updK (hc : X.calm = true) (hu : X.A.units + 64 < cLine) : MtR X "dict.update" (rUpdK cl X) := by
  intro pins s σ H x xs v us Q I rx r h
  obtain ⟨ρ, kvs, a, es, ep, l, vs, ds, ps, rfl, rfl, ha, rkv, hl, rds, hp, hz, q⟩ := h
  obtain ⟨u, rfl, ru⟩ := r.one
  cases rx
  cases ru
  obtain ⟨z, its, n, rits, hlen, e⟩ := rd_list I hl
  obtain ⟨ys, Ts, g1, g2, g3, g4⟩ := pairs_model I rds rits hp
  obtain ⟨hd, ws, h4, h5, h6⟩ := DAt.model I ⟨es, ep, .inl ha, rkv⟩
  have hl4 := h4.length
  have hl1 := KX.length g1
  have hl2 := pairsOf_length hp
  have hT : s.TypeIs (.ref a) "dict" := h6.typeIs
  have hpi := pair_items (s := s) g2 g3 g4
  have hdseq : ∀ o vs n, s.heap.get? a = some o → o.data ≠ .seq vs n := fun o vs' n' ho hq => by
    obtain ⟨o2, es2, ep2, q1, _, q3, _⟩ := h6
    rw [ho] at q1; cases q1
    rw [hq] at q3; cases q3
  refine call_updV (acc := ws) (ps := ys) (PairArg.list l its.toArray (fun j => Ts.getD j 0) (ys.map fun y => (y.2.1, y.2.2))) (I.ok.hd hc) (key_room hu) ⟨⟨_, n, e, rfl, rfl, rfl⟩, hpi⟩ (fun hm => ?_) (by rw [List.length_map]; exact pairs_have)
    (fun h' hk x hx => keys_stay (fun b o hb ho => hk b o hb (by simp) ho) hdseq ((List.mem_append.mp hx).elim (KX.is I h4 x) (KX.is I g1 x))) h6 (by rw [List.length_map]; omega) fun h' tk dd' hk => ?_
  · obtain ⟨o2, es2, ep2, q1, q2, q3, _⟩ := h6
    rcases List.mem_cons.mp hm with rfl | hm
    · rw [e] at q1; cases q1; cases q3
    · obtain ⟨j, hj, rfl⟩ := List.mem_map.mp hm
      obtain ⟨⟨kk, vv⟩, hjj⟩ : ∃ p, (ys.map fun y => (y.2.1, y.2.2))[j]? = some p := ⟨_, List.getElem?_eq_getElem (List.mem_range.mp hj)⟩
      rcases (hpi.2 j kk vv hjj).2 with ⟨o3, p1, p2, n3, p3⟩ | ⟨o3, p1, p2, n3, p3⟩
      · rw [p1] at q1; cases q1; rw [p3] at q3; cases q3
      · rw [p1] at q1; cases q1; rw [p3] at q3; cases q3
  · obtain ⟨k1, k2⟩ := KX.putAll g1 h4 h5
    obtain ⟨es', ep', e1, new⟩ := raw_ok (X := X) (H' := H) hd dd'
    refine ⟨.non, upd H a (rawO a es' ep'), I.write (x := a) (e := a) (by rw [ha]; exact True.intro) (.inl rfl) (fun b w hb ho => hk b w hb (by simp) ho) (let ⟨o, _, _, g, _⟩ := dd'; ⟨o, g⟩) new, rfl, q es' ep' ?_⟩
    rw [e1]
    exact of_kx k1 k2
/-! ### d.get(k), d.get(k, x) -/
def rGetK (cl : Cl) (X : Cx) : V → List V → Hp → VK → Prop := fun x xs H Q => ∃ (ρ : Rho) (kvs : List (D × D)) (k : D) (a : Addr) (b : V), x = .ref a ∧ DAt (gm cl X) H ρ a kvs ∧ Rep (gm cl X) H ρ k b ∧ isKey k = true ∧
  ((xs = [b] ∧ ∀ v, Rep (gm cl X) H ρ ((dget kvs k).getD .non) v → Q v H) ∨ ∃ (d : D) (w : V), xs = [b, w] ∧ Rep (gm cl X) H ρ d w ∧ ∀ v, Rep (gm cl X) H ρ ((dget kvs k).getD d) v → Q v H)
theorem mt_getK (hu : X.A.units + 64 < cLine) : MtR X "dict.get" (rGetK cl X) := by
  intro pins s σ H x xs v us Q I rx r h
  obtain ⟨ρ, kvs, k, a, b, rfl, hd, rk, hk, q⟩ := h
  cases rx
  obtain ⟨h1, ws, h2, h3, h4⟩ := hd.model I
  rcases q with ⟨rfl, q⟩ | ⟨d, w, rfl, rd, q⟩
  · obtain ⟨u, rfl, ru⟩ := r.one
    refine call_meetsIn PySem.F.slot_dict_get h4.typeIs PySem.F.entry_dict_get (PySem.F.args_dict_get_2 _ _) (meets_getV (key := u) (d := a) h1) ⟨key_room hu, toKey k, ws, key_is I hk rk ru, h4, ?_⟩
    rcases h2.get hk with ⟨e1, e2⟩ | ⟨d, p, v, e1, e2, r4, r5⟩
    · rw [e2]; rw [e1] at q; exact ⟨.non, H, I.tok _, rfl, q _ .non⟩
    · rw [e2]; rw [e1] at q; exact ⟨v, H, I.tok _, r5, q _ r4⟩
  · obtain ⟨u, u2, rfl, ru, rw'⟩ := r.two
    refine call_meetsIn PySem.F.slot_dict_get h4.typeIs PySem.F.entry_dict_get (PySem.F.args_dict_get_3 _ _ _) (meets_getV2 (key := u) (d := a) h1 u2) ⟨key_room hu, toKey k, ws, key_is I hk rk ru, h4, ?_⟩
    rcases h2.get hk with ⟨e1, e2⟩ | ⟨d, p, v, e1, e2, r4, r5⟩
    · rw [e2]; rw [e1] at q; exact ⟨w, H, I.tok _, rw', q _ rd⟩
    · rw [e2]; rw [e1] at q; exact ⟨v, H, I.tok _, r5, q _ r4⟩
/-! ### d.setdefault(k, x) -/
def rSdfK (cl : Cl) (X : Cx) : V → List V → Hp → VK → Prop := fun x xs H Q => ∃ (ρ : Rho) (kvs : List (D × D)) (k d : D) (a : Addr) (es : Array DictEntry) (ep : Nat) (b w : V), x = .ref a ∧ xs = [b, w] ∧ H a = some (rawO a es ep) ∧ RepE (gm cl X) H ρ kvs es.toList ∧ Rep (gm cl X) H ρ k b ∧ isKey k = true ∧
  Rep (gm cl X) H ρ d w ∧ kvs.length < sizeLine ∧ (match dget kvs k with
    | some d' => ∀ v, Rep (gm cl X) H ρ d' v → Q v H
    | none => ∀ (es' : Array DictEntry) (ep' : Nat), RepE (gm cl X) H ρ (dput kvs k d) es'.toList → Q w (upd H a (rawO a es' ep')))
theorem mt_sdfK (hu : X.A.units + 64 < cLine) : MtR X "dict.setdefault" (rSdfK cl X) := by
  intro pins s σ H x xs v us Q I rx r h
  obtain ⟨ρ, kvs, k, d, a, es, ep, b, w, rfl, rfl, ha, rkv, rk, hk, rd, hz, q⟩ := h
  cases rx
  obtain ⟨u, u2, rfl, ru, rw'⟩ := r.two
  obtain ⟨hd, ws, h4, h5, h6⟩ := DAt.model I ⟨es, ep, .inl ha, rkv⟩
  have hl := h4.length
  refine call_meetsIn PySem.F.slot_dict_setdefault h6.typeIs PySem.F.entry_dict_setdefault (PySem.F.args_dict_setdefault_3 _ _ _) (meets_setdefV (key := u) (d := a) hd u2) ⟨key_room hu, toKey k, ws, key_is I hk rk ru, h6, by omega, fun u' e => ?_, fun e h' dd' hs => ?_⟩
  · rcases h4.get hk with ⟨e1, e2⟩ | ⟨d', p, v, e1, e2, r4, r5⟩
    · rw [e2] at e; cases e
    · rw [e2] at e; cases e
      rw [e1] at q
      exact ⟨v, H, I.tok _, r5, q _ r4⟩
  · rcases h4.get hk with ⟨e1, e2⟩ | ⟨d', p, v, e1, e2, r4, r5⟩
    · rw [e1] at q
      obtain ⟨es', ep', e3, new⟩ := raw_ok (X := X) (H' := H) hd dd'
      refine ⟨w, upd H a (rawO a es' ep'), I.write (x := a) (e := a) (by rw [ha]; exact True.intro) (.inl rfl) (fun b q hb z => (hs.2 b hb).trans z) (let ⟨o, _, _, g, _⟩ := dd'; ⟨o, g⟩) new, rw', q es' ep' ?_⟩
      rw [e3]
      exact of_kx (h4.put hk rk ru rd rw' h5) (h5.put d hk)
    · rw [e2] at e; cases e
/-! ### methods of a dict -/
def tBMK (cl : Cl) (X : Cx) (r : V → List V → Hp → VK → Prop) (to : TE) (t : TA) : TE := fun σ H Q => to σ H fun x H1 => (∃ ρ a kvs, x = .ref a ∧ DAt (gm cl X) H1 ρ a kvs) ∧ t σ H1 fun xs H2 => r x xs H2 Q
variable {o e : Expr} {es : List Expr} {to : TE} {t : TA} {name : Str} {apos cpos pos : Pos} {id : String} {r : V → List V → Hp → VK → Prop}
theorem pe_bmK (slot : Slot "dict" name id) (hty : typeOf (.builtin id) = pure (.type "method_descriptor")) (hm : MtR X id r) (ho : PE X o to) (ha : PA X (e :: es) t)
    (hbase : attributeBase o name X.env (eval o X.env) = eval o X.env)
    (hfew : ((backTo cpos (starEach (e :: es) X.env)).all (fun x => !x.1) && (backToKw cpos (keywordEach [] X.env)).all (fun x => x.1.isSome)
      && decide ((e :: es).length + ([] : List Keyword).length + (if ([] : List Keyword).isEmpty then 0 else 1) < 30)) = true)
    (hline : (apos.endLine == cpos.line) = true) (hs : starEach (e :: es) X.env = (false, eval e X.env) :: starEach es X.env) (hplain : (backTo cpos (starEach es X.env)).any (·.1) = false) :
    PE X (.Call (.Attribute o name apos) (e :: es) [] cpos) (tBMK cl X r to t) := by
  refine ⟨fun pins s σ H Q I h => ?_⟩
  refine wpAny_Call_method_late hbase hfew hline rfl (thn (ho.run pins s σ H _ I h) fun v s1 ⟨x, H1, I1, r1, ⟨ρ, a, kvs, ex, hd⟩, q1⟩ => ?_)
  subst ex
  obtain rfl : v = Value.ref a := r1
  obtain ⟨_, ws, _, _, h4⟩ := hd.model I1
  have nd : ∀ b, Value.ref a = .ref b → ∃ ob, s1.heap.get? b = some ob ∧ ob.dict = none := fun b q => by
    cases q
    obtain ⟨ob, _, _, g1, g2, _⟩ := h4
    exact ⟨ob, g1, g2.2.1⟩
  refine ⟨"dict", id, PySem.F.plainAttrs_dict, slot, hty, h4.typeIs, nd, ?_⟩
  have hA := ha.run cpos pins s1 σ H1 _ I1 q1
  rw [hs] at hA ⊢
  refine Calls.callWith_builtin (by show (false || (backTo cpos (starEach es X.env)).any (·.1)) = false; rw [hplain] <;> rfl) (Calls.evalArgs_plain ?_)
  exact thn hA fun us s2 ⟨vs, H2, I2, r2, q2⟩ => hm pins s2 σ H2 (.ref a) vs _ us Q I2 rfl r2 q2
variable {W : WX} {fo : Ev} {fs : Av} {g : D → List D → Store → R D}
theorem de_md (slot : Slot "dict" name id) (hty : typeOf (.builtin id) = pure (.type "method_descriptor")) (hm : MtR X id r) (hd : OpM cl X g r) (ho : DE cl W X o fo) (ha : DA cl W X (e :: es) fs)
    (hbase : attributeBase o name X.env (eval o X.env) = eval o X.env)
    (hfew : ((backTo cpos (starEach (e :: es) X.env)).all (fun x => !x.1) && (backToKw cpos (keywordEach [] X.env)).all (fun x => x.1.isSome)
      && decide ((e :: es).length + ([] : List Keyword).length + (if ([] : List Keyword).isEmpty then 0 else 1) < 30)) = true)
    (hline : (apos.endLine == cpos.line) = true) (hs : starEach (e :: es) X.env = (false, eval e X.env) :: starEach es X.env) (hplain : (backTo cpos (starEach es X.env)).any (·.1) = false) :
    DE cl W X (.Call (.Attribute o name apos) (e :: es) [] cpos) (eMD g fo fs) := by
  refine imp_e (pe_bmK (cl := cl) slot hty hm ho ha hbase hfew hline hs hplain) fun σ H Q h => ?_
  obtain ⟨ρ, δ, L, hs, ha, h⟩ := h
  refine ⟨ρ, δ, L, hs, ha, After.mono (After.andThen h) fun x H1 ρ1 L1 st1 a1 h1 v rv => ?_⟩
  cases el : dctOf L1 x with
  | none => simp only [el] at h1; exact (show False from h1).elim
  | some kvs =>
    simp only [el] at h1
    obtain ⟨p, rfl, q1⟩ := dct_at a1 rv el
    refine ⟨⟨ρ1, p, kvs, rfl, q1⟩, ρ1, δ, L1, hs.step ha.live st1, a1, After.mono (After.andThen h1) fun ds H2 ρ2 L2 st2 a2 h2 us rus => ?_⟩
    exact hd W σ H2 ρ2 L2 x ds _ us Q a2 (rv.step a1.live st2) rus h2
theorem d_getK : OpM cl X mGet (rGetK cl X) := by
  intro W σ H ρ L x xs v vs Q ab rx rs h
  unfold mGet at h
  split at h
  · rename_i kvs k ek
    obtain ⟨a, rfl, hd⟩ := dct_at ab rx ek
    obtain ⟨w, rfl, rk⟩ := rep1 rs
    by_cases hk : isKey k = true
    · rw [if_pos hk] at h
      exact ⟨ρ, kvs, k, a, _, rfl, hd, rk, hk, .inl ⟨rfl, now ab h⟩⟩
    · rw [if_neg hk] at h; exact (show False from h).elim
  · rename_i kvs k y ek
    obtain ⟨a, rfl, hd⟩ := dct_at ab rx ek
    cases rs with
    | cons rk r2 =>
      obtain ⟨w, rfl, ry⟩ := rep1 r2
      by_cases hk : isKey k = true
      · rw [if_pos hk] at h
        exact ⟨ρ, kvs, k, a, _, rfl, hd, rk, hk, .inr ⟨y, w, rfl, ry, now ab h⟩⟩
      · rw [if_neg hk] at h; exact (show False from h).elim
  · exact (show False from h).elim
theorem d_sdfK : OpM cl X mSetdef (rSdfK cl X) := by
  intro W σ H ρ L x xs v vs Q ab rx rs h
  unfold mSetdef at h
  split at h
  · rename_i i k y
    cases e : L[i]? with
    | none => simp only [e] at h; exact (show False from h).elim
    | some m =>
      cases m with
      | dct kvs =>
        simp only [e] at h
        obtain ⟨p, es, ep, rfl, h1, h2, h3⟩ := ref_dct ab rx e
        cases rs with
        | cons rk r2 =>
          obtain ⟨w, rfl, ry⟩ := rep1 r2
          by_cases c : (isKey k && decide (kvs.length < most)) = true
          · rw [if_pos c] at h
            rw [Bool.and_eq_true, decide_eq_true_eq] at c
            refine ⟨ρ, kvs, k, y, p, es, ep, _, w, rfl, rfl, h2, h3, rk, c.1, ry, most_lt c.2, ?_⟩
            cases eg : dget kvs k with
            | some d' => rw [eg] at h; exact now ab h
            | none =>
              rw [eg] at h
              intro es' ep' r
              obtain ⟨q, st⟩ := wrote_dct ab h1 r h
              exact q _ (ry.step ab.live st)
          · rw [if_neg c] at h; exact (show False from h).elim
      | _ => simp only [e] at h; exact (show False from h).elim
  · exact (show False from h).elim
theorem d_updK : OpM cl X mUpdate (rUpdK cl X) := by
  intro W σ H ρ L x xs v vs Q ab rx rs h
  unfold mUpdate at h
  split at h
  · rename_i i y
    obtain ⟨w, rfl, rw'⟩ := rep1 rs
    cases e : L[i]? with
    | none => simp only [e] at h; exact (show False from h).elim
    | some m =>
      cases m with
      | dct kvs =>
        cases e2 : lstOf L y with
        | none => simp only [e, e2] at h; exact (show False from h).elim
        | some zs =>
          cases e3 : pairsOf zs with
          | none => simp only [e, e2, e3] at h; exact (show False from h).elim
          | some ps =>
            simp only [e, e2, e3] at h
            obtain ⟨p, es, ep, rfl, h1, h2, h3⟩ := ref_dct ab rx e
            obtain ⟨q, ws, rfl, h4, h5⟩ := lst_at ab rw' e2
            by_cases c : kvs.length + zs.length ≤ most
            · rw [if_pos c] at h
              exact ⟨ρ, kvs, p, es, ep, q, ws, zs, ps, rfl, rfl, h2, h3, h4, h5, e3, most_le c, fun es' ep' r => (wrote_dct ab h1 r h).1 _ .non⟩
            · rw [if_neg c] at h; exact (show False from h).elim
      | _ => simp only [e] at h; exact (show False from h).elim
  · exact (show False from h).elim
end
end Df
namespace Df
open PySem PySem.Spec PyProof.Rows L2
section
variable {cl : Cl} {W : WX} {X : Cx} {a b e o i : Expr} {fa fb f fo fi : Ev} {pos p apos cpos pos' : Pos} {es : List Expr} {fs : Av}
theorem de_key (hu : X.A.units + 64 < cLine) (ha : DE cl W X a fa) (hb : DE cl W X b fb) (hs : PlainIx b := by exact fun _ _ => rfl) : DE cl W X (.Subscript a b pos) (eOp oKey fa fb) :=
  imp_e (pe_ix (ix_key (cl := cl) hu) ha hb hs) fun _ _ _ h => run2 d_key h
theorem alloc_dct {H : Hp} {ρ : Rho} {L : Store} {kvs : List (D × D)} {es : Array DictEntry} {ep : Nat} {p : Addr} {σ : L2.St} {Q : VK} (ab : AbsL (gm cl X) H ρ L) (r : RepE (gm cl X) H ρ kvs es.toList) (hp : H p = none)
    (h : After (gm cl X) W σ ρ H (alloc (.dct kvs) L) fun d H' ρ' _ => ∀ w, Rep (gm cl X) H' ρ' d w → Q w H') : Q (.ref p) (upd H p (rawO p es ep)) := by
  have st0 : Step H ρ (upd H p (rawO p es ep)) (ρ ++ [some p]) := Step.alloc hp
  obtain ⟨st, ab', rr⟩ := AbsL.adopt (m := .dct kvs) ab (tabs_new ab.tab hp) (fun a o _ q => by rw [upd_ne (ne_of_none q hp)]; exact q) (fun o e => by rw [hp] at e; cases e) (by rw [upd_same]; exact True.intro) ⟨_, es, ep, rfl, upd_same, r.step ab.live st0⟩
  exact h _ _ st ab' _ rr
theorem frozen_dct {H : Hp} {ρ : Rho} {L : Store} {kvs : List (D × D)} {es : Array DictEntry} {ep : Nat} {p : Addr} {σ : L2.St} {Q : VK} (ab : AbsL (gm cl X) H ρ L) (r : RepE (gm cl X) H ρ kvs es.toList) (hp : H p = none)
    (h : After (gm cl X) W σ ρ H (frozen (.dct kvs) L) fun d H' ρ' _ => ∀ w, Rep (gm cl X) H' ρ' d w → Q w H') : QF Q (.ref p) (upd H p (rawO p es ep)) := by
  unfold frozen at h
  by_cases c : D.flatP kvs = true
  · simp only [c, if_true] at h
    refine .inr ⟨p, _, rfl, upd_same, True.intro, fun od => ?_⟩
    rw [upd_upd]
    exact h _ ρ (Step.grow hp) (ab.grow hp) _ (.dct upd_same (r.step ab.live (Step.grow hp)))
  · simp only [c, if_false] at h; exact (show False from h).elim
theorem de_dict (hm : X.mg "dict" = none) (hc : X.calm = true) (hu : X.A.units + 64 < cLine) (ha : DE cl W X e f) (hg : Gl X "dict" := by rfl) (he : starEach [e] X.env = (false, eval e X.env) :: starEach [] X.env := by rfl) : DE cl W X (.Call (.Name "dict" p) [e] [] pos) (eB bDict (aCons f aNil)) := by
  refine imp_e (pe_callTy (call_dictK (cl := cl) hc hu) hg hm PyProof.Rows.boot_dict (da_cons ha da_nil he) (by decide) (by decide) he) fun σ H Q h => ?_
  obtain ⟨ρ, δ, L, hs, ha, h⟩ := h
  refine ⟨ρ, δ, L, hs, ha, After.mono (After.andThen h) fun ds H1 ρ1 L1 st1 a1 h1 vs rv => ?_⟩
  unfold bDict at h1
  split at h1
  · rename_i x
    obtain ⟨v, rfl, r⟩ := rep1 rv
    cases es : lstOf L1 x with
    | none => simp only [es] at h1; exact (show False from h1).elim
    | some ys =>
      cases e3 : pairsOf ys with
      | none => simp only [es, e3] at h1; exact (show False from h1).elim
      | some ps =>
        simp only [es, e3] at h1
        by_cases c : ys.length ≤ most
        · rw [if_pos c] at h1
          obtain ⟨q, vs, rfl, q1, q2⟩ := lst_at a1 r es
          exact ⟨ρ1, q, vs, ys, ps, rfl, q1, q2, e3, fun z es' ep' hz rr => alloc_dct a1 rr hz h1⟩
        · rw [if_neg c] at h1; exact (show False from h1).elim
  · exact h1.elim
theorem de_dictF (hm : X.mg "dict" = none) (hc : X.calm = true) (hu : X.A.units + 64 < cLine) (ha : DE cl W X e f) (hg : Gl X "dict" := by rfl) (he : starEach [e] X.env = (false, eval e X.env) :: starEach [] X.env := by rfl) : DE cl W X (.Call (.Name "dict" p) [e] [] pos) (eB bDictF (aCons f aNil)) := by
  refine imp_e (lk (pe_callTy (call_dictK (cl := cl) hc hu) hg hm PyProof.Rows.boot_dict (da_cons ha da_nil he) (by decide) (by decide) he)) fun σ H Q h => ?_
  obtain ⟨ρ, δ, L, hs, ha, h⟩ := h
  refine ⟨ρ, δ, L, hs, ha, After.mono (After.andThen h) fun ds H1 ρ1 L1 st1 a1 h1 vs rv => ?_⟩
  unfold bDictF at h1
  split at h1
  · rename_i x
    obtain ⟨v, rfl, r⟩ := rep1 rv
    cases es : lstOf L1 x with
    | none => simp only [es] at h1; exact (show False from h1).elim
    | some ys =>
      cases e3 : pairsOf ys with
      | none => simp only [es, e3] at h1; exact (show False from h1).elim
      | some ps =>
        simp only [es, e3] at h1
        by_cases c : ys.length ≤ most
        · rw [if_pos c] at h1
          obtain ⟨q, vs, rfl, q1, q2⟩ := lst_at a1 r es
          exact ⟨ρ1, q, vs, ys, ps, rfl, q1, q2, e3, fun z es' ep' hz rr => frozen_dct a1 rr hz h1⟩
        · rw [if_neg c] at h1; exact (show False from h1).elim
  · exact h1.elim
theorem de_update (hc : X.calm = true) (hu : X.A.units + 64 < cLine) (ho : DE cl W X o fo) (ha : DE cl W X e f) (hbase : attributeBase o "update" X.env (eval o X.env) = eval o X.env := by rfl)
    (hfew : ((backTo cpos (starEach [e] X.env)).all (fun x => !x.1) && (backToKw cpos (keywordEach [] X.env)).all (fun x => x.1.isSome)
      && decide ([e].length + ([] : List Keyword).length + (if ([] : List Keyword).isEmpty then 0 else 1) < 30)) = true := by rfl)
    (hline : (apos.endLine == cpos.line) = true := by rfl) (hs : starEach [e] X.env = (false, eval e X.env) :: starEach [] X.env := by rfl) : DE cl W X (.Call (.Attribute o "update" apos) [e] [] cpos) (eMD mUpdate fo (aCons f aNil)) :=
  de_md PySem.F.slot_dict_update PySem.F.type_dict_update (mt_updK (cl := cl) hc hu) d_updK ho (da_cons ha da_nil hs) hbase hfew hline hs rfl
theorem de_get (hu : X.A.units + 64 < cLine) (ho : DE cl W X o fo) (ha : DA cl W X (e :: es) fs) (hbase : attributeBase o "get" X.env (eval o X.env) = eval o X.env := by rfl)
    (hfew : ((backTo cpos (starEach (e :: es) X.env)).all (fun x => !x.1) && (backToKw cpos (keywordEach [] X.env)).all (fun x => x.1.isSome)
      && decide ((e :: es).length + ([] : List Keyword).length + (if ([] : List Keyword).isEmpty then 0 else 1) < 30)) = true := by rfl)
    (hline : (apos.endLine == cpos.line) = true := by rfl) (hs : starEach (e :: es) X.env = (false, eval e X.env) :: starEach es X.env := by rfl) (hplain : (backTo cpos (starEach es X.env)).any (·.1) = false := by rfl) : DE cl W X (.Call (.Attribute o "get" apos) (e :: es) [] cpos) (eMD mGet fo fs) :=
  de_md PySem.F.slot_dict_get PySem.F.type_dict_get (mt_getK (cl := cl) hu) d_getK ho ha hbase hfew hline hs hplain
theorem de_setdef (hu : X.A.units + 64 < cLine) (ho : DE cl W X o fo) (ha : DA cl W X (e :: es) fs) (hbase : attributeBase o "setdefault" X.env (eval o X.env) = eval o X.env := by rfl)
    (hfew : ((backTo cpos (starEach (e :: es) X.env)).all (fun x => !x.1) && (backToKw cpos (keywordEach [] X.env)).all (fun x => x.1.isSome)
      && decide ((e :: es).length + ([] : List Keyword).length + (if ([] : List Keyword).isEmpty then 0 else 1) < 30)) = true := by rfl)
    (hline : (apos.endLine == cpos.line) = true := by rfl) (hs : starEach (e :: es) X.env = (false, eval e X.env) :: starEach es X.env := by rfl) (hplain : (backTo cpos (starEach es X.env)).any (·.1) = false := by rfl) : DE cl W X (.Call (.Attribute o "setdefault" apos) (e :: es) [] cpos) (eMD mSetdef fo fs) :=
  de_md PySem.F.slot_dict_setdefault PySem.F.type_dict_setdefault (mt_sdfK (cl := cl) hu) d_sdfK ho ha hbase hfew hline hs hplain
theorem ds_putD (hu : X.A.units + 64 < cLine) (he : DE cl W X e f) (ho : DE cl W X o fo) (hi : DE cl W X i fi)
    (ha : ∀ v, assign (.Subscript o i pos') X.env v = (do
      let ov ← holding [v] (eval o X.env)
      let iv ← holding [v, ov] (eval i X.env)
      standAt pos'
      holding [v, ov, iv] (setItem ov iv v)
      release [v, ov, iv] []) := by intro _; rfl)
    (hs : swapsWithSole [.Subscript o i pos'] e pos.line X.env = pure false := by rfl) (hw : swappedStores [.Subscript o i pos'] e X.env = pure none := by rfl)
    (h1 : (assignEach [.Subscript o i pos'] X.env).map (·.2) = [assign (.Subscript o i pos') X.env] := by rfl) : DS cl W X (.Assign [.Subscript o i pos'] e pos) (sPut pDct fo fi f) :=
  ds_put he ho hi (set_key (cl := cl) hu) d_pDct ha hs hw h1
/-! ### the keys of a dict that nobody changes -/
def ItR (d : Addr) (o : Obj) (es : Array DictEntry) (ep : Nat) : It :=
  ⟨fun i H => H d = some (.frz o (rawO d es ep)) ∧ ∃ (en : DictEntry) (q : V), es[i]? = some en ∧ RelV q en.key, fun i H x H' => H' = H ∧ ∃ (en : DictEntry), es[i]? = some en ∧ RelV x en.key, fun i H => H d = some (.frz o (rawO d es ep)) ∧ es.size ≤ i⟩
theorem frz_raw {pins : List (Addr × Obj)} {σ : L2.St} {H : Hp} {s : Shared} {d : Addr} {ob : Obj} {es : Array DictEntry} {ep : Nat} (I : Inv X pins σ H s) (h : H d = some (.frz ob (rawO d es ep))) : (d == sysModules) = false ∧ s.heap.get? d = some ob ∧ ob.ExactDict ∧ ob.data = .dict es ep := by
  obtain ⟨hd, ⟨⟨o', h1, h2, h3⟩, hs⟩, _⟩ := I.hok d _ h
  rw [hd] at h1
  cases h1
  exact ⟨hs, hd, h2, h3⟩
theorem turn_raw {P : Program} {w : World} {K : PySem.W.Frag} {tg : Expr} {d : Addr} {ob : Obj} {es : Array DictEntry} {ep : Nat} (it : Addr) : Turn P w K tg (ItR d ob es ep) [it] it (fun i h => h.IsKeyIter it d i es.size ep) where
  mem := List.mem_singleton.mpr rfl
  obj := fun i h st b hb => by
    obtain rfl : b = it := List.mem_singleton.mp hb
    obtain ⟨oi, g1, _, g2⟩ := st
    exact ⟨oi, g1, fun v z => by rw [g2] at z; cases z⟩
  keep := fun i h h' st k => st.at fun oi g => k it (List.mem_singleton.mpr rfl) oi g
  item := by
    intro X hP hw hK hc i pins s σ H E I hf st hg
    subst hP hw hK
    obtain ⟨hd, en, q, hen, hkey⟩ := hg
    obtain ⟨f0, f1, f2, f3, f4, f5⟩ := hf it (List.mem_singleton.mpr rfl)
    obtain ⟨hs, hgd, hx, hdt⟩ := frz_raw I hd
    refine next_key_item st hgd hdt rfl hen fun h' st' sb => ?_
    have I1 : Inv X pins σ H { s with heap := h' } := I.turned (t' := s.toks) (fun b z hb g => (sb.2 b hb).trans g) f0 f1 f3 f4 f5
    obtain ⟨oi, g1, c, g2⟩ := id st'
    exact ⟨en.key, rfl, go_of (s := { s with heap := h' }) g1 c g2 (by decide) ⟨q, H, I1, hkey, ⟨rfl, en, hen, hkey⟩, st', fun b hb => (hf b hb).1⟩⟩
  done := by
    intro X hP hw hK hc i pins s σ H E I hf st hg
    subst hP hw hK
    obtain ⟨hd, hi⟩ := hg
    obtain ⟨f0, f1, f2, f3, f4, f5⟩ := hf it (List.mem_singleton.mpr rfl)
    obtain ⟨hs, hgd, hx, hdt⟩ := frz_raw I hd
    exact next_key_end (I.ok.hd hc) st hgd hdt rfl hi fun h' eb => ⟨rfl, I.turned (t' := s.toks) (fun b z hb g => eb b z hb g) f0 f1 f3 f4 f5⟩
  self := fun A i s Q E st h => wpAny_pyIter_keyiter st h
def iRaw (td : TE) : TI := fun σ H R => td σ H fun x H1 => ∃ d ob es ep, x = .ref d ∧ H1 d = some (.frz ob (rawO d es ep)) ∧ R (ItR d ob es ep) H1
theorem pi_raw {tg : Expr} {td : TE} (he : PE X e td) : PI X tg e (iRaw td) := by
  refine ⟨fun pins s σ H R I h => ?_⟩
  refine thn (he.run pins s σ H _ I h) fun u s1 ⟨x, H1, I1, rx, d, ob, es, ep, ex, hd, q⟩ => ?_
  subst ex
  obtain rfl : u = Value.ref d := rx
  obtain ⟨hs, hgd, hx, hdt⟩ := frz_raw I1 hd
  exact iter_keys hs hgd hx hdt (pi_one (tk := s1.toks) I1 _ (turn_raw _) ⟨_, Heap.get?_push_size _ rfl, rfl, rfl⟩ q)
theorem RepE.at {G : Gm} {H : Hp} {ρ : Rho} : ∀ {kvs : List (D × D)} {es : List DictEntry} {i : Nat} {d : D}, RepE G H ρ kvs es → (kvs.map (·.1))[i]? = some d → ∃ en q, es[i]? = some en ∧ RelV q en.key ∧ Rep G H ρ d q ∧ keyish d = true
  | _, _, i, d, .nil, e => by simp at e
  | (k, x) :: r, en :: es, 0, d, .cons g rk ek _ _ _ _, e => by
    cases e
    exact ⟨en, _, rfl, ek, rk, isKey_keyish g.1⟩
  | (k, x) :: r, en :: es, i + 1, d, .cons _ _ _ _ _ _ t, e => by
    obtain ⟨en', q, h1, h2⟩ := RepE.at (i := i) (d := d) t (by simpa using e)
    exact ⟨en', q, by simpa using h1, h2⟩
/-- what stands for a key is told by the value -/
theorem key_same {G : Gm} {H : Hp} {ρ : Rho} {d : D} {v v' : V} {u : Value} (r : Rep G H ρ d v) (h : L2.RelV v u) (h' : L2.RelV v' u) : Rep G H ρ d v' := by
  rw [L2.RelV.inj h' h]; exact r
theorem RepE.length {G : Gm} {H : Hp} {ρ : Rho} : ∀ {kvs : List (D × D)} {es : List DictEntry}, RepE G H ρ kvs es → kvs.length = es.length
  | _, _, .nil => rfl
  | _, _, .cons _ _ _ _ _ _ t => by rw [List.length_cons, List.length_cons, RepE.length t]
theorem di_keys {tg : Expr} (he : DE cl W X e f) : DI cl W X tg e (Df.iKeys f) := by
  refine ⟨_, pi_raw he, fun σ H Rr ρ δ L hs ha h => ⟨ρ, δ, L, hs, ha, After.mono (After.andThen h) fun x H1 ρ1 L1 st1 a1 h1 v rv => ?_⟩⟩
  cases x with
  | dct kvs =>
    cases rv with
    | @dct ad es ep ob _ q1 q2 =>
      refine ⟨ad, ob, es, ep, rfl, q1, now a1 h1 _ ⟨fun H2 ρ2 L2 i d st ab hd => ?_, fun H2 ρ2 L2 st ab => ⟨st.fr _ _ q1 nt_frz (notLive a1.live q1 fun z => z), ?_⟩⟩⟩
      · obtain ⟨en, q, g1, g2, g3, g4⟩ := (q2.step a1.live st).at hd
        have g1' : es[i]? = some en := by rw [← Array.getElem?_toList]; exact g1
        refine ⟨⟨st.fr _ _ q1 nt_frz (notLive a1.live q1 fun z => z), en, q, g1', g2⟩, fun x H3 hy => ?_⟩
        obtain ⟨rfl, en', e1, e2⟩ := hy
        rw [g1'] at e1
        cases e1
        exact ⟨Step.refl _ _, ab, key_same g3 g2 e2⟩
      · rw [List.length_map, q2.length, Array.length_toList]
        exact Nat.le_refl _
  | _ => exact (show False from h1).elim
end
end Df
/-! d.update(e), e a dict whose keys are texts or numbers -/
namespace Df
open PySem PySem.Spec PyProof.Rows L2
section
variable {prog : Program} {w : World} {A : Around} {E : Value → Shared → Prop} {s : Shared} {d o : Addr} {xs : List Kv} {k : NestedKey} {key : Value}
theorem atV_none {xs : List Kv} {k : NestedKey} (h : k ∉ xs.map (·.1)) : atV xs k = none := by
  unfold atV
  rw [List.find?_eq_none.mpr fun x hx e => h (List.mem_map.mpr ⟨x, hx, by simpa using e⟩)]
  rfl
theorem storV_fresh {xs : List Kv} {k : NestedKey} {a v : Value} (h : k ∉ xs.map (·.1)) : storV xs k a v = xs ++ [(k, a, v)] := by
  unfold storV
  rw [atV_none h]
  rfl
theorem storAllV_fresh : ∀ (ps xs : List Kv), ((xs ++ ps).map (·.1)).Nodup → storAllV xs ps = xs ++ ps
  | [], xs, _ => by rw [List.append_nil]; rfl
  | p :: ps, xs, h => by
    have hk : p.1 ∉ xs.map (·.1) := by
      rw [List.map_append, List.nodup_append] at h
      exact fun e => h.2.2 p.1 e p.1 (by simp) rfl
    show storAllV (storV xs p.1 p.2.1 p.2.2) ps = _
    rw [storV_fresh hk, storAllV_fresh ps (xs ++ [p]) (by rw [List.append_assoc]; exact h), List.append_assoc]
    rfl
theorem merge_dV {nm : String} {acc more : List Kv} {Q : Unit → Shared → Prop} (hu : A.units + 8 < cLine) (hdo : d ≠ o) (hoS : (o == sysModules) = false)
    (hm : DictV w s.heap d acc) (ho : DictV w s.heap o more) (hq : ∀ x ∈ more, carriedByValue x.2.1 = true) (hsz : acc.length + more.length ≤ sizeLine)
    (hst : ∀ h', Heap.SameBut d s.heap h' → ∀ x ∈ acc ++ more, KIs h' x.1 x.2.1)
    (hQ : ∀ h', DictV w h' d (storAllV acc more) → Heap.SameBut d s.heap h' → Q () { s with heap := h' }) :
    wpAny (model prog w) A (Builtin.Dict.mergeDict nm d o) Q E s := by
  obtain ⟨od, esd, epd, hod, hcd, hdd, Hd⟩ := id hm
  obtain ⟨oo, eso, epo, hoo, hco, hdo', Ho⟩ := id ho
  unfold Builtin.Dict.mergeDict
  rw [if_neg (by simpa using hdo)]
  unfold Builtin.Dict.showsAll
  rw [if_neg (by rw [hoS]; exact Bool.false_ne_true)]
  refine wpAny_bind (wpAny_pure ?_)
  refine wpAny_bind (wpAny_dictEntries hoo hdo' ?_)
  have hlen : eso.size = more.length := Ho.size
  have loop : wpAny (model prog w) A (do
      let epoch ← dictEpoch o
      let l ← dictEntries o
      forIn [:l.size] PUnit.unit fun i (_ : PUnit) => (do
          let l' ← dictEntries o
          match l'[i]? with
            | some e => do
              holding [e.key, e.val] (dictSetHashed d e.key e.hash e.val)
              let ep' ← dictEpoch o
              if (ep' != epoch) = true then do
                  (unsupported (toString nm ++ toString ":source-changed-during-callback") : Sem PUnit)
                  pure (ForInStep.yield PUnit.unit)
                else pure (ForInStep.yield PUnit.unit)
            | _ => do
              (unsupported "internal:dict-merge" : Sem PUnit)
              pure (ForInStep.yield PUnit.unit) : Sem (ForInStep PUnit))
      pure ()) Q E s := by
    refine wpAny_bind (wpAny_dictEpoch hoo hdo' ?_)
    refine wpAny_bind (wpAny_dictEntries hoo hdo' ?_)
    refine wpAny_bind ?_
    rw [Std.Legacy.Range.forIn_eq_forIn_range']
    simp only [Std.Legacy.Range.size, Nat.sub_zero, Nat.add_sub_cancel, Nat.div_one]
    refine wpAny_forIn_list _
      (fun rest _ s' => ∃ h' i, s' = { s with heap := h' } ∧ rest = List.range' i (eso.size - i) ∧ i ≤ eso.size ∧ DictV w h' d (storAllV acc (more.take i)) ∧ h'.get? o = some oo ∧ Heap.SameBut d s.heap h')
      _ ?_ ?_ _ _ ⟨s.heap, 0, rfl, by simp, Nat.zero_le _, by simpa [storAllV] using hm, hoo, Heap.SameBut.refl _ _⟩
    · rintro x rest b s' ⟨h', i, rfl, hr, hi, hd', hoo', hs'⟩
      have hlt : i < eso.size := by
        rcases Nat.lt_or_ge i eso.size with h | h
        · exact h
        · rw [Nat.sub_eq_zero_of_le h] at hr; simp at hr
      obtain ⟨rfl, hrest⟩ : x = i ∧ rest = List.range' (i + 1) (eso.size - (i + 1)) := by
        have e : eso.size - i = (eso.size - (i + 1)) + 1 := by omega
        rw [e, List.range'_succ] at hr
        injection hr with h1 h2
        exact ⟨h1, h2⟩
      refine wpAny_bind (wpAny_dictEntries hoo' hdo' ?_)
      obtain ⟨y, hy⟩ : ∃ kv, more[x]? = some kv := ⟨more[x]'(by rw [← hlen]; exact hlt), List.getElem?_eq_getElem _⟩
      rw [Ho.get x, hy]
      show wpAny _ _ (holding [y.2.1, y.2.2] (dictSetHashed d y.2.1 (y.1.hash w) y.2.2) >>= _) _ _ _
      have hmx : (storAllV acc (more.take x)).length ≤ sizeLine := by
        have e1 := storAllV_len (more.take x) acc
        have e2 : (more.take x).length ≤ more.length := by rw [List.length_take]; omega
        omega
      have hkey : KIs h' y.1 y.2.1 := hst h' hs' y (List.mem_append_right _ (List.mem_of_getElem? hy))
      refine wpAny_bind (wpAny_holding (set_hashed (s := { s with heap := h' }) hd' hkey hu hmx fun h'' hd'' hs'' => ?_))
      have hoo'' : h''.get? o = some oo := (hs''.2 o (Ne.symm hdo)).trans hoo'
      refine wpAny_bind (wpAny_dictEpoch hoo'' hdo' ?_)
      rw [if_neg (by simp)]
      exact wpAny_pure ⟨h'', x + 1, rfl, hrest, hlt, by rw [storAllV_snoc acc more x y hy]; exact hd'', hoo'', hs'.trans hs''⟩
    · rintro b s' ⟨h', i, rfl, hr, hi, hd', hoo', hs'⟩
      have hin : i = eso.size := by
        rcases Nat.lt_or_ge i eso.size with h | h
        · have e : eso.size - i = (eso.size - (i + 1)) + 1 := by omega
          rw [e, List.range'_succ] at hr; exact nomatch hr
        · exact Nat.le_antisymm hi h
      refine wpAny_pure (hQ h' ?_ hs')
      rw [hin, hlen, List.take_length] at hd'; exact hd'
  dsimp only
  split
  · refine wpAny_bind (wpAny_dictEntries hod hdd ?_)
    split
    · rename_i hemp
      have hacc : acc = [] := by
        have h0 : esd = #[] := Array.isEmpty_iff.mp hemp
        have := Hd.size
        rw [h0] at this
        exact List.length_eq_zero_iff.mp (by simpa using this.symm)
      subst hacc
      refine wpAny_bind (PySem.wpAny_entriesForEmpty_raw hoo hdo' (fun e he => .inl ?_) ?_)
      · rw [Ho.eq] at he
        obtain ⟨y, hy, rfl⟩ := List.mem_map.mp he
        exact hq y hy
      rw [storAllV_fresh more [] (by simpa using Ho.nd)] at hQ
      split
      · have hto : eso.size ≤ sizeLine + 1 := by
          simp only [List.length_nil, Nat.zero_add] at hsz
          omega
        refine wpAny_bind (wpAny_updateDictKeysTo hod hdd (wpAny_pure (hQ _ ⟨_, _, epd + 1, Heap.get?_update_self _ hod (Obj.isFreed_of_dict (Obj.data_mapDictKeys hdd _)), hcd.mapDictKeys _,
          Obj.data_mapDictKeys hdd _, ⟨Ho.eq, fun x hx => hst _ (Heap.SameBut.update ..) x (by simpa using hx), Ho.nd⟩⟩ (Heap.SameBut.update ..))) hto)
      · rename_i hne
        have h0 : eso = #[] := Array.isEmpty_iff.mp (by simpa using hne)
        have hm0 : more = [] := List.length_eq_zero_iff.mp (by rw [← hlen, h0]; rfl)
        subst hm0
        exact wpAny_pure (hQ _ hm (Heap.SameBut.refl _ _))
    · exact loop
  · exact loop
theorem fill_dD {R : Result → Shared → Prop} {nm : String} {acc more : List Kv} (res : Value) (hu : A.in1.units + 8 < cLine) (hdo : d ≠ o) (hoS : (o == sysModules) = false)
    (hm : DictV w s.heap d acc) (ho : DictV w s.heap o more) (hq : ∀ x ∈ more, carriedByValue x.2.1 = true) (hsz : acc.length + more.length ≤ sizeLine)
    (hst : ∀ h', Heap.SameBut d s.heap h' → ∀ x ∈ acc ++ more, KIs h' x.1 x.2.1)
    (hR : ∀ h', DictV w h' d (storAllV acc more) → Heap.SameBut d s.heap h' → R (.ok (.ret res)) { s with heap := h' }) :
    wpAny (model prog w) A.in1 (Builtin.Dict.updateFrom nm d (.ref o) [] res)
      (fun fin s' => match fin with | .done f => R (.ok f) s' | .again c' => c'.quiet = true ∧ codeAny (model prog w) A c' R s') (fun e s' => R (.error e) s') s := by
  unfold Builtin.Dict.updateFrom
  refine wpAny_bind (wpAny_typeOf ho.typeIs ?_)
  rw [if_neg (by decide)]
  refine wpAny_bind ?_
  unfold Builtin.Dict.merge
  refine wpAny_bind ?_
  · unfold Builtin.Dict.readDirectly
    refine wpAny_bind (wpAny_isInstance ho.typeIs isSubtype_dict_dict ?_)
    simp only [Bool.not_true, Bool.false_eq_true, if_false]
    refine wpAny_bind (wpAny_specialOf ho.typeIs F.slot_dict_iter.lookup (wpAny_pure ?_))
    simp only [beq_self_eq_true, if_true]
    refine wpAny_bind (wpAny_pure ?_)
    refine merge_dV hu hdo hoS hm ho hq hsz hst fun h' hd' hs' => ?_
    show wpAny _ _ (Builtin.Dict.addKeywords d [] >>= _) _ _ _
    exact wpAny_bind (wpAny_pure (wpAny_pure (hR h' hd' hs')))
theorem call_updDV {acc more : List Kv} {Q : Value → Shared → Prop} (hu : A.in1.units + 8 < cLine) (hdo : d ≠ o) (hoS : (o == sysModules) = false)
    (hm : DictV w s.heap d acc) (ho : DictV w s.heap o more) (hq : ∀ x ∈ more, carriedByValue x.2.1 = true) (hsz : acc.length + more.length ≤ sizeLine)
    (hst : ∀ h', Heap.SameBut d s.heap h' → ∀ x ∈ acc ++ more, KIs h' x.1 x.2.1)
    (h : ∀ h', DictV w h' d (storAllV acc more) → Heap.SameBut d s.heap h' → Q .none { s with heap := h' }) :
    wpAny (model prog w) A (call (.builtin "dict.update") [.ref d, .ref o]) Q E s :=
  call_meetsIn F.slot_dict_update hm.typeIs F.entry_dict_update (F.args_dict_update_2 _ _)
    (S := fun A' R s' => A' = A ∧ s' = s ∧ ∀ h', DictV w h' d (storAllV acc more) → Heap.SameBut d s.heap h' → R (.ok (.ret .none)) { s with heap := h' })
    (fun A' R s' z => (by obtain ⟨rfl, rfl, hh⟩ := z; exact meets_dict_update_arg hm.typeIs (fill_dD .none hu hdo hoS hm ho hq hsz hst hh))) ⟨rfl, rfl, h⟩
end
section
variable {cl : Cl} {X : Cx} {pins : List (Addr × Obj)} {σ : L2.St} {H : Hp} {ρ : Rho} {s : Shared}
theorem KX.byVal : ∀ {ps : List (D × D)} {ys : List Kv}, KX (gm cl X) H ρ ps ys → (ps.all fun p => byVal p.1) = true → ∀ y ∈ ys, carriedByValue y.2.1 = true
  | _, _, .nil, _, y, hy => by cases hy
  | (k, d) :: r, q :: qs, .cons g t, h, y, hy => by
    rw [List.all_cons, Bool.and_eq_true] at h
    rcases List.mem_cons.mp hy with e | hy
    · rw [e]
      obtain ⟨_, _, ⟨kv, h3, h3'⟩, _⟩ := g
      revert h3'
      generalize q.2.1 = z
      intro h3'
      cases k with
      | non => cases h3; cases h3'; rfl
      | int i => cases h3; obtain ⟨_, h3'⟩ := h3'; cases h3'; rfl
      | str x => cases h3; obtain ⟨_, h3'⟩ := h3'; cases h3'; rfl
      | _ => exact absurd h.1 (by simp [Df.byVal])
    · exact KX.byVal t h.2 y hy
def rUpdD (cl : Cl) (X : Cx) : V → List V → Hp → VK → Prop := fun x xs H Q => ∃ (ρ : Rho) (kvs : List (D × D)) (a : Addr) (es : Array DictEntry) (ep : Nat) (b : Addr) (ps : List (D × D)), x = .ref a ∧ xs = [.ref b] ∧ a ≠ b ∧ H a = some (rawO a es ep) ∧ RepE (gm cl X) H ρ kvs es.toList ∧
  DAt (gm cl X) H ρ b ps ∧ (ps.all fun p => byVal p.1) = true ∧ kvs.length + ps.length ≤ sizeLine ∧ ∀ (es' : Array DictEntry) (ep' : Nat), RepE (gm cl X) H ρ (mkD ps kvs) es'.toList → Q .non (upd H a (rawO a es' ep'))
theorem mt_updD (hu : X.A.units + 64 < cLine) : MtR X "dict.update" (rUpdD cl X) := by
  intro pins s σ H x xs v us Q I rx r h
  obtain ⟨ρ, kvs, a, es, ep, b, ps, rfl, rfl, hab, ha, rkv, hb, hp, hz, q⟩ := h
  obtain ⟨u, rfl, ru⟩ := r.one
  cases rx
  cases ru
  obtain ⟨hdb, ys, g1, g2, g3⟩ := hb.model I
  obtain ⟨hd, ws, h4, h5, h6⟩ := DAt.model I ⟨es, ep, .inl ha, rkv⟩
  have hl4 := h4.length
  have hl1 := KX.length g1
  have hdseq : ∀ o vs n, s.heap.get? a = some o → o.data ≠ .seq vs n := fun o vs' n' ho hq => by
    obtain ⟨o2, es2, ep2, q1, _, q3, _⟩ := h6
    rw [ho] at q1; cases q1
    rw [hq] at q3; cases q3
  refine call_updDV (acc := ws) (more := ys) (key_room hu) hab hdb h6 g3 (g1.byVal hp) (by omega)
    (fun h' hs x hx => keys_stay (fun b o hb ho => (hs.2 b hb).trans ho) hdseq ((List.mem_append.mp hx).elim (KX.is I h4 x) (KX.is I g1 x))) fun h' dd' hs => ?_
  obtain ⟨k1, k2⟩ := KX.putAll g1 h4 h5
  obtain ⟨es', ep', e1, new⟩ := raw_ok (X := X) (H' := H) hd dd'
  refine ⟨.non, upd H a (rawO a es' ep'), I.write (x := a) (e := a) (by rw [ha]; exact True.intro) (.inl rfl) (fun b w hb ho => (hs.2 b hb).trans ho) (let ⟨o, _, _, g, _⟩ := dd'; ⟨o, g⟩) new, rfl, q es' ep' ?_⟩
  rw [e1]
  exact of_kx k1 k2
theorem d_updD : OpM cl X mUpdD (rUpdD cl X) := by
  intro W σ H ρ L x xs v vs Q ab rx rs h
  unfold mUpdD at h
  split at h
  · rename_i i ps
    obtain ⟨w, rfl, rw'⟩ := rep1 rs
    cases e : L[i]? with
    | none => simp only [e] at h; exact (show False from h).elim
    | some m =>
      cases m with
      | dct kvs =>
        simp only [e] at h
        obtain ⟨p, es, ep, rfl, h1, h2, h3⟩ := ref_dct ab rx e
        by_cases c : (ps.all fun p => byVal p.1) = true ∧ kvs.length + ps.length ≤ most
        · rw [if_pos c] at h
          cases rw' with
          | dct a b =>
            refine ⟨ρ, kvs, p, es, ep, _, ps, rfl, rfl, fun e => ?_, h2, h3, ⟨_, _, .inr ⟨_, a⟩, b⟩, c.1, most_le c.2, fun es' ep' r => (wrote_dct ab h1 r h).1 _ .non⟩
            subst e
            rw [h2] at a
            cases a
        · rw [if_neg c] at h; exact (show False from h).elim
      | _ => simp only [e] at h; exact (show False from h).elim
  · exact (show False from h).elim
end
section
variable {cl : Cl} {W : WX} {X : Cx} {o e : Expr} {fo f : Ev} {apos cpos : Pos}
theorem de_updateD (hu : X.A.units + 64 < cLine) (ho : DE cl W X o fo) (ha : DE cl W X e f) (hbase : attributeBase o "update" X.env (eval o X.env) = eval o X.env := by rfl)
    (hfew : ((backTo cpos (starEach [e] X.env)).all (fun x => !x.1) && (backToKw cpos (keywordEach [] X.env)).all (fun x => x.1.isSome)
      && decide ([e].length + ([] : List Keyword).length + (if ([] : List Keyword).isEmpty then 0 else 1) < 30)) = true := by rfl)
    (hline : (apos.endLine == cpos.line) = true := by rfl) (hs : starEach [e] X.env = (false, eval e X.env) :: starEach [] X.env := by rfl) : DE cl W X (.Call (.Attribute o "update" apos) [e] [] cpos) (eMD mUpdD fo (aCons f aNil)) :=
  de_md PySem.F.slot_dict_update PySem.F.type_dict_update (mt_updD (cl := cl) hu) d_updD ho (da_cons ha da_nil hs) hbase hfew hline hs rfl
end
end Df
/-! sorted, max, min, join -/
namespace Df
open PySem PySem.Spec PyProof.Rows L2 PySem.W PySem.Calls PyProof.V
theorem row_nil_cons (x : PyData) (xs : List PyData) : PySem.W.rowLt [] (x :: xs) = true := by
  unfold PySem.W.rowLt
  rw [PySem.W.toks_all_cons]
  simp only [PySem.W.keyToksAll]
  rw [lex_diff (O := itemOrd) (by simp)] <;> rfl
theorem row_cons_nil (x : PyData) (xs : List PyData) : PySem.W.rowLt (x :: xs) [] = false := by
  unfold PySem.W.rowLt
  rw [PySem.W.toks_all_cons]
  simp only [PySem.W.keyToksAll]
  rw [lex_diff (O := itemOrd) (by simp)] <;> rfl
mutual
theorem like_self : ∀ a : D, D.like a a = true → a.plain = true ∧ a.noB = true
  | .int _, _ => ⟨rfl, rfl⟩
  | .str _, _ => ⟨rfl, rfl⟩
  | .tup xs, h => by
    have := likeL_self xs (by simpa [D.like] using h)
    exact ⟨by simpa [D.plain] using this.1, by simpa [D.noB] using this.2⟩
  | .non, h => absurd h Bool.false_ne_true
  | .bl _, h => absurd h Bool.false_ne_true
  | .lst _, h => absurd h Bool.false_ne_true
  | .dct _, h => absurd h Bool.false_ne_true
  | .ref _, h => absurd h Bool.false_ne_true
  | .scr _, h => absurd h Bool.false_ne_true
  | .xc _ _, h => absurd h Bool.false_ne_true
  | .clo _ _, h => absurd h Bool.false_ne_true
theorem likeL_self : ∀ xs : List D, likeL xs xs = true → D.plainL xs = true ∧ D.noBL xs = true
  | [], _ => ⟨rfl, rfl⟩
  | x :: xs, h => by
    rw [likeL, Bool.and_eq_true] at h
    have h1 := like_self x h.1
    have h2 := likeL_self xs h.2
    exact ⟨by rw [D.plainL, h1.1, h2.1]; rfl, by rw [D.noBL, h1.2, h2.2]; rfl⟩
end
mutual
theorem py_like : ∀ a b : D, D.like a b = true → PySem.W.alike (py a) (py b) = true
  | .int _, b, h => by cases b <;> first | exact absurd h Bool.false_ne_true | rfl
  | .str _, b, h => by cases b <;> first | exact absurd h Bool.false_ne_true | rfl
  | .tup xs, b, h => by
    cases b with
    | tup ys =>
      rw [py, py, PySem.W.alike]
      exact pyL_like xs ys (by simpa [D.like] using h)
    | _ => exact absurd h Bool.false_ne_true
  | .non, b, h => absurd h Bool.false_ne_true
  | .bl _, b, h => absurd h Bool.false_ne_true
  | .lst _, b, h => absurd h Bool.false_ne_true
  | .dct _, b, h => absurd h Bool.false_ne_true
  | .ref _, b, h => absurd h Bool.false_ne_true
  | .scr _, b, h => absurd h Bool.false_ne_true
  | .xc _ _, b, h => absurd h Bool.false_ne_true
  | .clo _ _, b, h => absurd h Bool.false_ne_true
theorem pyL_like : ∀ xs ys : List D, likeL xs ys = true → PySem.W.alikeAll (pyL xs) (pyL ys) = true
  | [], _, _ => by rw [pyL, PySem.W.alikeAll]
  | _ :: _, [], _ => by rw [pyL, pyL, PySem.W.alikeAll]
  | x :: xs, y :: ys, h => by
    rw [likeL, Bool.and_eq_true] at h
    rw [pyL, pyL, PySem.W.alikeAll, py_like x y h.1, pyL_like xs ys h.2]
    rfl
end
mutual
/-- both are plain where both like themselves -/
theorem py_lt : ∀ a b : D, D.like a b = true → D.like a a = true → D.like b b = true → PySem.W.dataLt (py a) (py b) = D.lt a b
  | .int _, b, h, _, _ => by
    cases b <;> first | exact absurd h Bool.false_ne_true | skip
    rw [py, py, PySem.W.dataLt_int, D.lt]
  | .str _, b, h, _, _ => by
    cases b <;> first | exact absurd h Bool.false_ne_true | skip
    rw [py, py, PySem.W.dataLt_str, D.lt]
  | .tup xs, b, h, ha, hb => by
    cases b with
    | tup ys =>
      rw [py, py, PySem.W.dataLt_tuple, D.lt]
      exact pyL_lt xs ys (by simpa [D.like] using h) (by simpa [D.like] using ha) (by simpa [D.like] using hb)
    | _ => exact absurd h Bool.false_ne_true
  | .non, b, h, _, _ => absurd h Bool.false_ne_true
  | .bl _, b, h, _, _ => absurd h Bool.false_ne_true
  | .lst _, b, h, _, _ => absurd h Bool.false_ne_true
  | .dct _, b, h, _, _ => absurd h Bool.false_ne_true
  | .ref _, b, h, _, _ => absurd h Bool.false_ne_true
  | .scr _, b, h, _, _ => absurd h Bool.false_ne_true
  | .xc _ _, b, h, _, _ => absurd h Bool.false_ne_true
  | .clo _ _, b, h, _, _ => absurd h Bool.false_ne_true
theorem pyL_lt : ∀ xs ys : List D, likeL xs ys = true → likeL xs xs = true → likeL ys ys = true → PyProof.Rows.lexLt itemOrd (PySem.W.keyToksAll (pyL xs)) (PySem.W.keyToksAll (pyL ys)) = ltL xs ys
  | [], [], _, _, _ => lex_irrefl _
  | [], y :: ys, _, _, _ => by
    rw [pyL, pyL, ltL]
    show PySem.W.rowLt [] (py y :: pyL ys) = true
    exact row_nil_cons _ _
  | x :: xs, [], _, _, _ => by
    rw [pyL, pyL, ltL]
    exact row_cons_nil _ _
  | x :: xs, y :: ys, h, ha, hb => by
    rw [likeL, Bool.and_eq_true] at h ha hb
    rw [pyL, pyL, PySem.W.dataLt_cons (py_like x y h.1), ltL, py_eqv x y (like_self x ha.1).1 (like_self y hb.1).1, D.eqv_of (like_self x ha.1).2 (like_self y hb.1).2, py_lt x y h.1 ha.1 hb.1, pyL_lt xs ys h.2 ha.2 hb.2]
    by_cases e : x = y
    · rw [if_pos e, if_pos (decide_eq_true e)]
    · rw [if_neg e, if_neg (by simpa using e)]
end
theorem likeAll_at {xs : List D} (h : likeAll xs = true) {a b : D} (ha : a ∈ xs) (hb : b ∈ xs) : D.like a b = true := by
  unfold likeAll at h
  rw [List.all_eq_true] at h
  exact List.all_eq_true.mp (h a ha) b hb
theorem depthL_at : ∀ {xs : List D} {a : D}, a ∈ xs → a.depth ≤ D.depthL xs
  | x :: xs, a, h => by
    rw [D.depthL]
    rcases List.mem_cons.mp h with rfl | h
    · exact Nat.le_max_left _ _
    · exact Nat.le_trans (depthL_at h) (Nat.le_max_right _ _)
theorem plainL_of_like : ∀ {xs : List D}, (∀ a ∈ xs, D.like a a = true) → D.plainL xs = true
  | [], _ => rfl
  | x :: xs, h => by
    rw [D.plainL, (like_self x (h x List.mem_cons_self)).1, plainL_of_like fun a ha => h a (List.mem_cons_of_mem _ ha)]
    rfl
theorem pyL_map : ∀ xs : List D, pyL xs = xs.map py
  | [] => rfl
  | x :: xs => by rw [pyL, List.map_cons, pyL_map xs]
mutual
theorem rd_nil {h : Heap} : ∀ (d : D) (v : Value) (as : List Addr), D.like d d = true → Reads h v (py d) as → as = []
  | .int _, _, _, _, r => by cases r; rfl
  | .str _, _, _, _, r => by cases r; rfl
  | .tup xs, _, _, hl, r => by
    rw [py] at r
    cases r with
    | tuple _ _ _ ha => exact rdL_nil xs _ _ (by simpa [D.like] using hl) ha
  | .non, _, _, hl, _ => absurd hl Bool.false_ne_true
  | .bl _, _, _, hl, _ => absurd hl Bool.false_ne_true
  | .lst _, _, _, hl, _ => absurd hl Bool.false_ne_true
  | .dct _, _, _, hl, _ => absurd hl Bool.false_ne_true
  | .ref _, _, _, hl, _ => absurd hl Bool.false_ne_true
  | .scr _, _, _, hl, _ => absurd hl Bool.false_ne_true
  | .xc _ _, _, _, hl, _ => absurd hl Bool.false_ne_true
  | .clo _ _, _, _, hl, _ => absurd hl Bool.false_ne_true
theorem rdL_nil {h : Heap} : ∀ (xs : List D) (vs : List Value) (as : List Addr), likeL xs xs = true → ReadsAll h vs (pyL xs) as → as = []
  | [], _, _, _, r => by rw [pyL] at r; cases r; rfl
  | x :: xs, _, _, hl, r => by
    rw [likeL, Bool.and_eq_true] at hl
    rw [pyL] at r
    cases r with
    | cons r1 r2 => rw [rd_nil x _ _ hl.1 r1, rdL_nil xs _ _ hl.2 r2]; rfl
end
/-- the sort's order over pairs, and over the data -/
theorem sort_fst {bs : List (D × V)} (h : likeAll (bs.map (·.1)) = true) : (bs.mergeSort (dataLe false fun b => py b.1)).map (·.1) = sortD (bs.map (·.1)) := by
  unfold sortD
  refine List.map_mergeSort fun a ha b hb => ?_
  have ma : a.1 ∈ bs.map (·.1) := List.mem_map_of_mem ha
  have mb : b.1 ∈ bs.map (·.1) := List.mem_map_of_mem hb
  show (!dataLt (py b.1) (py a.1)) = _
  rw [py_lt _ _ (likeAll_at h mb ma) (likeAll_at h mb mb) (likeAll_at h ma ma)]
section
variable {cl : Cl} {X : Cx} {pins : List (Addr × Obj)} {σ : L2.St} {H : Hp} {ρ : Rho} {s : Shared}
/-- items, what stands for them, the values -/
theorem zip_rep : ∀ {ds : List D} {vs : List V} {us : List Value}, RepL (gm cl X) H ρ ds vs → Vals vs us → ∃ bs : List (D × V), bs.map (·.1) = ds ∧ bs.map (·.2) = vs ∧ EachIs (fun u (b : D × V) => RelV b.2 u ∧ Rep (gm cl X) H ρ b.1 b.2) us bs
  | _, _, _, .nil, r => by cases r; exact ⟨[], rfl, rfl, .nil⟩
  | _, _, _, .cons r t, q => by
    cases q with
    | cons q1 q2 =>
      obtain ⟨bs, h1, h2, h3⟩ := zip_rep t q2
      exact ⟨(_, _) :: bs, by rw [List.map_cons, h1], by rw [List.map_cons, h2], .cons ⟨q1, r⟩ h3⟩
theorem each_reads (I : Inv X pins σ H s) : ∀ {us : List Value} {bs : List (D × V)}, EachIs (fun u (b : D × V) => RelV b.2 u ∧ Rep (gm cl X) H ρ b.1 b.2) us bs → (∀ b ∈ bs, b.1.plain = true) → EachIs (fun u (b : D × V) => ∃ as, Reads s.heap u (py b.1) as) us bs
  | _, _, .nil, _ => .nil
  | _, b :: bs, .cons h t, p => .cons (Dp.reads I _ _ _ (Rep.dp (p b List.mem_cons_self) h.2) h.1) (each_reads I t fun c hc => p c (List.mem_cons_of_mem _ hc))
theorem each_pure {h : Heap} {q : Addr} : ∀ {us : List Value} {bs : List (D × V)}, (∀ b ∈ bs, D.like b.1 b.1 = true) → EachIs (fun u (b : D × V) => ∃ as, Reads h u (py b.1) as) us bs → EachIs (fun u (b : D × V) => ∃ as, Reads h u (py b.1) as ∧ q ∉ as) us bs
  | _, _, _, .nil => .nil
  | _, b :: bs, p, .cons ⟨as, r⟩ t => .cons ⟨as, r, by rw [rd_nil b.1 _ _ (p b List.mem_cons_self) r]; exact List.not_mem_nil⟩ (each_pure (fun c hc => p c (List.mem_cons_of_mem _ hc)) t)
theorem each_back : ∀ {us : List Value} {bs : List (D × V)}, EachIs (fun u (b : D × V) => RelV b.2 u ∧ Rep (gm cl X) H ρ b.1 b.2) us bs → Vals (bs.map (·.2)) us ∧ RepL (gm cl X) H ρ (bs.map (·.1)) (bs.map (·.2))
  | _, _, .nil => ⟨.nil, .nil⟩
  | _, _, .cons h t => ⟨.cons h.1 (each_back t).1, .cons h.2 (each_back t).2⟩
theorem sortOk_facts {bs : List (D × V)} (h : sortOk (bs.map (·.1)) = true) : likeAll (bs.map (·.1)) = true ∧ AllAlike (bs.map fun b => py b.1) ∧ Sortable (bs.map fun b => py b.1) ∧ bs.length ≤ sizeLine ∧ (∀ b ∈ bs, (py b.1).depth ≤ 50) ∧ ∀ b ∈ bs, b.1.plain = true := by
  unfold sortOk at h
  rw [Bool.and_eq_true, Bool.and_eq_true, Bool.and_eq_true, decide_eq_true_eq, decide_eq_true_eq, List.length_map] at h
  obtain ⟨⟨⟨h1, h2⟩, h3⟩, h4⟩ := h
  have mem : ∀ b ∈ bs, b.1 ∈ bs.map (·.1) := fun b hb => List.mem_map_of_mem hb
  refine ⟨h1, ?_, ?_, most_le h4, fun b hb => Nat.le_trans (py_depth b.1) (Nat.le_trans (depthL_at (mem b hb)) h3), fun b hb => (like_self _ (likeAll_at h1 (mem b hb) (mem b hb))).1⟩
  · intro d hd d' hd'
    obtain ⟨b, hb, rfl⟩ := List.mem_map.mp hd
    obtain ⟨b', hb', rfl⟩ := List.mem_map.mp hd'
    exact py_like _ _ (likeAll_at h1 (mem b hb) (mem b' hb'))
  · rw [Bool.or_eq_true, List.all_eq_true, List.all_eq_true] at h2
    rcases h2 with h2 | h2
    · refine .inl fun d hd => ?_
      obtain ⟨b, hb, rfl⟩ := List.mem_map.mp hd
      have q := h2 _ (mem b hb)
      cases eb : b.1 with
      | tup xs =>
        rw [eb] at q
        cases xs with
        | nil => exact absurd q Bool.false_ne_true
        | cons y ys => exact ⟨py y, pyL ys, by rw [py, pyL]⟩
      | _ => rw [eb] at q; exact absurd q Bool.false_ne_true
    · refine .inr fun d hd => ?_
      obtain ⟨b, hb, rfl⟩ := List.mem_map.mp hd
      have q := h2 _ (mem b hb)
      cases eb : b.1 with
      | int i => exact ⟨fun e => by simp [py] at e, fun xs e => by simp [py] at e⟩
      | str i => exact ⟨fun e => by simp [py] at e, fun xs e => by simp [py] at e⟩
      | _ => rw [eb] at q; exact absurd q Bool.false_ne_true
/-! ### sorted -/
def rSortD (cl : Cl) (X : Cx) : List V → Hp → VK → Prop := fun xs H Q => ∃ (ρ : Rho) (a : Addr) (ds : List D), xs = [.ref a] ∧ sortOk ds = true ∧ ((∃ vs, Rd H a (.lst vs) ∧ RepL (gm cl X) H ρ ds vs) ∨ ∃ kvs, DAt (gm cl X) H ρ a kvs ∧ ds = kvs.map (·.1)) ∧
  ∀ (p : Addr) (ws : List V), H p = none → RepL (gm cl X) H ρ (sortD ds) ws → Q (.ref p) (upd H p (.lst ws))
theorem keys_rep : ∀ {kvs : List (D × D)} {xs : List Kv}, KX (gm cl X) H ρ kvs xs → ∃ vs, RepL (gm cl X) H ρ (kvs.map (·.1)) vs ∧ Vals vs (xs.map fun x => x.2.1)
  | _, _, .nil => ⟨[], .nil, .nil⟩
  | _, _, .cons h t => by
    obtain ⟨kv, h1, h2⟩ := h.2.2.1
    obtain ⟨vs, g1, g2⟩ := keys_rep t
    exact ⟨kv :: vs, .cons h1 g1, .cons h2 g2⟩
theorem cr_sorted (hc : X.calm = true) (hu : X.A.units + 64 < cLine) : CallR X (.builtin "sorted") (rSortD cl X) := by
  intro pins s σ H xs us Q I r h
  obtain ⟨ρ, a, ds, rfl, hok, hsrc, q⟩ := h
  obtain ⟨u, rfl, rx⟩ := r.one
  cases rx
  rcases hsrc with ⟨vs, hl, rds⟩ | ⟨kvs, hd, rfl⟩
  · obtain ⟨z, its, n, rits, hlen, e⟩ := rd_list I hl
    obtain ⟨bs, rfl, e2, h3⟩ := zip_rep rds rits
    obtain ⟨k1, k2, k3, k4, k5, k6⟩ := sortOk_facts hok
    refine sorted_data (l := a) (vs := its) (bs := bs) (enc := fun b => py b.1) (R := fun u (b : D × V) => RelV b.2 u ∧ Rep (gm cl X) H ρ b.1 b.2) ⟨_, e, rfl, n, rfl⟩ h3 (each_reads I h3 k6) k2 k3 k4 (fun b hb => by have := k5 b hb; omega) fun out ho he => ?_
    obtain ⟨g1, g2⟩ := each_back he
    obtain ⟨e5, e6⟩ := sortedAll_at s.heap its out.toArray
    have hp : s.heap.objs.size ≤ s.heap.objs.size + 1 := Nat.le_succ _
    refine ⟨.ref (s.heap.objs.size + 1), upd H (s.heap.objs.size + 1) (.lst ((bs.mergeSort (dataLe false fun b => py b.1)).map (·.2))), I.laid (t' := s.toks) (fun b w hb => sortedAll_old hb) hp ⟨?_, out, e5, g1, e6⟩, rfl, q _ _ (I.hok.fresh hp) ?_⟩
    · rw [List.length_map, List.length_mergeSort]; exact k4
    · rw [← sort_fst k1]; exact g2
  · obtain ⟨hs, ws, h4, h5, h6⟩ := hd.model I
    obtain ⟨o, es, ep, q1, q2, q3, q4⟩ := id h6
    obtain ⟨kvv, r1, r2⟩ := keys_rep h4
    obtain ⟨bs, e1, e2, h3⟩ := zip_rep r1 r2
    rw [← e1] at hok
    obtain ⟨k1, k2, k3, k4, k5, k6⟩ := sortOk_facts hok
    have hes : es.size = ws.length := q4.size
    have hbl : bs.length = ws.length := by
      have z := congrArg List.length e2
      have z2 := r2.length
      rw [List.length_map] at z z2
      omega
    refine call_function_entry kind_sorted plain_sorted entry_sorted (args_sorted1 _) ?_
    unfold Builtin.«sorted»
    refine wpAny_bind (m := checkCount "sorted" 1 1 _) (wpAny_pure ?_)
    refine wpAny_bind (kdu_collect (A := X.A.in1) (kdl_raw hs q2 q3) (I.ok.hd hc) q1 (by omega) fun h' tk acc hk hacc => ?_)
    have hl : acc.toList.length = es.size := by rw [Array.length_toList]; exact hacc.1
    have ea : acc.toList = ws.map fun x => x.2.1 := by
      apply List.ext_getElem?
      intro j
      rw [List.getElem?_map]
      cases hj : acc.toList[j]? with
      | none =>
        have h1 := List.getElem?_eq_none_iff.mp hj
        rw [List.getElem?_eq_none (by omega)] <;> rfl
      | some v =>
        obtain ⟨en, hen, hv⟩ := hacc.2 j v (by rw [← Array.getElem?_toList]; exact hj)
        have qe := q4.get j
        rw [hen] at qe
        cases hb : ws[j]? with
        | none =>
          rw [hb] at qe
          exact nomatch (show some en = none from qe)
        | some b =>
          rw [hb] at qe
          rw [hv, show en = entV X.w b from Option.some.inj qe] <;> rfl
    refine wpAny_bind (wpAny_newList ?_ (by rw [hl]; omega))
    have I2 : Inv X pins σ H { s with heap := h', toks := tk } := I.kept (t' := tk) hk
    have I3 : Inv X pins σ H { s with heap := h'.push { cls := .type "list", data := .seq acc.toList.toArray }, toks := tk } := I2.kept (t' := tk) fun b w hb => Heap.get?_push_of_some _ hb
    rw [← ea] at h3
    have hfr : ∀ o, h'.get? h'.objs.size ≠ some o := fun o ho => absurd (Heap.lt_size ho) (Nat.lt_irrefl _)
    have er : EachIs (fun v (b : D × V) => ∃ as, Reads h' v (py b.1) as) acc.toList bs := each_reads I2 h3 k6
    have lk : ∀ b ∈ bs, D.like b.1 b.1 = true := fun b hb => likeAll_at k1 (List.mem_map_of_mem hb) (List.mem_map_of_mem hb)
    have er2 : EachIs (fun v (b : D × V) => ∃ as, Reads (h'.push { cls := .type "list", data := .seq acc.toList.toArray }) v (py b.1) as ∧ h'.objs.size ∉ as) acc.toList bs := each_pure lk (each_reads I3 h3 k6)
    refine wpAny_bind (wpAny_holding (wpAny_mono (list_sort_data (A := X.A.in1) (a := h'.objs.size) (n := 0) (vs := acc.toList) (bs := bs) (enc := fun b => py b.1) (R := fun u (b : D × V) => RelV b.2 u ∧ Rep (gm cl X) H ρ b.1 b.2) (Q := fun _ s' => EP X pins σ Q (.ref h'.objs.size) s') (s := { s with heap := h'.push { cls := .type "list", data := .seq acc.toList.toArray }, toks := tk }) (Heap.get?_push_size _ rfl) h3 er2 k2 k3 k4 (fun b hb => by have := k5 b hb; show X.A.units + 1 + 1 + _ < _; omega) fun out ho he => ?_) (fun _ s' x => wpAny_pure ⟨_, rfl, x⟩) fun _ _ x => x))
    obtain ⟨g1, g2⟩ := each_back he
    obtain ⟨e5, e6⟩ := sortedHeap_at (out := out.toArray) (show (h'.push { cls := .type "list", data := .seq acc.toList.toArray }).get? h'.objs.size = some (seqObj "list" acc.toList.toArray 0) from Heap.get?_push_size _ rfl)
    refine ⟨.ref h'.objs.size, upd H h'.objs.size (.lst ((bs.mergeSort (dataLe false fun b => py b.1)).map (·.2))), I2.laid (t' := tk) (fun b w hb => ?_) (Nat.le_refl _) ⟨?_, out, e5, g1, e6⟩, rfl, q _ _ (I2.hok.fresh (Nat.le_refl _)) ?_⟩
    · rw [sortedHeap_old (Nat.ne_of_lt (Heap.lt_size hb)) (by rw [Heap.size_push]; exact Nat.lt_succ_of_lt (Heap.lt_size hb))]
      exact Heap.get?_push_of_some _ hb
    · rw [List.length_map, List.length_mergeSort]; exact k4
    · rw [← e1, ← sort_fst k1]; exact g2
end
end Df
namespace Df
open PySem PySem.Spec PyProof.Rows L2 PySem.W TL
section
variable {cl : Cl} {X : Cx} {W : WX} {H : Hp} {ρ : Rho} {L : Store}
theorem items_at {d : D} {v : V} {xs : List D} (A : AbsL (gm cl X) H ρ L) (r : Rep (gm cl X) H ρ d v) (h : itemsOf L d = some xs) : ∃ a, v = .ref a ∧ ((∃ vs, Rd H a (.lst vs) ∧ RepL (gm cl X) H ρ xs vs) ∨ ∃ kvs, DAt (gm cl X) H ρ a kvs ∧ xs = kvs.map (·.1)) := by
  unfold itemsOf at h
  cases e : lstOf L d with
  | some ys =>
    rw [e] at h
    cases h
    obtain ⟨a, vs, rfl, h1, h2⟩ := lst_at A r e
    exact ⟨a, rfl, .inl ⟨vs, h1, h2⟩⟩
  | none =>
    rw [e] at h
    obtain ⟨kvs, e2, e3⟩ := Option.map_eq_some_iff.mp h
    obtain ⟨a, rfl, h1⟩ := dct_at A r e2
    exact ⟨a, rfl, .inr ⟨kvs, h1, e3.symm⟩⟩
variable {p pos apos : Pos} {e o : Expr} {f fo : Ev}
theorem de_sort (hm : X.mg "sorted" = none) (hc : X.calm = true) (hu : X.A.units + 64 < cLine) (ha : DE cl W X e f) (hg : Gl X "sorted" := by rfl) (he : starEach [e] X.env = (false, eval e X.env) :: starEach [] X.env := by rfl) : DE cl W X (.Call (.Name "sorted" p) [e] [] pos) (eB bSort (aCons f aNil)) := by
  refine imp_e (pe_callB (cr_sorted (cl := cl) hc hu) hg hm PyProof.Rows.boot_sorted (da_cons ha da_nil he) (by decide) (by decide) he) fun σ H Q h => ?_
  obtain ⟨ρ, δ, L, hs, ha, h⟩ := h
  refine ⟨ρ, δ, L, hs, ha, After.mono (After.andThen h) fun ds H1 ρ1 L1 st1 a1 h1 vs rv => ?_⟩
  unfold bSort at h1
  split at h1
  · rename_i x
    obtain ⟨v, rfl, r⟩ := rep1 rv
    cases es : itemsOf L1 x with
    | none => simp only [es] at h1; exact (show False from h1).elim
    | some ys =>
      simp only [es] at h1
      by_cases c : sortOk ys = true
      · rw [if_pos c] at h1
        obtain ⟨q, rfl, q1⟩ := items_at a1 r es
        exact ⟨ρ1, q, ys, rfl, c, q1, fun z ws hz rr => alloc_lst a1 rr hz h1⟩
      · rw [if_neg c] at h1; exact (show False from h1).elim
  · exact h1.elim
theorem de_sortF (hm : X.mg "sorted" = none) (hc : X.calm = true) (hu : X.A.units + 64 < cLine) (ha : DE cl W X e f) (hg : Gl X "sorted" := by rfl) (he : starEach [e] X.env = (false, eval e X.env) :: starEach [] X.env := by rfl) : DE cl W X (.Call (.Name "sorted" p) [e] [] pos) (eB bSortF (aCons f aNil)) := by
  refine imp_e (lk (pe_callB (cr_sorted (cl := cl) hc hu) hg hm PyProof.Rows.boot_sorted (da_cons ha da_nil he) (by decide) (by decide) he)) fun σ H Q h => ?_
  obtain ⟨ρ, δ, L, hs, ha, h⟩ := h
  refine ⟨ρ, δ, L, hs, ha, After.mono (After.andThen h) fun ds H1 ρ1 L1 st1 a1 h1 vs rv => ?_⟩
  unfold bSortF at h1
  split at h1
  · rename_i x
    obtain ⟨v, rfl, r⟩ := rep1 rv
    cases es : itemsOf L1 x with
    | none => simp only [es] at h1; exact (show False from h1).elim
    | some ys =>
      simp only [es] at h1
      by_cases c : sortOk ys = true
      · rw [if_pos c] at h1
        obtain ⟨q, rfl, q1⟩ := items_at a1 r es
        exact ⟨ρ1, q, ys, rfl, c, q1, fun z ws hz rr => frozen_lst a1 rr hz h1⟩
      · rw [if_neg c] at h1; exact (show False from h1).elim
  · exact h1.elim
/-! ### max, min of a list -/
def rBest (cl : Cl) (X : Cx) (g : D → List D → D) : List V → Hp → VK → Prop := fun xs H Q => ∃ (ρ : Rho) (a : Addr) (d : D) (ds : List D) (vs : List V), xs = [.ref a] ∧ Rd H a (.lst vs) ∧ RepL (gm cl X) H ρ (d :: ds) vs ∧ likeAll (d :: ds) = true ∧ D.depthL (d :: ds) ≤ 50 ∧
  ∀ v, Rep (gm cl X) H ρ (g d ds) v → Q v H
def maxL (y : D) (ys : List D) : D := ys.foldl (fun a z => if D.lt a z = true then z else a) y
def minL (y : D) (ys : List D) : D := ys.foldl (fun a z => if D.lt z a = true then z else a) y
theorem maxD_py : ∀ (ds : List D) (d : D), likeAll (d :: ds) = true → maxD (py d) (ds.map py) = py (maxL d ds) ∧ maxL d ds ∈ d :: ds
  | [], d, _ => ⟨rfl, List.mem_singleton.mpr rfl⟩
  | y :: ys, d, h => by
    have e : D.like d y = true := likeAll_at h List.mem_cons_self (List.mem_cons_of_mem _ List.mem_cons_self)
    have ed : D.like d d = true := likeAll_at h List.mem_cons_self List.mem_cons_self
    have ey : D.like y y = true := likeAll_at h (List.mem_cons_of_mem _ List.mem_cons_self) (List.mem_cons_of_mem _ List.mem_cons_self)
    have sub : ∀ c : D, c ∈ d :: y :: ys → likeAll (c :: ys) = true := fun c hc => by
      unfold likeAll
      refine List.all_eq_true.mpr fun a ha => List.all_eq_true.mpr fun b hb => likeAll_at h ?_ ?_
      · rcases List.mem_cons.mp ha with rfl | ha
        · exact hc
        · exact List.mem_cons_of_mem _ (List.mem_cons_of_mem _ ha)
      · rcases List.mem_cons.mp hb with rfl | hb
        · exact hc
        · exact List.mem_cons_of_mem _ (List.mem_cons_of_mem _ hb)
    show maxD (if dataLt (py d) (py y) = true then py y else py d) (ys.map py) = py (maxL (if D.lt d y = true then y else d) ys) ∧ maxL (if D.lt d y = true then y else d) ys ∈ d :: y :: ys
    rw [py_lt d y e ed ey]
    by_cases c : D.lt d y = true
    · rw [if_pos c, if_pos c]
      obtain ⟨h1, h2⟩ := maxD_py ys y (sub y (List.mem_cons_of_mem _ List.mem_cons_self))
      exact ⟨h1, List.mem_cons_of_mem _ h2⟩
    · rw [if_neg c, if_neg c]
      obtain ⟨h1, h2⟩ := maxD_py ys d (sub d List.mem_cons_self)
      refine ⟨h1, ?_⟩
      rcases List.mem_cons.mp h2 with h2 | h2
      · rw [h2]; exact List.mem_cons_self
      · exact List.mem_cons_of_mem _ (List.mem_cons_of_mem _ h2)
theorem minD_py : ∀ (ds : List D) (d : D), likeAll (d :: ds) = true → minD (py d) (ds.map py) = py (minL d ds) ∧ minL d ds ∈ d :: ds
  | [], d, _ => ⟨rfl, List.mem_singleton.mpr rfl⟩
  | y :: ys, d, h => by
    have e : D.like y d = true := likeAll_at h (List.mem_cons_of_mem _ List.mem_cons_self) List.mem_cons_self
    have ed : D.like d d = true := likeAll_at h List.mem_cons_self List.mem_cons_self
    have ey : D.like y y = true := likeAll_at h (List.mem_cons_of_mem _ List.mem_cons_self) (List.mem_cons_of_mem _ List.mem_cons_self)
    have sub : ∀ c : D, c ∈ d :: y :: ys → likeAll (c :: ys) = true := fun c hc => by
      unfold likeAll
      refine List.all_eq_true.mpr fun a ha => List.all_eq_true.mpr fun b hb => likeAll_at h ?_ ?_
      · rcases List.mem_cons.mp ha with rfl | ha
        · exact hc
        · exact List.mem_cons_of_mem _ (List.mem_cons_of_mem _ ha)
      · rcases List.mem_cons.mp hb with rfl | hb
        · exact hc
        · exact List.mem_cons_of_mem _ (List.mem_cons_of_mem _ hb)
    show minD (if dataLt (py y) (py d) = true then py y else py d) (ys.map py) = py (minL (if D.lt y d = true then y else d) ys) ∧ minL (if D.lt y d = true then y else d) ys ∈ d :: y :: ys
    rw [py_lt y d e ey ed]
    by_cases c : D.lt y d = true
    · rw [if_pos c, if_pos c]
      obtain ⟨h1, h2⟩ := minD_py ys y (sub y (List.mem_cons_of_mem _ List.mem_cons_self))
      exact ⟨h1, List.mem_cons_of_mem _ h2⟩
    · rw [if_neg c, if_neg c]
      obtain ⟨h1, h2⟩ := minD_py ys d (sub d List.mem_cons_self)
      refine ⟨h1, ?_⟩
      rcases List.mem_cons.mp h2 with h2 | h2
      · rw [h2]; exact List.mem_cons_self
      · exact List.mem_cons_of_mem _ (List.mem_cons_of_mem _ h2)
theorem py_inj {a b : D} (h : D.like a b = true) (ha : D.like a a = true) (hb : D.like b b = true) (e : py a = py b) : a = b := by
  have q := py_eqv a b (like_self a ha).1 (like_self b hb).1
  have q2 := eqv_refl_alike (py b) (py_like b b hb)
  rw [e, q2, D.eqv_of (like_self a ha).2 (like_self b hb).2] at q
  exact of_decide_eq_true q.symm
theorem best_core {pins : List (Addr × Obj)} {σ : L2.St} {s : Shared} {d m : D} {ds : List D} {vs : List V} {its : List Value} (I : Inv X pins σ H s) (rds : RepL (gm cl X) H ρ (d :: ds) vs) (rits : Vals vs its) (hk : likeAll (d :: ds) = true) (hd : D.depthL (d :: ds) ≤ 50) (hm : m ∈ d :: ds) :
    (∃ as, ReadsAll s.heap its (py d :: ds.map py) as) ∧ AlikeAll (py d :: ds.map py) ∧ PyData.depthAll (py d :: ds.map py) ≤ 50 ∧
    ∀ (i : Nat) (v : Value) (h' : Heap) (tk : Nat) (bs : List Addr), its.toArray[i]? = some v → Reads h' v (py m) bs → (∀ b o, s.heap.get? b = some o → h'.get? b = some o) → ∃ w, Rep (gm cl X) H ρ m w ∧ RelV w v := by
  have hp : D.plainL (d :: ds) = true := plainL_of_like fun a ha => likeAll_at hk ha ha
  have e0 : py d :: ds.map py = pyL (d :: ds) := by rw [pyL_map]; rfl
  rw [e0]
  refine ⟨Dp.readsAll I _ _ _ (rds.dp hp) rits, ⟨fun x hx y hy => ?_, fun x hx => ?_⟩, Nat.le_trans (pyL_depth _) hd, fun i v h' tk bs hi hr hk' => ?_⟩
  · rw [pyL_map] at hx hy
    obtain ⟨a, ha, rfl⟩ := List.mem_map.mp hx
    obtain ⟨b, hb, rfl⟩ := List.mem_map.mp hy
    exact py_like a b (likeAll_at hk ha hb)
  · rw [pyL_map] at hx
    obtain ⟨a, ha, rfl⟩ := List.mem_map.mp hx
    have q := likeAll_at hk ha ha
    cases a <;> first | exact absurd q Bool.false_ne_true | (intro z; simp [py] at z)
  · have hi' : its[i]? = some v := by simpa using hi
    have hlen := rits.length
    obtain ⟨w, hw⟩ : ∃ w, vs[i]? = some w := ⟨vs[i]'(by rw [hlen]; exact (List.getElem?_eq_some_iff.mp hi').1), List.getElem?_eq_getElem _⟩
    obtain ⟨v2, e2, rw'⟩ := rits.get hw
    rw [hi'] at e2
    cases e2
    obtain ⟨dd, e3, rd⟩ := rds.getV hw
    have mem : dd ∈ d :: ds := List.mem_of_getElem? e3
    obtain ⟨as2, r2⟩ := Dp.reads I _ _ _ (rd.dp (like_self dd (likeAll_at hk mem mem)).1) rw'
    have u := alike_unique (py dd) (py m) v as2 bs (py_like dd m (likeAll_at hk mem hm)) (PyProof.Rows.Reads.keeps hk' r2) hr
    have := py_inj (likeAll_at hk mem hm) (likeAll_at hk mem mem) (likeAll_at hk hm hm) u
    subst this
    exact ⟨w, rd, rw'⟩
theorem cr_max (hc : X.calm = true) (hu : X.A.units + 64 < cLine) : CallR X (.builtin "max") (rBest cl X maxL) := by
  intro pins s σ H xs us Q I r h
  obtain ⟨ρ, a, d, ds, vs, rfl, hl, rds, hk, hd, q⟩ := h
  obtain ⟨u, rfl, rx⟩ := r.one
  cases rx
  obtain ⟨z, its, n, rits, hlen, e⟩ := rd_list I hl
  obtain ⟨m1, m2⟩ := maxD_py ds d hk
  obtain ⟨⟨as, g1⟩, g2, g3, g4⟩ := best_core I rds rits hk hd m2
  refine max_list_data (l := a) (vs := its.toArray) (I.ok.hd hc) ⟨_, e, rfl, n, rfl⟩ (by rw [List.toList_toArray]; exact g1) g2 (by omega) fun i v h' tk bs hi hr hk' => ?_
  rw [m1] at hr
  obtain ⟨w, r1, r2⟩ := g4 i v h' tk bs hi hr hk'
  exact ⟨w, H, I.kept (t' := tk) hk', r2, q w r1⟩
theorem cr_min (hc : X.calm = true) (hu : X.A.units + 64 < cLine) : CallR X (.builtin "min") (rBest cl X minL) := by
  intro pins s σ H xs us Q I r h
  obtain ⟨ρ, a, d, ds, vs, rfl, hl, rds, hk, hd, q⟩ := h
  obtain ⟨u, rfl, rx⟩ := r.one
  cases rx
  obtain ⟨z, its, n, rits, hlen, e⟩ := rd_list I hl
  obtain ⟨m1, m2⟩ := minD_py ds d hk
  obtain ⟨⟨as, g1⟩, g2, g3, g4⟩ := best_core I rds rits hk hd m2
  refine min_list_data (l := a) (vs := its.toArray) (I.ok.hd hc) ⟨_, e, rfl, n, rfl⟩ (by rw [List.toList_toArray]; exact g1) g2 (by omega) fun i v h' tk bs hi hr hk' => ?_
  rw [m1] at hr
  obtain ⟨w, r1, r2⟩ := g4 i v h' tk bs hi hr hk'
  exact ⟨w, H, I.kept (t' := tk) hk', r2, q w r1⟩
theorem de_max (hm : X.mg "max" = none) (hc : X.calm = true) (hu : X.A.units + 64 < cLine) (ha : DE cl W X e f) (hg : Gl X "max" := by rfl) (he : starEach [e] X.env = (false, eval e X.env) :: starEach [] X.env := by rfl) : DE cl W X (.Call (.Name "max" p) [e] [] pos) (eB bMax (aCons f aNil)) := by
  refine imp_e (pe_callB (cr_max (cl := cl) hc hu) hg hm PyProof.Rows.boot_max (da_cons ha da_nil he) (by decide) (by decide) he) fun σ H Q h => ?_
  obtain ⟨ρ, δ, L, hs, ha, h⟩ := h
  refine ⟨ρ, δ, L, hs, ha, After.mono (After.andThen h) fun ds H1 ρ1 L1 st1 a1 h1 vs rv => ?_⟩
  unfold bMax at h1
  split at h1
  · rename_i x
    obtain ⟨v, rfl, r⟩ := rep1 rv
    split at h1
    · rename_i y ys es
      by_cases c : (likeAll (y :: ys) && decide (D.depthL (y :: ys) ≤ 50)) = true
      · rw [if_pos c] at h1
        rw [Bool.and_eq_true, decide_eq_true_eq] at c
        obtain ⟨q, us, rfl, q1, q2⟩ := lst_at a1 r es
        exact ⟨ρ1, q, y, ys, us, rfl, q1, q2, c.1, c.2, now a1 h1⟩
      · rw [if_neg c] at h1; exact (show False from h1).elim
    · exact (show False from h1).elim
  · exact h1.elim
theorem de_min (hm : X.mg "min" = none) (hc : X.calm = true) (hu : X.A.units + 64 < cLine) (ha : DE cl W X e f) (hg : Gl X "min" := by rfl) (he : starEach [e] X.env = (false, eval e X.env) :: starEach [] X.env := by rfl) : DE cl W X (.Call (.Name "min" p) [e] [] pos) (eB bMin (aCons f aNil)) := by
  refine imp_e (pe_callB (cr_min (cl := cl) hc hu) hg hm PyProof.Rows.boot_min (da_cons ha da_nil he) (by decide) (by decide) he) fun σ H Q h => ?_
  obtain ⟨ρ, δ, L, hs, ha, h⟩ := h
  refine ⟨ρ, δ, L, hs, ha, After.mono (After.andThen h) fun ds H1 ρ1 L1 st1 a1 h1 vs rv => ?_⟩
  unfold bMin at h1
  split at h1
  · rename_i x
    obtain ⟨v, rfl, r⟩ := rep1 rv
    split at h1
    · rename_i y ys es
      by_cases c : (likeAll (y :: ys) && decide (D.depthL (y :: ys) ≤ 50)) = true
      · rw [if_pos c] at h1
        rw [Bool.and_eq_true, decide_eq_true_eq] at c
        obtain ⟨q, us, rfl, q1, q2⟩ := lst_at a1 r es
        exact ⟨ρ1, q, y, ys, us, rfl, q1, q2, c.1, c.2, now a1 h1⟩
      · rw [if_neg c] at h1; exact (show False from h1).elim
    · exact (show False from h1).elim
  · exact h1.elim
/-! ### sep.join(xs) -/
theorem joinLn_eq (sep : List Nat) : ∀ ps : List (List Nat), joinLn sep ps = joinL sep ps
  | [] => rfl
  | [_] => rfl
  | x :: y :: r => by
    show x ++ (sep ++ joinLn sep (y :: r)) = x ++ (sep ++ joinL sep (y :: r))
    rw [joinLn_eq sep (y :: r)]
theorem joinS_eq (a : Str) (ys : List Str) : Txt.join a ys = joinS a ys := by
  refine ext_tl ?_
  rw [join_eq, tl_join]
  show _ = (joinLn a.cps.toList (ys.map fun s => s.cps.toList))
  rw [joinLn_eq]
theorem strs_rep : ∀ {xs : List D} {vs : List V} {ys : List Str}, RepL (gm cl X) H ρ xs vs → strsOf xs = some ys → vs = ys.map V.str
  | _, _, ys, .nil, h => by cases h; rfl
  | _, _, ys, .cons r t, h => by
    unfold strsOf at h
    split at h
    · rename_i e; cases e
    · rename_i z r' e
      cases e
      obtain ⟨zs, h1, rfl⟩ := Option.map_eq_some_iff.mp h
      cases r
      rw [strs_rep t h1]; rfl
    · cases h
theorem de_join (ho : DE cl W X o fo) (ha : DE cl W X e f) (hs : starEach [e] X.env = [(false, eval e X.env)] := by rfl) (hbase : attributeBase o "join" X.env (eval o X.env) = eval o X.env := by rfl) (hline : (apos.endLine == pos.line) = true := by rfl) : DE cl W X (.Call (.Attribute o "join" apos) [e] [] pos) (eMS mJoin fo (aCons f aNil)) := by
  refine imp_e (pe_join ho ha hs hbase hline) fun σ H Q h => ?_
  obtain ⟨ρ, δ, L, hs, ab, h⟩ := h
  refine ⟨ρ, δ, L, hs, ab, After.mono (After.andThen h) fun x H1 ρ1 L1 st1 a1 h1 v rv => ?_⟩
  cases x with
  | str a =>
    cases rv
    refine ⟨⟨a, rfl⟩, ρ1, δ, L1, hs.step ab.live st1, a1, After.mono (After.andThen (After.andThen h1)) fun y H2 ρ2 L2 st2 a2 h2 w rw' => ?_⟩
    replace h2 : After (gm cl X) W σ ρ2 H2 (mJoin (.str a) [y] L2) (fun d H' ρ' _ => ∀ w, Rep (gm cl X) H' ρ' d w → Q w H') := now a2 h2
    unfold mJoin at h2
    simp only at h2
    cases es : seqOf L2 y with
    | none => simp only [es] at h2; exact (show False from h2).elim
    | some xs =>
      cases e3 : strsOf xs with
      | none => simp only [es, e3] at h2; exact (show False from h2).elim
      | some ys =>
        simp only [es, e3] at h2
        by_cases c : (ys.map fun s => s.length).sum + ys.length * a.length ≤ most
        · rw [if_pos c] at h2
          obtain ⟨q, vs, rfl, q1, q2⟩ := seq_at a2 rw' es
          rw [strs_rep q2 e3] at q1
          refine ⟨a, q, ys, rfl, rfl, q1, ?_, ?_⟩
          · have := most_le c
            rw [sizeLine_eq] at this
            exact this
          · rw [joinS_eq]
            exact now a2 h2 _ (.str _)
        · rw [if_neg c] at h2; exact (show False from h2).elim
  | _ => exact (show False from h1).elim
end
end Df
/-! sorted(xs, key=lambda x: x[0]) -/
namespace Df
open PySem PySem.Spec PyProof.Rows L2 PySem.W PySem.Calls PyProof.V LamX
section
variable {prog : Program} {w : World} {A : Around} {s : Shared}
/-- the lambda's call: the first item of a tuple -/
theorem lam_first {q x : Str} {params : Arguments} {scope : Scope} {p1 p2 p3 : Pos} {j : Nat} {f c' t : Addr} {clos : List (Str × Addr)} {pm ctv : Value} {items : Array Value} {y : Value} {k : PyData}
    (hf : s.heap.get? f = some (kla_obj "<lambda>" q params (.Subscript (.Name x p1) (.Constant (.int 0) j p2) p3) scope clos pm c' ctv))
    (hb : bindArgs (kla_fn "<lambda>" q params (.Subscript (.Name x p1) (.Constant (.int 0) j p2) p3) scope clos pm (.ref c') ctv) ⟨[.ref t], []⟩ = pure [(x, .ref t)])
    (hk : scope.kind = .function) (hco : scope.isCoroutine = false) (hgen : scope.isGenerator = false) (hcell : ∀ y ∈ scope.names, y.2 ≠ .cell) (hl : scope.names.lookup x = some .local) (hroom : A.depth < recursionLimit)
    (hd : (x == ("__debug__" : Str)) = false) (hcd : s.heap.CodeRec (.ref c') q) (hnl : s.heap.NoLimit) (ht : IsTup s.heap t items) (hy : items[0]? = some y) (hz : items.size ≤ sizeLine) (hr : Reads s.heap y k []) :
    wpAny (model prog w) A (call (.ref f) [.ref t]) (KeyPure k s) (fun _ _ => False) s := by
  refine wpAny_call (kla_callFunE hroom hf rfl hco hgen rfl hcd ?_)
  rw [hb]
  refine wpAny_pure (wpAny_newFunctionEnv hcell (fun z hz => by rw [List.mem_singleton.mp hz]; exact hl) (fun h₁ hns hsb => ⟨hnl.fresh _ hsb, ?_⟩) hk)
  have kp : ∀ b o, s.heap.get? b = some o → h₁.get? b = some o := fun b o e => hsb.extBut b o (Nat.ne_of_lt (Heap.lt_size e)) (Heap.get?_push_of_some _ e)
  refine kla_codeExpr (wpAny_Subscript_Constant_late (wpAny_Name (wpAny_loadName_local hk hl hns (v := .ref t) (by simp) (wpAny_Constant_int ?_)) hd))
  have ht1 : IsTup h₁ t items := by
    obtain ⟨o, e, r⟩ := ht
    exact ⟨o, kp _ _ e, r⟩
  have hn := line63
  refine ⟨"tuple", _, slot_tuple_getitem.lookup, ht1.typeIs, getItem_tuple (j := 0) ht1 (by omega) (by omega) ?_ hy ?_⟩
  · have hpos : 0 < items.size := (Array.getElem?_eq_some_iff.mp hy).1
    exact seqIndex_of (by omega) (by omega)
  · exact ⟨h₁, _, rfl, kp, PyProof.Rows.Reads.keeps kp hr⟩
end
/-- the def's own code object, its table -/
def LamAt (cl : Cl) (X : Cx) : Prop := ∃ c P, TabB X.base X.mg c P ∧ X.env.code = .ref c ∧ (P, X.env.qual ++ "<lambda>") ∈ cl.T ∧ ∀ p ∈ cl.T, p.1 = P → p.2 = X.env.qual ++ "<lambda>"
section
variable {cl : Cl} {X : Cx} {W : WX} {pins : List (Addr × Obj)} {σ : L2.St} {H : Hp} {ρ : Rho} {s : Shared}
theorem sort_fstF {bs : List (D × V)} (h : likeAll ((bs.map (·.1)).map fstD) = true) : (bs.mergeSort (dataLe false fun b => py (fstD b.1))).map (·.1) = sortF (bs.map (·.1)) := by
  unfold sortF
  refine List.map_mergeSort fun a ha b hb => ?_
  have ma : fstD a.1 ∈ (bs.map (·.1)).map fstD := List.mem_map_of_mem (List.mem_map_of_mem ha)
  have mb : fstD b.1 ∈ (bs.map (·.1)).map fstD := List.mem_map_of_mem (List.mem_map_of_mem hb)
  show (!dataLt (py (fstD b.1)) (py (fstD a.1))) = _
  rw [py_lt _ _ (likeAll_at h mb ma) (likeAll_at h mb mb) (likeAll_at h ma ma)]
theorem sortOk_fst {bs : List (D × V)} (h : sortOk ((bs.map (·.1)).map fstD) = true) : likeAll ((bs.map (·.1)).map fstD) = true ∧ AllAlike (bs.map fun b => py (fstD b.1)) ∧ Sortable (bs.map fun b => py (fstD b.1)) ∧ bs.length ≤ sizeLine ∧ ∀ b ∈ bs, (py (fstD b.1)).depth ≤ 50 := by
  have e : (bs.map (·.1)).map fstD = (bs.map fun b => (fstD b.1, b.2)).map (·.1) := by rw [List.map_map, List.map_map] <;> rfl
  have h' := h
  rw [e] at h'
  obtain ⟨k1, k2, k3, k4, k5, _⟩ := sortOk_facts h'
  rw [List.map_map] at k2 k3
  refine ⟨by rw [e]; exact k1, k2, k3, by simpa using k4, fun b hb => ?_⟩
  exact k5 (fstD b.1, b.2) (List.mem_map_of_mem hb)
variable {p kpos lpos pos p1 p2 p3 : Pos} {j : Nat} {e : Expr} {x : Str} {params : Arguments} {scope : Scope} {f : Ev}
theorem de_sortk (LA : LamAt cl X) (hm : X.mg "sorted" = none) (hu : X.A.units + 64 < cLine) (hroom : X.A.depth < recursionLimit) (ha : DE cl W X e f) (hn : scope.names = [(x, .local)]) (hk : scope.kind = .function := by rfl) (hco : scope.isCoroutine = false := by rfl) (hgen : scope.isGenerator = false := by rfl)
    (hdef : defaultsOf params X.env = ([], []) := by rfl)
    (hbd : ∀ (q : Str) (cl : List (Str × Addr)) (pm cv ctv v : Value), bindArgs (kla_fn "<lambda>" q params (.Subscript (.Name x p1) (.Constant (.int 0) j p2) p3) scope cl pm cv ctv) ⟨[v], []⟩ = pure [(x, v)] := by intro _ _ _ _ _ _; rfl)
    (hd : (x == ("__debug__" : Str)) = false := by decide) (hg : Gl X "sorted" := by rfl) (he : starEach [e] X.env = (false, eval e X.env) :: starEach [] X.env := by rfl) :
    DE cl W X (.Call (.Name "sorted" p) [e] [⟨some "key", .Lambda params (.Subscript (.Name x p1) (.Constant (.int 0) j p2) p3) scope lpos, kpos⟩] pos) (eB bSortK (aCons f aNil)) := by
  obtain ⟨c, P, TB, hcode, hmT, hu2⟩ := LA
  refine ⟨fun pins s σ H Q I h => ?_⟩
  obtain ⟨ρ, δ, L, hs, ab, h⟩ := h
  have hl : scope.names.lookup x = some .local := by rw [hn]; simp
  have hcell : ∀ y ∈ scope.names, y.2 ≠ .cell := fun y hy => by rw [hn] at hy; rw [List.mem_singleton.mp hy]; simp
  have hfree : ∀ y ∈ scope.names, y.2 = .free → ∃ c, X.env.cells.lookup y.1 = some c := fun y hy e => by rw [hn] at hy; rw [List.mem_singleton.mp hy] at e; cases e
  refine wpAny_Call_Name_kw (ld_blt I hg hm PyProof.Rows.boot_sorted ?_ (by decide) (by decide))
  refine callWith_kw (thn ((da_cons ha da_nil he).run pos pins s σ H (fun vs H1 => ∃ ρ1 ds L1, AbsL (gm cl X) H1 ρ1 L1 ∧ RepL (gm cl X) H1 ρ1 ds vs ∧ After (gm cl X) W σ ρ1 H1 (bSortK ds L1) fun d H' ρ' _ => ∀ v, Rep (gm cl X) H' ρ' d v → Q v H') I ⟨ρ, δ, L, hs, ab, After.mono (After.andThen h) fun ds H1 ρ1 L1 st1 a1 h1 vs rv => ⟨ρ1, ds, L1, a1, rv, h1⟩⟩) fun us s1 ⟨vs, H1, I1, r1, ρ1, ds, L1, a1, rv, h1⟩ => ?_) ?_ ?_ rfl rfl
  rotate_left
  · rw [he]; rfl
  · rw [he]; rfl
  unfold bSortK at h1
  split at h1
  case h_2 => exact h1.elim
  rename_i d
  obtain ⟨v0, rfl, r0⟩ := rep1 rv
  cases es : lstOf L1 d with
  | none => simp only [es] at h1; exact (show False from h1).elim
  | some ys =>
  simp only [es] at h1
  by_cases hc : (ys.all isPlus && sortOk (ys.map fstD)) = true
  case neg => rw [if_neg hc] at h1; exact (show False from h1).elim
  rw [if_pos hc] at h1
  rw [Bool.and_eq_true, List.all_eq_true] at hc
  obtain ⟨hp, hok⟩ := hc
  refine wpAny_evalAll_cons (wpAny_bind (lam_make2 I1 TB hcode hmT hu2 a1.tab hdef hfree fun fa c' pm ctv H2 s2 I2 eN T2 hf hfn hfr hco' => wpAny_bind (wpAny_standAt (wpAny_pure (wpAny_evalAll_nil ?_)))))
  obtain ⟨st2, a2⟩ := a1.same T2 fun a o n z => eN a o z n
  have h2 := After.step st2 h1
  have r2 := r0.step a1.live st2
  obtain ⟨l, vs, rfl, hL, rds⟩ := lst_at a2 r2 es
  obtain ⟨u0, rfl, rx⟩ := r1.one
  cases rx
  obtain ⟨z, its, n, rits, hlen, eL⟩ := rd_list I2 hL
  obtain ⟨bs, rfl, e2, h3⟩ := zip_rep rds rits
  obtain ⟨k1, k2, k3, k4, k5⟩ := sortOk_fst hok
  show wpAny _ _ (call (.builtin "sorted") [.ref l] [(Str.ofString "key", .ref fa)]) _ _ s2
  refine sorted_key_data (l := l) (vs := its) (bs := bs) (f := .ref fa) (b := false) (fun b => py (fstD b.1)) (R := fun u (b : D × V) => RelV b.2 u ∧ Rep (gm cl X) H2 ρ1 b.1 b.2) ⟨_, eL, rfl, n, rfl⟩ h3 k2 k3 k4 (fun b hb => by have := k5 b hb; omega) (ksk_s1 _ _) (fun _ => ksk_l1 _ _) (fun _ => ksk_t1 _ _) ?_ ?_
  · intro v b hR hb h' tk kp
    have hbm : b.1 ∈ bs.map (·.1) := List.mem_map_of_mem hb
    have hpl := hp b.1 hbm
    have hfm : fstD b.1 ∈ (bs.map (·.1)).map fstD := List.mem_map_of_mem hbm
    have hlk := likeAll_at k1 hfm hfm
    obtain ⟨rv', rb⟩ := hR
    obtain ⟨d1, v1⟩ := b
    cases d1 with
    | tup zs =>
      cases zs with
      | nil => exact absurd hpl Bool.false_ne_true
      | cons y yr =>
        cases rb with
        | tup hq rr =>
          cases rv'
          cases rr with
          | cons ry rrr =>
            obtain ⟨its2, rt, pl, hz⟩ := I2.tuple hq
            cases rt with
            | cons q1 q2 =>
              obtain ⟨as, hr⟩ := Dp.reads I2 _ _ _ (Rep.dp (like_self y hlk).1 ry) q1
              have ea := rd_nil y _ _ hlk hr
              subst ea
              obtain ⟨⟨oc, vc, t, g1, g2, g3⟩, _, _⟩ := I2.hok c' _ hco'
              obtain ⟨o, eo, r⟩ := pl
              refine lam_first (kp _ _ hf) (hbd _ _ _ _ _ _) hk hco hgen hcell hl hroom hd ⟨c', oc, vc, t, rfl, kp _ _ g1, g2, g3⟩ (I2.nolimit.keeps kp) ⟨o, kp _ _ eo, r⟩ (by simp) ?_ (PyProof.Rows.Reads.keeps kp hr)
              rw [List.size_toArray, List.length_cons, ← q2.length]
              exact hz
    | _ => exact absurd hpl Bool.false_ne_true
  · intro out cc h' tk kp hfresh hD hlo he'
    obtain ⟨g1, g2⟩ := each_back he'
    have hp' : s2.heap.objs.size ≤ s2.heap.objs.size + 1 := Nat.le_succ _
    refine ⟨.ref (s2.heap.objs.size + 1), upd H2 (s2.heap.objs.size + 1) (.lst ((bs.mergeSort (dataLe false fun b => py (fstD b.1))).map (·.2))), I2.laid (t' := tk) kp hp' ⟨?_, out, cc, g1, hD⟩, rfl, alloc_lst a2 ?_ (I2.hok.fresh hp') h2⟩
    · rw [List.length_map, List.length_mergeSort]; exact k4
    · rw [← sort_fstF k1]; exact g2
end
end Df
/-! list(d.values()) -/
namespace Df
open PySem PySem.Spec PyProof.Rows L2 PySem.W PySem.Calls PyProof.V
section
variable {prog : Program} {w : World} {d : Addr}
theorem meets_valuesV (hd : (d == sysModules) = false) : MeetsIn prog w (Builtin.«dict.values» ⟨[.ref d], []⟩) (fun _ R s => (∃ xs, DictV w s.heap d xs) ∧
    R (.ok (.ret (.ref s.heap.objs.size))) { s with heap := s.heap.push { cls := .type "dict_values", data := .fields #[.ref d] } }) :=
  .of_wp fun A R s ⟨⟨kvs, hm⟩, h⟩ => by
    refine wpAny_bind ?_
    unfold Builtin.Dict.noArgs
    refine wpAny_bind (wpAny_notOrdered_dict hm.typeIs ?_)
    show wpAny _ _ (pure d) _ _ s
    refine wpAny_pure ?_
    show wpAny _ _ (Builtin.Dict.showsAll d >>= _) _ _ s
    unfold Builtin.Dict.showsAll
    rw [if_neg (by rw [hd]; exact Bool.false_ne_true)]
    refine wpAny_bind (wpAny_pure ?_)
    exact wpAny_bind (wpAny_newObj_type (wpAny_pure ⟨_, rfl, h⟩))
end
section
variable {cl : Cl} {X : Cx} {W : WX} {H : Hp} {ρ : Rho}
def viewO (p d : Addr) : HO := .ext fun h => h.IsValuesView p d
def tVals (cl : Cl) (X : Cx) (W : WX) (fo : Ev) : TE := fun σ H Q => ∃ ρ δ L, SlOk (gm cl X) H ρ σ δ ∧ AbsL (gm cl X) H ρ L ∧ After (gm cl X) W σ ρ H (fo δ L) fun x H1 ρ1 L1 => ∃ kvs, dctOf L1 x = some kvs ∧
  ∀ a p, DAt (gm cl X) H1 ρ1 a kvs → H1 p = none → Q (.ref p) (upd H1 p (viewO p a))
variable {p pos apos cpos : Pos} {o : Expr} {fo : Ev}
theorem pe_values (ho : DE cl W X o fo) (hbase : attributeBase o "values" X.env (eval o X.env) = eval o X.env := by rfl) (hline : (apos.endLine == cpos.line) = true := by rfl) : PE X (.Call (.Attribute o "values" apos) [] [] cpos) (tVals cl X W fo) := by
  refine ⟨fun pins s σ H Q I h => ?_⟩
  obtain ⟨ρ, δ, L, hs, ab, h⟩ := h
  refine wpAny_Call_method0_late hbase hline (thn (ho.run pins s σ H (fun v H1 => ∃ a ρ1 kvs, v = .ref a ∧ DAt (gm cl X) H1 ρ1 a kvs ∧ ∀ p, H1 p = none → Q (.ref p) (upd H1 p (viewO p a))) I ⟨ρ, δ, L, hs, ab, After.mono h fun x H1 ρ1 L1 st1 a1 h1 v rv => ?_⟩) fun v s1 ⟨x, H1, I1, r1, a, ρ1, kvs, e, hd, q⟩ => ?_)
  · obtain ⟨kvs, e, q⟩ := h1
    obtain ⟨a, rfl, hd⟩ := dct_at a1 rv e
    exact ⟨a, ρ1, kvs, rfl, hd, fun p hp => q a p hd hp⟩
  · subst e
    cases r1
    obtain ⟨h1, ws, h2, h3, h4⟩ := hd.model I1
    refine ⟨"dict", _, PySem.F.plainAttrs_dict, PySem.F.slot_dict_values, PySem.F.type_dict_values, h4.typeIs, ?_, Calls.callWith_builtin rfl (PySem.evalArgs_none ?_)⟩
    · intro b e
      cases e
      obtain ⟨ob, es, ep, g1, g2, g3, g4⟩ := h4
      exact ⟨ob, g1, g2.2.1⟩
    · refine call_meetsIn PySem.F.slot_dict_values h4.typeIs PySem.F.entry_dict_values (PySem.F.args_dict_values_1 _) (meets_valuesV h1) ⟨⟨ws, h4⟩, ?_⟩
      refine ⟨.ref s1.heap.objs.size, upd H1 s1.heap.objs.size (viewO s1.heap.objs.size a), I1.laid (t' := s1.toks) (fun b u e => Heap.get?_push_of_some _ e) (Nat.le_refl _) ⟨⟨_, Heap.get?_push_size _ rfl, rfl, rfl⟩, ⟨_, Heap.get?_push_size _ rfl⟩, fun g1 g2 ⟨o, x, y⟩ k => ⟨o, k _ x, y⟩⟩, rfl, q _ (I1.hok.fresh (Nat.le_refl _))⟩
theorem vals_rep : ∀ {kvs : List (D × D)} {xs : List Kv}, KX (gm cl X) H ρ kvs xs → ∃ vs, RepL (gm cl X) H ρ (kvs.map (·.2)) vs ∧ Vals vs (xs.map fun x => x.2.2)
  | _, _, .nil => ⟨[], .nil, .nil⟩
  | _, _, .cons h t => by
    obtain ⟨kv, h1, h2⟩ := h.2.2.2
    obtain ⟨vs, g1, g2⟩ := vals_rep t
    exact ⟨kv :: vs, .cons h1 g1, .cons h2 g2⟩
def rListV (cl : Cl) (X : Cx) : List V → Hp → VK → Prop := fun xs H Q => ∃ p a kvs ρ, xs = [.ref p] ∧ H p = some (viewO p a) ∧ DAt (gm cl X) H ρ a kvs ∧ kvs.length ≤ sizeLine ∧ ∀ l ws, H l = none → RepL (gm cl X) H ρ (kvs.map (·.2)) ws → Q (.ref l) (upd H l (.lst ws))
theorem call_list_view (hc : X.calm = true) : CallR X (.type "list") (rListV cl X) := by
  intro pins s σ H xs us Q I r h
  obtain ⟨q, a, kvs, ρ, rfl, hv, hd, hz, k⟩ := h
  obtain ⟨u, rfl, rx⟩ := r.one
  cases rx
  obtain ⟨vw, _, _⟩ := I.hok q _ hv
  obtain ⟨h1, ws, h2, h3, h4⟩ := hd.model I
  obtain ⟨o, es, ep, q1, q2, q3, q4⟩ := id h4
  have hes : es.size = ws.length := q4.size
  obtain ⟨vs, g1, g2⟩ := vals_rep h2
  have hl : ws.length = kvs.length := by
    have z1 := g1.length
    have z2 := g2.length
    rw [List.length_map] at z1 z2
    omega
  refine PySem.W.kdl_call (KdlSrc.rawValues (d := a) (r := q) (es := es) (ep := ep)) (I.ok.hd hc) ⟨vw, o, q1, q2, q3⟩ (by omega) fun h' tk acc' c' kp e it => ?_
  have ea : acc'.toList = ws.map fun x => x.2.2 := by
    have hl : acc'.toList.length = ws.length := by rw [Array.length_toList, it.1]; exact hes
    apply List.ext_getElem?
    intro j
    rw [List.getElem?_map]
    cases hj : acc'.toList[j]? with
    | none =>
      have h1 := List.getElem?_eq_none_iff.mp hj
      rw [List.getElem?_eq_none (by omega)] <;> rfl
    | some v =>
      obtain ⟨hen, hv⟩ := it.2 j v (by rw [← Array.getElem?_toList]; exact hj)
      have qe := q4.get j
      rw [Array.getElem?_eq_getElem hen] at qe
      cases hb : ws[j]? with
      | none =>
        rw [hb] at qe
        exact nomatch (show some es[j] = none from qe)
      | some b =>
        rw [hb] at qe
        rw [hv, show es[j] = entV X.w b from Option.some.inj qe] <;> rfl
  rw [← ea] at g2
  refine ⟨.ref s.heap.objs.size, _, I.laid (t' := tk) (o := .lst vs) kp (Nat.le_refl _) ?_, rfl, k _ _ (I.hok.fresh (Nat.le_refl _)) g1⟩
  refine ⟨?_, acc'.toList, c', g2, by rw [Array.toArray_toList]; exact e⟩
  have := g1.length
  rw [List.length_map] at this
  omega
theorem DAt.grow {H : Hp} {ρ : Rho} {L : Store} {a p : Addr} {o : HO} {kvs : List (D × D)} (A : AbsL (gm cl X) H ρ L) (hp : H p = none) (h : DAt (gm cl X) H ρ a kvs) : DAt (gm cl X) (upd H p o) ρ a kvs := by
  obtain ⟨es, ep, h1, h2⟩ := h
  refine ⟨es, ep, ?_, h2.step A.live (Step.grow hp)⟩
  rcases h1 with h1 | ⟨ob, h1⟩
  · exact .inl (by rw [upd_ne (ne_of_none h1 hp)]; exact h1)
  · exact .inr ⟨ob, by rw [upd_ne (ne_of_none h1 hp)]; exact h1⟩
theorem de_vals (hm : X.mg "list" = none) (hc : X.calm = true) (ho : DE cl W X o fo) (hg : Gl X "list" := by rfl) (hbase : attributeBase o "values" X.env (eval o X.env) = eval o X.env := by rfl) (hline : (apos.endLine == cpos.line) = true := by rfl) :
    DE cl W X (.Call (.Name "list" p) [.Call (.Attribute o "values" apos) [] [] cpos] [] pos) (eVals fo) := by
  refine imp_e (pe_callTy (call_list_view (cl := cl) hc) hg hm PyProof.Rows.boot_list (pa_cons (pe_values ho hbase hline) pa_nil (by rfl)) (by decide) (by decide) (by rfl)) fun σ H Q h => ?_
  obtain ⟨ρ, δ, L, hs, ab, h⟩ := h
  refine ⟨ρ, δ, L, hs, ab, After.mono (After.andThen h) fun x H1 ρ1 L1 st1 a1 h1 => ?_⟩
  cases e : dctOf L1 x with
  | none => simp only [e] at h1; exact h1.elim
  | some kvs =>
    simp only [e] at h1
    by_cases c : kvs.length ≤ most
    · rw [if_pos c] at h1
      refine ⟨kvs, rfl, fun a q hd hq => ⟨q, a, kvs, ρ1, rfl, upd_same, hd.grow a1 hq, most_le c, fun l ws hl rr => ?_⟩⟩
      exact alloc_lst (a1.grow hq) rr hl (After.step (Step.grow hq) h1)
    · rw [if_neg c] at h1; exact h1.elim
end
end Df
/-! defs that may raise -/
namespace Df
open PySem PySem.Spec PyProof.Rows L2
def OkFnX (cl : Cl) (P : Program) (w : World) (K : PySem.W.Frag) (mg : Str → Option Value) (base : Heap) (x : Str) (ps : List Str) (k : Nat) (F : Fn) : Prop :=
  ∃ f fd, mg x = some (.ref f) ∧ PySem.W.keepIn K (.ref f) = true ∧ L2.Binds K fd ps [] ∧ FnOk P w K mg base (L2.CX P w) k f fd ps (spX cl w K ps.length F)
section
variable {cl : Cl} {P : Program} {w : World} {K : PySem.W.Frag} {mg : Str → Option Value} {base : Heap}
theorem OkFnX.mono {x : Str} {ps : List Str} {k j : Nat} {F : Fn} (h : OkFnX cl P w K mg base x ps k F) (hk : k ≤ j) : OkFnX cl P w K mg base x ps j F := by
  obtain ⟨f, fd, h1, h2, h3, h4⟩ := h
  exact ⟨f, fd, h1, h2, h3, h4.mono hk⟩
theorem okx_bad {x : Str} {st : Stmt} {ps : List Str} (A : FnAt K mg x st ps) (k : Nat) : OkFnX cl P w K mg base x ps k (fun _ _ => .bad) := by
  obtain ⟨f, fd, h1, h2, h3⟩ := A
  refine ⟨f, fd, h1, h2.kp, h3, ⟨fun vs H Q E h => h.1, fun A outer s H args us vs Q E hr he hb hv h => ?_⟩⟩
  obtain ⟨_, ρ, ds, L, _, _, q⟩ := h
  exact q.elim
/-- where it does not raise -/
theorem OkFnX.ok {x : Str} {ps : List Str} {k : Nat} {F : Fn} (h : OkFnX cl P w K mg base x ps k F) : OkFn cl P w K mg base x ps k F := by
  obtain ⟨f, fd, h1, h2, h3, h4⟩ := h
  refine ⟨f, fd, h1, h2, h3, ⟨fun vs H Q E q => q.1, fun A outer s H args us vs Q E hr e0 hb hv q => ?_⟩⟩
  have run := h4.run A outer s H args us vs Q (fun _ _ _ => False) hr e0 hb hv q
  refine codeAny_mono run fun r s' hq => ?_
  cases r with
  | error e =>
    obtain ⟨_, _, _, _, _, _, _, _, _, _, _, _, z⟩ := (show L2.CX P w outer H s (fun _ _ _ => False) e s' from hq)
    exact z.elim
  | ok fl => cases fl <;> exact hq
theorem fnX {x qual : Str} {st : Stmt} {f : Addr} {fd : FuncData} {N ps : List Str} {k : Nat} {b : Sv} (F : Fun K x qual st f fd) (S : FnScope N ps (defScope st)) (n : Nat) (hn : n = N.length)
    (hb : ∀ (X : Cx) (cdv : Value) (A : Around) (outer : List Env) (s : Shared) (H : Hp) (E : XK), X = cxOf (L2.CX P w) P w K mg base N qual (defScope st) f cdv A outer s H E → Room k X.A → DSs cl (WE E) X (defBody st) b) :
    FnOk P w K mg base (L2.CX P w) (k + 1) f fd ps (spX cl w K ps.length (fnOf n b)) := by
  subst hn
  refine F.okX S (fun vs H Q E h => h.1) fun cdv A outer s H vs Q E hr h => ?_
  obtain ⟨hl, ρ, ds, L, r, ab, h⟩ := h
  refine ⟨_, hb _ cdv A outer s H E rfl hr, ρ, _, L, sl_start r, ab, ?_⟩
  unfold fnOf at h
  show AfterS ⟨w, K, cl⟩ (WE E) _ ρ H (b (ds.map some ++ List.replicate (N.length - ds.length) none) L)
  cases e : b (ds.map some ++ List.replicate (N.length - ds.length) none) L with
  | ok fl L1 =>
    rw [e] at h
    cases fl with
    | nx δ => exact fun σ' H' ρ' st' _ ab' => h H' ρ' st' ab' _ .non
    | rt d => exact fun v H' ρ' st' rv ab' => h H' ρ' st' ab' v rv
    | bk δ => exact h.elim
    | ct δ => exact h.elim
  | err x L1 => rw [e] at h; exact fun cls dx σ' H' ρ' st' hx ab' => h cls dx H' ρ' st' hx ab'
  | bad => rw [e] at h; exact h
theorem ok_fnX {x : Str} {st : Stmt} {N ps : List Str} {b : Sv} (n k : Nat) (A : FnAt K mg x st ps) (S : FnScope N ps (defScope st)) (hn : n = N.length)
    (hb : ∀ (f : Addr) (cdv : Value) (A : Around) (outer : List Env) (s : Shared) (H : Hp) (E : XK), Room k (A.deeper (envOfC x (defScope st) s.heap.objs.size f cdv)) → Takes (cxOf (L2.CX P w) P w K mg base N x (defScope st) f cdv A outer s H E) (WE E) →
      PassesOwn (model P w) (A.deeper (envOfC x (defScope st) s.heap.objs.size f cdv)) (envOfC x (defScope st) s.heap.objs.size f cdv) (cxOf (L2.CX P w) P w K mg base N x (defScope st) f cdv A outer s H E).xe →
      DSs cl (WE E) (cxOf (L2.CX P w) P w K mg base N x (defScope st) f cdv A outer s H E) (defBody st) b) :
    OkFnX cl P w K mg base x ps (k + 1) (fnOf n b) := by
  obtain ⟨f, fd, h1, h2, h3⟩ := A
  refine ⟨f, fd, h1, h2.kp, h3, fnX h2 S n hn fun X cdv A outer s H E e hr => ?_⟩
  subst e
  exact hb f cdv A outer s H E hr (takes_of rfl rfl rfl rfl) (passes_of rfl)
end
section
variable {cl : Cl} {W : WX} {X : Cx} {E : XK} {k : Nat} {ps : List Str} {F : Fn} {x : Str} {p pos : Pos} {e : Expr} {es : List Expr} {fs : Av} {f : Ev} {t : Tv}
theorem After.up {α : Type} {G : Gm} {σ : L2.St} {ρ : Rho} {H : Hp} {r : R α} {Q : α → Hp → Rho → Store → Prop} (h : After G W σ ρ H r.noErr Q) : After G W0 σ ρ H r Q := by
  cases r with
  | ok a L => exact h
  | err x L => exact h.elim
  | bad => exact h
theorem de_up (h : DE cl W0 X e f) : DE cl W X e (eNE f) := imp_e h fun σ H Q q => by
  obtain ⟨ρ, δ, L, hs, ha, q⟩ := q
  exact ⟨ρ, δ, L, hs, ha, After.up q⟩
theorem dt_up (h : DT cl W0 X e t) : DT cl W X e (tNE t) := imp_t h fun σ H Q q => by
  obtain ⟨ρ, δ, L, hs, ha, q⟩ := q
  exact ⟨ρ, δ, L, hs, ha, After.up q⟩
/-- a call of a def that may raise, in one that may -/
theorem cX (n : Nat) (G : OkFnX cl X.prog X.w X.K X.mg X.base x ps k F) (hr : Room k X.A) (tk : Takes X (WE E)) (ha : DA cl (WE E) X (e :: es) fs) (hn : ps.length = n := by rfl) (hg : Gl X x := by rfl) (hdb : (x == ("__debug__" : Str)) = false := by decide) (he : starEach (e :: es) X.env = (false, eval e X.env) :: starEach es X.env := by rfl) (hpl : (backTo pos (starEach es X.env)).any (·.1) = false := by rfl) :
    DE cl (WE E) X (.Call (.Name x p) (e :: es) [] pos) (eCall n F fs) := by
  obtain ⟨fa, fd, hm, hk, hb, G⟩ := G
  subst hn
  refine imp_e (pe_call G hr hg hm hk hb .nil (passes_call tk (E := E) fun _ _ _ _ h => h) ha hdb he hpl) fun σ H Q h => ?_
  obtain ⟨ρ, δ, L, hs, ha, h⟩ := h
  refine ⟨ρ, δ, L, hs, ha, After.mono (After.andThen h) fun ds H1 ρ1 L1 st1 a1 h1 vs rv => ?_⟩
  show spX cl X.w X.K _ F (vs ++ []) H1 Q E
  rw [List.append_nil]
  exact spX_flat a1 rv h1
/-- a class of errors without __init__ of its own -/
structure ErrC (cl : Cl) (K : PySem.W.Frag) (mg : Str → Option Value) (c : String) : Prop where
  gC : mg c = some (.ref (cl.f c))
  kC : PySem.W.keepIn K (.ref (cl.f c)) = true
  ex : PySem.W.excIn K (cl.f c) [.type "ValueError", .type "Exception", .type "BaseException", .type "object"] "ValueError.__new__" = true
  sb : PySem.W.subIn K (.ref (cl.f c)) (.type "BaseException") = some true
  ty : PySem.W.typeIn K (.ref (cl.f c)) = some (.type "type")
theorem ds_raise0 {c : String} {m : Str} {j : Nat} {p2 pos' : Pos} (C : ErrC cl X.K X.mg c) (hc : X.calm = true) (tk : Takes X W) (hg : Gl X c := by rfl) (hdb : ((c : Str) == ("__debug__" : Str)) = false := by decide) :
    DS cl W X (.Raise (some (.Call (.Name c p) [.Constant (.str m) j p2] [] pos)) none pos') (sRaise0 c) := by
  refine imp_s (ps_raise hc tk (pmk_own PySem.F.excBase_ValueError C.ex C.gC C.kC (raises_own C.sb C.ty) hg hdb)) fun D σ H h => ?_
  obtain ⟨ρ, δ, L, hs, ha, h⟩ := h
  exact h _ none σ H ρ (Step.refl _ _) ⟨rfl, .inl ⟨rfl, rfl⟩⟩ ha
end
end Df
/-! list.count, list.index; isinstance of the exception that is held -/
namespace Df
open PySem PySem.Spec PyProof.Rows L2 PySem.SeqAt
section
variable {cl : Cl} {X : Cx} {W : WX}
theorem depth_ok {d : D} (h : D.depth d ≤ 50) : (py d).depth ≤ 50 := Nat.le_trans (py_depth d) h
theorem plain_pyL : ∀ xs : List D, PyData.plainAll (pyL xs) = true
  | [] => by rw [pyL]; rfl
  | x :: xs => by rw [pyL, PyData.plainAll, py_plain x, plain_pyL xs]; rfl
def rListP (cl : Cl) (X : Cx) (g : List D → D → Option D) : V → List V → Hp → VK → Prop := fun x xs H Q => ∃ (ρ : Rho) (a : Addr) (vs : List V) (ds : List D) (b : V) (d r : D), x = .ref a ∧ xs = [b] ∧ Rd H a (.lst vs) ∧ RepL (gm cl X) H ρ ds vs ∧ Rep (gm cl X) H ρ d b ∧
  D.plainL ds = true ∧ D.plain d = true ∧ D.depth d ≤ 50 ∧ g ds d = some r ∧ ∀ v, Rep (gm cl X) H ρ r v → Q v H
def gCount (ds : List D) (d : D) : Option D := some (.int ((ds.countP fun y => D.eqv y d : Nat) : Int))
def gIndex (ds : List D) (d : D) : Option D := (ds.findIdx? fun y => D.eqv y d).map fun (j : Nat) => .int (j : Int)
theorem mt_countP (hu : X.A.units + 64 < cLine) : MtR X "list.count" (rListP cl X gCount) := by
  intro pins s σ H x xs v us Q I rx rxs h
  obtain ⟨ρ, a, vs, ds, b, d, r, rfl, rfl, hl, rds, rd, hp, hq, hd, hg, q⟩ := h
  cases rx
  obtain ⟨u, rfl, ru⟩ := rxs.one
  obtain ⟨z, its, n, rits, hlen, eL⟩ := rd_list I hl
  obtain ⟨as, h4⟩ := Dp.readsAll I _ _ _ (rds.dp hp) rits
  obtain ⟨bs, h5⟩ := Dp.reads I _ _ _ (rd.dp hq) ru
  have e : (pyL ds).countP (fun y => PyData.eqv y (py d)) = ds.countP fun y => D.eqv y d := by
    rw [pyL_map, List.countP_map]
    refine List.countP_congr fun y hy => ?_
    have py' : y.plain = true := by
      have : ∀ ds : List D, D.plainL ds = true → ∀ y ∈ ds, y.plain = true := by
        intro ds
        induction ds with
        | nil => intro _ y hy; cases hy
        | cons z zs ih =>
          intro h y hy
          rw [D.plainL, Bool.and_eq_true] at h
          rcases List.mem_cons.mp hy with rfl | hy
          · exact h.1
          · exact ih h.2 y hy
      exact this ds hp y hy
    show PyData.eqv (py y) (py d) = true ↔ _
    rw [py_eqv y d py' hq]
  have hmin : X.A.units + 1 + min (PyData.depthAll (pyL ds)) (py d).depth < cLine := by
    have := Nat.min_le_right (PyData.depthAll (pyL ds)) (py d).depth
    have := depth_ok hd
    omega
  refine count_list_data (l := a) (vs := its.toArray) (xs := pyL ds) (d := py d) ⟨_, eL, rfl, n, rfl⟩ (by simpa using h4) h5 (plain_pyL ds) (py_plain d) hmin ?_
  rw [e]
  cases hg
  exact ⟨.int _, H, I.tok _, ⟨_, rfl⟩, q _ (.int _)⟩
theorem mt_indexP (hu : X.A.units + 64 < cLine) : MtR X "list.index" (rListP cl X gIndex) := by
  intro pins s σ H x xs v us Q I rx rxs h
  obtain ⟨ρ, a, vs, ds, b, d, r, rfl, rfl, hl, rds, rd, hp, hq, hd, hg, q⟩ := h
  cases rx
  obtain ⟨u, rfl, ru⟩ := rxs.one
  obtain ⟨z, its, n, rits, hlen, eL⟩ := rd_list I hl
  obtain ⟨as, h4⟩ := Dp.readsAll I _ _ _ (rds.dp hp) rits
  obtain ⟨bs, h5⟩ := Dp.reads I _ _ _ (rd.dp hq) ru
  unfold gIndex at hg
  obtain ⟨j, hj, rfl⟩ := Option.map_eq_some_iff.mp hg
  have allp : ∀ y ∈ ds, y.plain = true := by
    have : ∀ ds : List D, D.plainL ds = true → ∀ y ∈ ds, y.plain = true := by
      intro ds
      induction ds with
      | nil => intro _ y hy; cases hy
      | cons z zs ih =>
        intro h y hy
        rw [D.plainL, Bool.and_eq_true] at h
        rcases List.mem_cons.mp hy with rfl | hy
        · exact h.1
        · exact ih h.2 y hy
    exact this ds hp
  have e : dataPlace (pyL ds) (py d) = some j := by
    unfold dataPlace
    rw [pyL_map]
    obtain ⟨g1, g2, g3⟩ := List.findIdx?_eq_some_iff_getElem.mp hj
    refine List.findIdx?_eq_some_iff_getElem.mpr ⟨by rw [List.length_map]; exact g1, ?_, fun m hm => ?_⟩
    · rw [List.getElem_map, py_eqv _ _ (allp _ (List.getElem_mem _)) hq]; exact g2
    · rw [List.getElem_map, py_eqv _ _ (allp _ (List.getElem_mem _)) hq]; exact g3 m hm
  have hmin : X.A.units + 1 + min (PyData.depthAll (pyL ds)) (py d).depth < cLine := by
    have := Nat.min_le_right (PyData.depthAll (pyL ds)) (py d).depth
    have := depth_ok hd
    omega
  have h4' : ReadsAll s.heap its.toArray.toList (pyL ds) as := by simpa using h4
  obtain ⟨hjl, hit, hno⟩ := hit_at h4' (plain_pyL ds) e
  have hn := line63
  have hsz : its.toArray.size = its.length := by simp
  refine call_meets PySem.F.slot_list_index ⟨_, eL, rfl⟩ PySem.F.entry_list_index (PySem.F.args_list_index_2 _ _)
    (list_indexAt a its.toArray n none #[] u (fun y => PyData.eqv (readOf s.heap y) (py d)) j hjl (by omega) hit hno) ⟨eL, items_plain h4' h5 (plain_pyL ds) (py_plain d) hmin, ?_⟩
  exact ⟨.int _, H, I.tok _, ⟨_, rfl⟩, q _ (.int _)⟩
theorem opm_count : OpM cl X mCount (rListP cl X gCount) := by
  intro W σ H ρ L x xs v vs Q ab r rs h
  unfold mCount at h
  split at h
  · rename_i ys y el
    split at h
    · rename_i hc
      rw [Bool.and_eq_true, Bool.and_eq_true, decide_eq_true_eq] at hc
      obtain ⟨a, ws, rfl, h1, h2⟩ := lst_at ab r el
      obtain ⟨b, rfl, rb⟩ := rep1 rs
      exact ⟨ρ, a, ws, ys, b, y, _, rfl, rfl, h1, h2, rb, hc.1.1, hc.1.2, hc.2, rfl, fun w rw' => h H ρ (Step.refl _ _) ab w rw'⟩
    · exact h.elim
  · exact h.elim
theorem opm_index : OpM cl X mIndex (rListP cl X gIndex) := by
  intro W σ H ρ L x xs v vs Q ab r rs h
  unfold mIndex at h
  split at h
  · rename_i ys y el
    split at h
    · rename_i hc
      rw [Bool.and_eq_true, Bool.and_eq_true, decide_eq_true_eq] at hc
      obtain ⟨a, ws, rfl, h1, h2⟩ := lst_at ab r el
      obtain ⟨b, rfl, rb⟩ := rep1 rs
      split at h
      · rename_i j hj
        exact ⟨ρ, a, ws, ys, b, y, _, rfl, rfl, h1, h2, rb, hc.1.1, hc.1.2, hc.2, by unfold gIndex; rw [hj]; rfl, fun w rw' => h H ρ (Step.refl _ _) ab w rw'⟩
      · exact h.elim
    · exact h.elim
  · exact h.elim
variable {o e : Expr} {es : List Expr} {fo f : Ev} {fs : Av} {apos cpos : Pos}
theorem de_count (hu : X.A.units + 64 < cLine) (ho : DE cl W X o fo) (ha : DA cl W X [e] fs) (hbase : attributeBase o "count" X.env (eval o X.env) = eval o X.env := by rfl)
    (hfew : ((backTo cpos (starEach [e] X.env)).all (fun x => !x.1) && (backToKw cpos (keywordEach [] X.env)).all (fun x => x.1.isSome)
      && decide ([e].length + ([] : List Keyword).length + (if ([] : List Keyword).isEmpty then 0 else 1) < 30)) = true := by rfl)
    (hline : (apos.endLine == cpos.line) = true := by rfl) (hs : starEach [e] X.env = (false, eval e X.env) :: starEach [] X.env := by rfl) (hplain : (backTo cpos (starEach [] X.env)).any (·.1) = false := by rfl) :
    DE cl W X (.Call (.Attribute o "count" apos) [e] [] cpos) (eM mCount fo fs) :=
  de_ml PySem.F.plainAttrs_list PySem.F.slot_list_count PySem.F.type_list_count (mt_countP (cl := cl) hu) opm_count ho ha hbase hfew hline hs hplain
theorem de_index (hu : X.A.units + 64 < cLine) (ho : DE cl W X o fo) (ha : DA cl W X [e] fs) (hbase : attributeBase o "index" X.env (eval o X.env) = eval o X.env := by rfl)
    (hfew : ((backTo cpos (starEach [e] X.env)).all (fun x => !x.1) && (backToKw cpos (keywordEach [] X.env)).all (fun x => x.1.isSome)
      && decide ([e].length + ([] : List Keyword).length + (if ([] : List Keyword).isEmpty then 0 else 1) < 30)) = true := by rfl)
    (hline : (apos.endLine == cpos.line) = true := by rfl) (hs : starEach [e] X.env = (false, eval e X.env) :: starEach [] X.env := by rfl) (hplain : (backTo cpos (starEach [] X.env)).any (·.1) = false := by rfl) :
    DE cl W X (.Call (.Attribute o "index" apos) [e] [] cpos) (eM mIndex fo fs) :=
  de_ml PySem.F.plainAttrs_list PySem.F.slot_list_index PySem.F.type_list_index (mt_indexP (cl := cl) hu) opm_index ho ha hbase hfew hline hs hplain
theorem de_intb {p pos : Pos} (hm : X.mg "int" = none) (ha : DE cl W X e f) (hg : Gl X "int" := by rfl) (he : starEach [e] X.env = (false, eval e X.env) :: starEach [] X.env := by rfl) : DE cl W X (.Call (.Name "int" p) [e] [] pos) (eInt f) := by
  refine imp_e (pe_callTy call_int1 hg hm PyProof.Rows.boot_int (da_cons ha da_nil he) (by decide) (by decide) he) fun σ H Q h => ?_
  obtain ⟨ρ, δ, L, hs, ab, h⟩ := h
  unfold eInt at h
  refine ⟨ρ, δ, L, hs, ab, ?_⟩
  show After _ _ _ _ _ ((f δ L).andThen fun d L => (aNil δ L).andThen fun ds L => .ok (d :: ds) L) _
  cases hf : f δ L with
  | bad => rw [hf] at h; exact h.elim
  | err y L' => rw [hf] at h; exact h
  | ok d L' =>
    rw [hf] at h
    intro H' ρ' st ab' vs rv
    obtain ⟨v, rfl, r⟩ := rep1 rv
    cases d with
    | bl b => cases r; exact .inr ⟨b, rfl, h H' ρ' st ab' _ (.int _)⟩
    | int i => cases r; exact .inl ⟨i, rfl, h H' ρ' st ab' _ (.int _)⟩
    | _ => exact (show False from h).elim
end
end Df
/-! the word of what a work raises: w(lambda: body) -/
namespace Df
open PySem PySem.Spec PyProof.Rows L2 LamX
abbrev clx (cl : Cl) (a : Addr) (c0 : String) : Cl := ⟨cl.f, cl.T, fun a' c v => a' = a ∧ c = c0 ∧ v = .non, []⟩
/-- what the text says of the class c0, that an error of it be told -/
structure HoldC (cl : Cl) (K : PySem.W.Frag) (c0 : String) : Prop where
  ex : ExcC K (cl.f c0)
  kit : ∀ C ∈ eight, PySem.W.kitOne K (.ref (cl.f c0)) (.ref (cl.f C)) = some ([C].contains c0)
  ve : PySem.W.kitOne K (.ref (cl.f c0)) (.type "ValueError") = some (eight.contains c0)
  te : PySem.W.exmOne K (.ref (cl.f c0)) (.ref (cl.f "TermError")) = some true
section
variable {cl : Cl} {X : Cx} {W : WX} {a : Addr} {oe : Obj} {pn : List (Addr × Obj)} {c0 : String} {p q pos : Pos} {e : Expr} {f : Ev}
theorem isx_core {c : V} {cv : Value} {cs : List String} {ec : Expr} (h : HoldC cl X.K c0) (hz : Zc (.ref (cl.f c0)) none oe) (hf : ∃ vs, oe.data = .fields vs) (hm : X.mg "isinstance" = none) (hc : PE (X.suite a ((a, oe) :: pn)) ec (tC c)) (hcv : ∀ u, RelV c u → u = cv)
    (hk : PySem.W.kitOne X.K (.ref (cl.f c0)) cv = some (cs.contains c0)) (he : DE (clx cl a c0) W (X.suite a ((a, oe) :: pn)) e f) (hg : Gl X "isinstance")
    (hs : starEach [e, ec] X.env = (false, eval e X.env) :: starEach [ec] X.env) (hs2 : starEach [ec] X.env = (false, eval ec X.env) :: starEach [] X.env) (hpl : (backTo pos (starEach [ec] X.env)).any (·.1) = false) :
    DE (clx cl a c0) W (X.suite a ((a, oe) :: pn)) (.Call (.Name "isinstance" p) [e, ec] [] pos) (eIsX cs f) := by
  refine imp_e (pe_callB (X := X.suite a ((a, oe) :: pn)) (call_isE h.ex hz hf) hg hm PyProof.Rows.boot_isinstance (pa_cons he (pa_cons hc pa_nil hs2) hs) (by decide) (by decide) hs hpl) fun σ H Q q => ?_
  obtain ⟨ρ, δ, L, hs, ha, q⟩ := q
  refine ⟨ρ, δ, L, hs, ha, After.mono (After.andThen q) fun x H1 ρ1 L1 st1 a1 h1 v rv => ?_⟩
  cases x with
  | xc c1 x1 =>
    cases rv with
    | xc g _ =>
      obtain ⟨rfl, rfl, rfl⟩ := g
      exact ⟨c, cv, _, rfl, hcv, hk, now a1 h1 _ (.bl _)⟩
  | _ => exact (show False from h1).elim
theorem de_isx {C : String} (h : HoldC cl X.K c0) (hz : Zc (.ref (cl.f c0)) none oe) (hf : ∃ vs, oe.data = .fields vs) (hm : X.mg "isinstance" = none) (gC : X.mg C = some (.ref (cl.f C))) (he : DE (clx cl a c0) W (X.suite a ((a, oe) :: pn)) e f) (hC : C ∈ eight := by decide)
    (hg : Gl X "isinstance" := by rfl) (hg2 : Gl X C := by rfl) (hd : ((C : Str) == ("__debug__" : Str)) = false := by decide)
    (hs : starEach [e, .Name C q] X.env = (false, eval e X.env) :: starEach [.Name C q] X.env := by rfl) (hs2 : starEach [.Name C q] X.env = (false, eval (.Name C q) X.env) :: starEach [] X.env := by rfl) (hpl : (backTo pos (starEach [.Name C q] X.env)).any (·.1) = false := by rfl) :
    DE (clx cl a c0) W (X.suite a ((a, oe) :: pn)) (.Call (.Name "isinstance" p) [e, .Name C q] [] pos) (eIsX [C] f) :=
  isx_core h hz hf hm (pe_glob (X := X.suite a ((a, oe) :: pn)) (v := .ref (cl.f C)) hg2 gC rfl hd) (fun u r => r) (h.kit C hC) he hg hs hs2 hpl
theorem de_isv (h : HoldC cl X.K c0) (hz : Zc (.ref (cl.f c0)) none oe) (hf : ∃ vs, oe.data = .fields vs) (hm : X.mg "isinstance" = none) (hv : X.mg "ValueError" = none) (he : DE (clx cl a c0) W (X.suite a ((a, oe) :: pn)) e f)
    (hg : Gl X "isinstance" := by rfl) (hg2 : Gl X "ValueError" := by rfl)
    (hs : starEach [e, .Name "ValueError" q] X.env = (false, eval e X.env) :: starEach [.Name "ValueError" q] X.env := by rfl) (hs2 : starEach [.Name "ValueError" q] X.env = (false, eval (.Name "ValueError" q) X.env) :: starEach [] X.env := by rfl) (hpl : (backTo pos (starEach [.Name "ValueError" q] X.env)).any (·.1) = false := by rfl) :
    DE (clx cl a c0) W (X.suite a ((a, oe) :: pn)) (.Call (.Name "isinstance" p) [e, .Name "ValueError" q] [] pos) (eIsX eight f) :=
  isx_core h hz hf hm (pe_bltn (X := X.suite a ((a, oe) :: pn)) (v := .ty "ValueError") hg2 hv (by decide +kernel) rfl (by decide) (by decide)) (fun u r => r) h.ve he hg hs hs2 hpl
end
section
variable {cl : Cl} {X : Cx}
theorem takes_len {W : WX} (tk : Takes X W) : Takes X (fun cls d σ H => σ.length = X.N.length → W cls d σ H) := fun u s' ⟨a, B, sI, pins, σ, H, cls, d, e, I, nb, up, sky, na, os, ag, w⟩ =>
  tk u s' ⟨a, B, sI, pins, σ, H, cls, d, e, I, nb, up, sky, na, os, ag, w I.len⟩
theorem slOk_h {σ : L2.St} {H : Hp} {j : Nat} {a : Addr} {c0 : String} (n : Nat) (hn : n = σ.length) : SlOk (gm (clx cl a c0) X) H [] (σ.set j (some (.ref a))) (hSl n j c0) := by
  subst hn
  unfold hSl
  refine ⟨by simp, fun i d e => ?_⟩
  by_cases hj : j = i
  · subst hj
    by_cases hi : j < σ.length
    · rw [List.getElem?_set_self (by simpa using hi)] at e
      cases e
      exact ⟨_, List.getElem?_set_self hi, .xc ⟨rfl, rfl, rfl⟩ fun p hp => nomatch hp⟩
    · rw [List.getElem?_eq_none (by simp; omega)] at e
      cases e
  · rw [List.getElem?_set_ne hj, List.getElem?_replicate] at e
    split at e <;> cases e
/-- what is wished of an error of the work -/
def EwX (cl : Cl) (S : List String) (Q : VK) : XK := fun cls dx H' => ∃ c0 w, c0 ∈ S ∧ wordOf c0 = some w ∧ cls = .ref (cl.f c0) ∧ dx = none ∧ Tabs cl.T H' ∧
  ∀ H'', (∀ a o, Nt o → H' a = some o → H'' a = some o) → Tabs cl.T H'' → Q (.str w) H''
def TTw (cl : Cl) (S : List String) : (XK → Hp → VK → Prop) → Hp → VK → Prop := fun tl H Q => tl (EwX cl S Q) H (fun _ H' => Q (.str "") H')
variable {Ng : List Str} {x a en q : Str} {sg : Scope} {g : Addr} {cdg : Value} {jj j : Nat} {p1 p2 p3 p4 p5 p6 p7 p8 p9 : Pos} {b0 : Stmt} {suite : List Stmt} {sem : Sv} {S : List String}
theorem word_gives (hge : sg.names.lookup ("TermError" : Str) = some NameKind.globalImplicit) (hme : X.mg "TermError" = some (.ref (cl.f "TermError"))) (h0 : ∀ f : Addr, (L2.start Ng [V.ref f])[0]? = some (some (V.ref f))) (hNd : Ng.Nodup) (hj : Ng[j]? = some en) (hen : sg.names.lookup en = some NameKind.local)
    (hS : ∀ c0 ∈ S, HoldC cl X.K c0) {k : Nat} (hr : Room (k + 2) X.A)
    (hsu : ∀ (s : Shared) (H : Hp) (pn : List (Addr × Obj)) (ae : Addr) (oe : Obj) (c0 : String), c0 ∈ S → Zc (.ref (cl.f c0)) none oe → (∃ vs, oe.data = .fields vs) → ((cxOf C8.CX0 X.prog X.w X.K X.mg X.base Ng x sg g cdg X.A X.stack s H C8.E0).nox.suite ae ((ae, oe) :: pn)).A.units + 64 < cLine → DSs (clx cl ae c0) W0 ((cxOf C8.CX0 X.prog X.w X.K X.mg X.base Ng x sg g cdg X.A X.stack s H C8.E0).nox.suite ae ((ae, oe) :: pn)) (b0 :: suite) sem)
    (hsem : ∀ c0 ∈ S, ∃ w L', wordOf c0 = some w ∧ sem (hSl Ng.length j c0) [] = .ok (.rt (.str w)) L') :
    GivesTo X Ng x sg g cdg [.Try [.Expr (.Call (.Name a p1) [] [] p2) p3] [.ExceptHandler (some (.Name "TermError" p4)) (some en) (b0 :: suite) p5] [] [] p6, .Return (some (.Constant (.str "") jj p7)) p8] a q (TTw cl S) := by
  intro f c' s H Q tl act hc h
  have hgl : Gl (cxOf C8.CX0 X.prog X.w X.K X.mg X.base Ng x sg g cdg X.A X.stack s H C8.E0).nox "TermError" := hge
  refine ⟨_, pss_cons (ps_try_as (X := (cxOf C8.CX0 X.prog X.w X.K X.mg X.base Ng x sg g cdg X.A X.stack s H C8.E0).nox) (c := .ref (cl.f "TermError")) (i := j) (Wout := fun _ _ _ _ => False)
      (tb := fun W D σ H => ∃ Ech : XK, (∀ cls d σ' H', Ech cls d H' → σ'.length = Ng.length → W cls d σ' H') ∧ σ[0]? = some (some (.ref f)) ∧ H c' = some (CodeO c' q) ∧ tl Ech H fun _ H' => D.nx σ H')
      (ts := fun ae cls d D σ H => ∃ c0, c0 ∈ S ∧ cls = .ref (cl.f c0) ∧ d = none ∧ tS (gm (clx cl ae c0) X) W0 sem D σ H)
      rfl rfl hNd hj hen ⟨hgl, by decide, .inl hme⟩ L2.takes0 (fun W pn xe tk _ => ?_) (fun ae oe cls d pn hz hf => ?_)) (pss_one (ps_ret pe_str)), ?_⟩
  · refine ⟨fun pins s' σ H' D I h' => ?_⟩
    obtain ⟨Ech, hW, h1, h2, h3⟩ := h'
    have hp := act (fun cls d σ H => σ.length = Ng.length → W cls d σ H) pn xe Ech p1 p2 (takes_len tk) (fun cls d σ' H' e => hW cls d σ' H' e)
    have hq := pss_one (ps_expr (pos := p3) hp)
    exact hq.run pins s' σ H' D I ⟨h1, h2, h3⟩
  · refine ⟨fun pins s' σ H' D I h' => ?_⟩
    obtain ⟨c0, hc0, rfl, rfl, h'⟩ := h'
    exact (hsu s H pn ae oe c0 hc0 hz hf ((hr.deeper (envOfC x sg s.heap.objs.size g cdg)).units)).run pins s' σ H' D I h'
  · refine ⟨EwX cl S Q, fun cls d σ' H' hE hl => ?_, h0 f, hc, h⟩
    obtain ⟨c0, w, hc0, hw, rfl, rfl, hT, hall⟩ := hE
    refine ⟨true, (hS c0 hc0).te, fun _ ae na => ⟨c0, hc0, rfl, rfl, [], hSl Ng.length j c0, [], slOk_h Ng.length hl.symm, AbsL.nil hT, ?_⟩, fun z => nomatch z⟩
    obtain ⟨w', L', hw', e⟩ := hsem c0 hc0
    rw [hw] at hw'
    cases hw'
    rw [e]
    intro v H'' ρ'' st r ab
    cases r
    exact hall H'' (fun b o n z => st.fr b o z n (fun i y => by simp at y)) ab.tab
end
section
variable {cl : Cl} {X : Cx}
/-- w(lambda: body) -/
theorem de_word {W : WX} {S : List String} {x a : Str} {ga : Addr} {k : Nat} {pg : Arguments} {bg : List Stmt} {sg : Scope} {dV kV doc pm cdv ct oc : Value} {an od : Option Addr} {osl : Array (Option Value)} {Ng : List Str}
    {params : Arguments} {body : Expr} {scope : Scope} {f : Ev} {p lpos pos : Pos} (LA : LamAt cl X) (hg : Gl X x) (hm : X.mg x = some (.ref ga)) (hk : PySem.W.keepIn X.K (.ref ga) = true)
    (lk : X.K.lookup ga = some ⟨oc, od, .func (PySem.W.fnOf x x pg bg sg dV kV doc pm an cdv ct), osl⟩) (hcg : PySem.W.codeIn X.K cdv x = true) (hb : L2.Binds X.K (PySem.W.fnOf x x pg bg sg dV kV doc pm an cdv ct) [a] []) (Sg : FnScope Ng [a] sg) (hNg : Ng[0]? = some a) (hva : Vis sg a)
    (hG : GivesTo X Ng x sg ga cdv bg a (X.env.qual ++ "<lambda>") (TTw cl S)) (hr : Room (k + 2) X.A) (L : LamS X.env.scope scope) (hdef : defaultsOf params X.env = ([], []))
    (hbind : ∀ (q : Str) (cl : List (Str × Addr)) (pm cv ctv : Value), bindArgs (PySem.W.kla_fn "<lambda>" q params body scope cl pm cv ctv) ⟨[], []⟩ = pure [])
    (hbody : ∀ (A : Around) (outer : List Env) (s : Shared) (H : Hp) (E : XK) (f0 c' : Addr), Room k (A.deeper (lamEnv X scope s.heap.objs.size f0 c')) → Takes (lamCx X A outer s H E scope f0 c') (WE E) → DE cl (WE E) (lamCx X A outer s H E scope f0 c') body f)
    (hdb : (x == ("__debug__" : Str)) = false := by decide) (hd : (a == ("__debug__" : Str)) = false := by decide) (hcd : (a == ("__classdict__" : Str)) = false := by decide) :
    DE cl W X (.Call (.Name x p) [.Lambda params body scope lpos] [] pos) (eWord S f) := by
  obtain ⟨c, P, TB, hcode, hmT, hu⟩ := LA
  refine imp_e (pe_lamcall (t := fun E => tE (gm cl X) (WE E) f) (TT := TTw cl S) (T := cl.T) hg hm hk lk hcg hb Sg hNg hva hG TB hcode hmT hu hr L hdef hbind (fun A outer s H E f0 c' hr2 => hbody A outer s H E f0 c' hr2 (takes_of rfl rfl rfl rfl)) hdb hd hcd) fun σ H Q h => ?_
  obtain ⟨ρ, δ, L, hs, ab, h⟩ := h
  refine ⟨ab.tab, fun H1 eN T1 => ?_⟩
  obtain ⟨st1, a1⟩ := ab.same T1 fun b o n z => eN b o z n
  refine ⟨ρ, δ, L, hs.step ab.live st1, a1, ?_⟩
  unfold eWord at h
  cases e : f δ L with
  | ok d L' =>
    rw [e] at h
    exact fun H' ρ' st ab' v _ => h H' ρ' (st1.trans st) ab' _ (.str _)
  | bad => rw [e] at h; exact h.elim
  | err y L' =>
    rw [e] at h
    simp only at h
    by_cases hc : S.contains y.c = true
    · rw [if_pos hc] at h
      cases hw : wordOf y.c with
      | none => rw [hw] at h; exact h.elim
      | some w =>
        rw [hw] at h
        cases hv : y.v with
        | non =>
          rw [hv] at h
          simp only at h
          intro cls dx H' ρ' st hx ab'
          refine ⟨y.c, w, by simpa using hc, hw, hx.1, ?_, ab'.tab, fun H'' k T2 => ?_⟩
          · rcases hx.2 with z | z
            · exact z.2
            · exact absurd hv z.1
          · obtain ⟨st2, a2⟩ := ab'.same T2 k
            exact h H'' ρ' ((st1.trans st).trans st2) a2 _ (.str _)
        | _ => rw [hv] at h; exact h.elim
    · rw [if_neg hc] at h; exact h.elim
/-- .. w a def of the text -/
theorem de_wordA {W : WX} {S : List String} {x a : Str} {st : Stmt} {Ng : List Str} {k : Nat} {params : Arguments} {body : Expr} {scope : Scope} {f : Ev} {p lpos pos : Pos} (A : FnAt X.K X.mg x st [a]) (LA : LamAt cl X) (Sg : FnScope Ng [a] (defScope st)) (hr : Room (k + 2) X.A)
    (hG : ∀ (ga : Addr) (cdv : Value), GivesTo X Ng x (defScope st) ga cdv (defBody st) a (X.env.qual ++ "<lambda>") (TTw cl S))
    (hbody : ∀ (A : Around) (outer : List Env) (s : Shared) (H : Hp) (E : XK) (f0 c' : Addr), Room k (A.deeper (lamEnv X scope s.heap.objs.size f0 c')) → Takes (lamCx X A outer s H E scope f0 c') (WE E) → DE cl (WE E) (lamCx X A outer s H E scope f0 c') body f)
    (hg : Gl X x := by rfl) (hNg : Ng[0]? = some a := by rfl) (hva : Vis (defScope st) a := by first | exact Or.inl rfl | exact Or.inr (Or.inl rfl)) (L : LamS X.env.scope scope := by exact LamX.lamS_by (by rfl)) (hdef : defaultsOf params X.env = ([], []) := by rfl)
    (hbind : ∀ (q : Str) (cl : List (Str × Addr)) (pm cv ctv : Value), bindArgs (PySem.W.kla_fn "<lambda>" q params body scope cl pm cv ctv) ⟨[], []⟩ = pure [] := by intro _ _ _ _ _; rfl)
    (hdb : (x == ("__debug__" : Str)) = false := by decide) (hd : (a == ("__debug__" : Str)) = false := by decide) (hcd : (a == ("__classdict__" : Str)) = false := by decide) :
    DE cl W X (.Call (.Name x p) [.Lambda params body scope lpos] [] pos) (eWord S f) := by
  obtain ⟨ga, fd, hm, hF, hb⟩ := A
  have kp := hF.kp
  obtain ⟨oc, od, kV, doc, pm, an, cdv, ct, osl, rfl, lk, hcd'⟩ := hF.ex
  exact de_word LA hg hm kp lk hcd' hb Sg hNg hva (hG ga cdv) hr L hdef hbind hbody hdb hd hcd
end
end Df
/-! a list held fast while an expression is evaluated; a call that tells a pair with a list -/
namespace Df
open PySem PySem.Spec PyProof.Rows L2
section
variable {X : Cx} {pins : List (Addr × Obj)} {σ : L2.St} {H : Hp} {s : Shared}
theorem inv_unlock {a : Addr} {o : Obj} {us : List V} (I : Inv X pins σ H s) (ha : H a = some (.frz o (.lst us))) (h0 : ∀ o u, X.H_0 a ≠ some (.frz o u)) : Inv X pins σ (upd H a (.lst us)) s := by
  have nn : ∀ b, H b = none → upd H a (.lst us) b = none := fun b e => by rw [upd_ne (fun z => by rw [z, ha] at e; cases e)]; exact e
  refine { I with base := ?_, free := nn _ I.free, freeC := fun x c e => nn _ (I.freeC x c e), pin := fun p hp => ?_, hok := ?_ }
  · exact { I.base with
      free := fun b ob e n x => nn _ (I.base.free b ob e n x)
      tups := fun b xs e => by
        have q := I.base.tups b xs e
        rw [upd_ne (fun z => by rw [z, ha] at q; cases q)]; exact q
      frzs := fun b ob u e => by
        have q := I.base.frzs b ob u e
        rw [upd_ne (fun z => h0 ob u (by rw [← z]; exact e))]; exact q
      tbls := fun b ps e => by
        obtain ⟨more, q⟩ := I.base.tbls b ps e
        exact ⟨more, by rw [upd_ne (fun z => by rw [z, ha] at q; cases q)]; exact q⟩ }
  · obtain ⟨h1, h2, h3⟩ := I.pin p hp
    exact ⟨h1, nn _ h2, h3⟩
  · intro b u e
    by_cases hb : b = a
    · subst hb
      rw [upd_same] at e
      cases e
      exact (I.hok b _ ha).2
    · rw [upd_ne hb] at e
      exact (I.hok b u e).stay (fun c v _ q => q) (fun c q => by rw [upd_ne (fun z => by rw [z, ha] at q; cases q)]; exact q) fun c xs q => by rw [upd_ne (fun z => by rw [z, ha] at q; cases q)]; exact q
theorem pe_locked {e : Expr} {t : TE} (h : PE X e t) : PE X e (fun σ H Q => ∃ a us, H a = some (.lst us) ∧ ∀ o, t σ (upd H a (.frz o (.lst us))) (fun v H' => H' a = some (.frz o (.lst us)) ∧ Q v (upd H' a (.lst us)))) := by
  refine ⟨fun pins s σ H Q I hw => ?_⟩
  obtain ⟨a, us, ha, hw⟩ := hw
  obtain ⟨od, I2⟩ := I.lock ha True.intro
  refine thn (h.run pins s σ _ _ I2 (hw od)) fun u s' ⟨v, H', I', r, q1, q2⟩ => ?_
  exact ⟨v, _, inv_unlock I' q1 (fun o u z => by have := I.base.frzs a o u z; rw [ha] at this; cases this), r, q2⟩
end
section
variable {G : Gm} {H : Hp} {ρ ρ' : Rho} {a : Addr} {o : Obj} {us : List V}
theorem SqT.unlock {K : PySem.W.Frag} {b : Addr} {vs : List V} (ha : H a = some (.frz o (.lst us))) (h : SqT K H b vs) : SqT K (upd H a (.lst us)) b vs := by
  rcases h with (h | ⟨o', h⟩) | h
  · exact .inl (.inl (by rw [upd_ne (fun z => by rw [z, ha] at h; cases h)]; exact h))
  · exact .inl (.inr ⟨o', by rw [upd_ne (fun z => by rw [z, ha] at h; cases h)]; exact h⟩)
  · exact .inr h
mutual
theorem Rep.unlock (ha : H a = some (.frz o (.lst us))) : ∀ {d : D} {v : V}, d.noL = true → Rep G H ρ d v → Rep G (upd H a (.lst us)) ρ' d v
  | _, _, _, .non => .non
  | _, _, _, .bl b => .bl b
  | _, _, _, .int i => .int i
  | _, _, _, .str x => .str x
  | _, _, h, .tup q r => .tup (SqT.unlock ha q) (RepL.unlock ha (by rw [D.noL] at h; exact h) r)
  | _, _, h, .lst _ _ => absurd h Bool.false_ne_true
  | _, _, h, .dct q r => .dct (by rw [upd_ne (fun z => by rw [z, ha] at q; unfold rawO at q; cases q)]; exact q) (RepE.unlock ha (by rw [D.noL] at h; exact h) r)
  | _, _, h, .scr _ => absurd h Bool.false_ne_true
  | _, _, h, .ref _ _ => absurd h Bool.false_ne_true
  | _, _, h, .xc _ _ => absurd h Bool.false_ne_true
theorem RepL.unlock (ha : H a = some (.frz o (.lst us))) : ∀ {ds : List D} {vs : List V}, D.noLL ds = true → RepL G H ρ ds vs → RepL G (upd H a (.lst us)) ρ' ds vs
  | _, _, _, .nil => .nil
  | _, _, h, .cons r t => by
    rw [D.noLL, Bool.and_eq_true] at h
    exact .cons (Rep.unlock ha h.1 r) (RepL.unlock ha h.2 t)
theorem RepE.unlock (ha : H a = some (.frz o (.lst us))) : ∀ {kvs : List (D × D)} {es : List DictEntry}, D.noLP kvs = true → RepE G H ρ kvs es → RepE G (upd H a (.lst us)) ρ' kvs es
  | _, _, _, .nil => .nil
  | _, _, h, .cons g r1 q1 q2 r2 q3 t => by
    rw [D.noLP, Bool.and_eq_true, Bool.and_eq_true] at h
    exact .cons g (Rep.unlock ha h.1 r1) q1 q2 (Rep.unlock ha h.2.1 r2) q3 (RepE.unlock ha h.2.2 t)
end
end
section
variable {cl : Cl} {X : Cx} {W : WX} {e : Expr} {f : Ev}
theorem de_lock (i : Nat) (h : DE cl W X e f) : DE cl W X e (eLock i f) := by
  refine imp_e (pe_locked h) fun σ H Q q => ?_
  obtain ⟨ρ, δ, L, hs, ab, q⟩ := q
  unfold eLock at q
  split at q
  case h_2 => exact q.elim
  rename_i k hδ
  split at q
  case h_2 => exact q.elim
  rename_i xs hL
  by_cases hf : D.flatL xs = true
  case neg => rw [if_neg hf] at q; exact q.elim
  rw [if_pos hf] at q
  obtain ⟨sl, hk, a, vs, rfl, ha, rl⟩ := ab.obj k _ hL
  have hkl : k < ρ.length := (List.getElem?_eq_some_iff.mp hk).1
  refine ⟨a, vs, ha, fun o => ?_⟩
  obtain ⟨stk, abk⟩ := ab.kill (o := .frz o (.lst vs)) hk nt_frz
  obtain ⟨vi, hi1, hi2⟩ := hs.2 i _ hδ
  have evi : vi = .ref a := by
    cases hi2 with
    | ref _ z => exact z a hk
  subst evi
  have hil : i < δ.length := (List.getElem?_eq_some_iff.mp hδ).1
  have sl' : SlOk (gm cl X) (upd H a (.frz o (.lst vs))) (ρ.set k none) σ (δ.set i (some (.lst xs))) := by
    refine ⟨by rw [List.length_set]; exact hs.1, fun j d e => ?_⟩
    by_cases hj : i = j
    · subst hj
      rw [List.getElem?_set_self hil] at e
      cases e
      exact ⟨_, hi1, .lst upd_same ((rl.step ab.live stk))⟩
    · rw [List.getElem?_set_ne hj] at e
      exact (hs.step ab.live stk).2 j d e
  refine ⟨ρ.set k none, δ.set i (some (.lst xs)), L.set k .dead, sl', abk, ?_⟩
  cases hr : f (δ.set i (some (.lst xs))) (L.set k .dead) with
  | bad => rw [hr] at q; exact q.elim
  | err y L' => rw [hr] at q; exact q.elim
  | ok d L' =>
    rw [hr] at q
    simp only at q
    by_cases hc : (d.noL && L'.all MO.noL) = true ∧ k < L'.length
    case neg => rw [if_neg hc] at q; exact q.elim
    rw [if_pos hc] at q
    obtain ⟨hc1, hk2⟩ := hc
    rw [Bool.and_eq_true, List.all_eq_true] at hc1
    obtain ⟨hd, hno⟩ := hc1
    intro H' ρ' st ab' v rv
    have nl : ∀ j : Nat, (ρ.set k none)[j]? ≠ some (some a) := notLive abk.live upd_same (fun z => z)
    have ha' : H' a = some (.frz o (.lst vs)) := st.fr a _ upd_same nt_frz nl
    refine ⟨ha', ?_⟩
    have hk' : k < ρ'.length := by rw [ab'.len]; exact hk2
    have hlen : ρ.length ≤ ρ'.length := by have := st.len; rw [List.length_set] at this; exact this
    have sp : ∀ (j : Nat) b, (ρ'.set k (some a))[j]? = some (some b) → (j = k ∧ b = a) ∨ (j ≠ k ∧ ρ'[j]? = some (some b)) := fun j b e => by
      by_cases hj : k = j
      · subst hj
        rw [List.getElem?_set_self hk'] at e
        exact .inl ⟨rfl, ((Option.some.inj (Option.some.inj e)).symm)⟩
      · rw [List.getElem?_set_ne hj] at e
        exact .inr ⟨Ne.symm hj, e⟩
    have nA : ∀ j : Nat, ρ'[j]? ≠ some (some a) := notLive ab'.live ha' (fun z => z)
    have fin : Step H ρ (upd H' a (.lst vs)) (ρ'.set k (some a)) := by
      refine ⟨by rw [List.length_set]; exact hlen, fun j b hj e => ?_, fun j b u hj e hu => ?_, fun b u hu n m => ?_, fun b u hu n => ?_⟩
      · rcases sp j b e with ⟨rfl, rfl⟩ | ⟨hn, e2⟩
        · exact hk
        · have := st.old j b (by rw [List.length_set]; exact hj) e2
          rw [List.getElem?_set_ne (Ne.symm hn)] at this
          exact this
      · rcases sp j b e with ⟨rfl, rfl⟩ | ⟨hn, e2⟩
        · exact absurd hkl (by omega)
        · have hb : b ≠ a := fun z => nA j (z ▸ e2)
          exact st.new j b u (by rw [List.length_set]; exact hj) e2 (by rw [upd_ne hb]; exact hu)
      · have hb : b ≠ a := fun z => m k (by rw [z]; exact hk)
        rw [upd_ne hb]
        refine st.fr b u (by rw [upd_ne hb]; exact hu) n fun j z => ?_
        by_cases hj : k = j
        · subst hj
          rw [List.getElem?_set_self hkl] at z
          cases z
        · rw [List.getElem?_set_ne hj] at z
          exact m j z
      · by_cases hb : b = a
        · subst hb
          exact ⟨_, upd_same, nt_lst⟩
        · obtain ⟨u', h1, h2⟩ := st.dom b u (by rw [upd_ne hb]; exact hu) n
          exact ⟨u', by rw [upd_ne hb]; exact h1, h2⟩
    have lv : ∀ (j : Nat) (b : Addr), ρ'[j]? = some (some b) → b ≠ a := fun j b e z => nA j (z ▸ e)
    have ab2 : AbsL (gm cl X) (upd H' a (.lst vs)) (ρ'.set k (some a)) (L'.set k (.lst xs)) := by
      refine ⟨by rw [List.length_set, List.length_set]; exact ab'.len, fun j m hm => ?_, fun j b e => ?_, fun j1 j2 b e1 e2 => ?_, tabs_upd ab'.tab (fun ps z => by rw [ha'] at z; cases z) (fun q z => by rw [ha'] at z; cases z)⟩
      · by_cases hj : k = j
        · subst hj
          rw [List.getElem?_set_self hk2] at hm
          cases hm
          exact ⟨some a, List.getElem?_set_self hk', a, vs, rfl, upd_same, rl.step ab.live fin⟩
        · rw [List.getElem?_set_ne hj] at hm
          obtain ⟨sl, h1, h2⟩ := ab'.obj j m hm
          have hn := hno m (List.mem_of_getElem? hm)
          refine ⟨sl, by rw [List.getElem?_set_ne hj]; exact h1, ?_⟩
          cases m with
          | dead => exact h2
          | lst ys =>
            obtain ⟨b, ws, rfl, g2, g3⟩ := h2
            exact ⟨b, ws, rfl, by rw [upd_ne (lv j b h1)]; exact g2, g3.unlock ha' hn⟩
          | dct ys =>
            obtain ⟨b, es, ep, rfl, g2, g3⟩ := h2
            exact ⟨b, es, ep, rfl, by rw [upd_ne (lv j b h1)]; exact g2, g3.unlock ha' hn⟩
          | ins _ _ => exact absurd hn Bool.false_ne_true
      · rcases sp j b e with ⟨rfl, rfl⟩ | ⟨hn, e2⟩
        · rw [upd_same]; exact True.intro
        · rw [upd_ne (lv j b e2)]; exact ab'.live j b e2
      · rcases sp j1 b e1 with ⟨rfl, rfl⟩ | ⟨hn, e3⟩ <;> rcases sp j2 b e2 with ⟨h5, h6⟩ | ⟨hn2, e4⟩
        · exact h5.symm
        · exact absurd e4 (nA j2)
        · exact absurd (h6 ▸ e3) (nA j1)
        · exact ab'.inj j1 j2 b e3 e4
    exact q _ _ fin ab2 v (Rep.unlock ha' hd rv)
variable {k : Nat} {ps : List Str} {F : Fn} {x : Str} {p pos : Pos} {es : List Expr} {fs : Av}
/-- a call that tells a pair: data, and a list of its own -/
theorem cT (n : Nat) (G : OkFn cl X.prog X.w X.K X.mg X.base x ps k F) (hr : Room k X.A) (ha : DA cl W0 X (e :: es) fs) (hn : ps.length = n := by rfl) (hg : Gl X x := by rfl) (hdb : (x == ("__debug__" : Str)) = false := by decide) (he : starEach (e :: es) X.env = (false, eval e X.env) :: starEach es X.env := by rfl) (hpl : (backTo pos (starEach es X.env)).any (·.1) = false := by rfl) :
    DE cl W0 X (.Call (.Name x p) (e :: es) [] pos) (eCallT n F fs) := by
  obtain ⟨fa, fd, hm, hk, hb, G⟩ := G
  subst hn
  refine imp_e (pe_call G hr hg hm hk hb .nil pass0 ha hdb he hpl) fun σ H Q h => ?_
  obtain ⟨ρ, δ, L, hs, ha, h⟩ := h
  refine ⟨ρ, δ, L, hs, ha, After.mono (After.andThen h) fun ds H1 ρ1 L1 st1 a1 h1 vs rv => ?_⟩
  show sp0 cl X.w X.K _ F (vs ++ []) H1 Q E0
  rw [List.append_nil]
  by_cases hf : ds.length = ps.length ∧ D.flatL ds = true
  case neg => rw [if_neg hf] at h1; exact h1.elim
  rw [if_pos hf] at h1
  refine ⟨by rw [← rv.length]; exact hf.1, [], ds, [], rv.flat hf.2, .nil a1.tab, ?_⟩
  split at h1
  case h_2 => exact h1.elim
  rename_i x0 kk L2 eF
  split at h1
  case h_2 => exact h1.elim
  rename_i xs em
  by_cases hc : x0.flat = true ∧ D.flatL xs = true
  case neg => rw [if_neg hc] at h1; exact h1.elim
  rw [if_pos hc] at h1
  rw [eF]
  intro H' ρ' st ab v rd
  have same : ∀ a o, Nt o → H1 a = some o → H' a = some o := fun a o n q => st.fr a o q n fun i z => by simp at z
  cases rd with
  | tup hq rr =>
    cases rr with
    | cons r0 rr =>
      cases rr with
      | cons r1 rr =>
        cases rr
        obtain ⟨sl, o1, a, vs', rfl, o2, o3⟩ := ab.obj kk _ em
        rename_i v0 v1
        have hv : v1 = .ref a := by
          cases r1 with
          | ref _ z => exact z a o1
        subst hv
        have hp : ∀ o, H1 a = some o → ¬ Nt o := fun o => st.new kk a o (Nat.zero_le _) o1
        obtain ⟨s2, a2, r2⟩ := a1.adopt (m := .lst xs) ab.tab same hp (ab.live kk a o1) ⟨a, vs', rfl, o2, o3.flat hc.2⟩
        exact h1 H' _ s2 a2 _ (.tup hq (.cons (r0.flat hc.1) (.cons r2 .nil)))
end
end Df
/-! a call that tells a pair, or raises -/
namespace Df
open PySem PySem.Spec PyProof.Rows L2
section
variable {cl : Cl} {X : Cx} {E : XK} {k : Nat} {ps : List Str} {F : Fn} {x : Str} {p pos : Pos} {e : Expr} {es : List Expr} {fs : Av}
theorem cTX (n : Nat) (G : OkFnX cl X.prog X.w X.K X.mg X.base x ps k F) (hr : Room k X.A) (tk : Takes X (WE E)) (ha : DA cl (WE E) X (e :: es) fs) (hn : ps.length = n := by rfl) (hg : Gl X x := by rfl) (hdb : (x == ("__debug__" : Str)) = false := by decide) (he : starEach (e :: es) X.env = (false, eval e X.env) :: starEach es X.env := by rfl) (hpl : (backTo pos (starEach es X.env)).any (·.1) = false := by rfl) :
    DE cl (WE E) X (.Call (.Name x p) (e :: es) [] pos) (eCallTX n F fs) := by
  obtain ⟨fa, fd, hm, hk, hb, G⟩ := G
  subst hn
  refine imp_e (pe_call G hr hg hm hk hb .nil (passes_call tk (E := E) fun _ _ _ _ h => h) ha hdb he hpl) fun σ H Q h => ?_
  obtain ⟨ρ, δ, L, hs, ha, h⟩ := h
  refine ⟨ρ, δ, L, hs, ha, After.mono (After.andThen h) fun ds H1 ρ1 L1 st1 a1 h1 vs rv => ?_⟩
  show spX cl X.w X.K _ F (vs ++ []) H1 Q E
  rw [List.append_nil]
  by_cases hf : ds.length = ps.length ∧ D.flatL ds = true
  case neg => rw [if_neg hf] at h1; exact h1.elim
  rw [if_pos hf] at h1
  refine ⟨by rw [← rv.length]; exact hf.1, [], ds, [], rv.flat hf.2, .nil a1.tab, ?_⟩
  split at h1
  case h_3 => exact h1.elim
  case h_2 y Ly eF =>
    rw [eF]
    show ∀ cls dx H' ρ', _
    intro cls dx H' ρ' st hx ab
    by_cases hy : y.v.flat = true
    · rw [if_pos hy] at h1
      have same : ∀ a o, Nt o → H1 a = some o → H' a = some o := fun a o n q => st.fr a o q n fun i z => by simp at z
      obtain ⟨s2, a2⟩ := a1.same ab.tab same
      refine h1 cls dx H' ρ1 s2 ⟨hx.1, ?_⟩ a2
      rcases hx.2 with z | ⟨zn, d, f, v, z1, z2, z3, z4⟩
      · exact .inl z
      · exact .inr ⟨zn, d, f, v, z1, z2, z3.flat hy, z4⟩
    · rw [if_neg hy] at h1; exact h1.elim
  rename_i x0 kk L2 eF
  split at h1
  case h_2 => exact h1.elim
  rename_i xs em
  by_cases hc : x0.flat = true ∧ D.flatL xs = true
  case neg => rw [if_neg hc] at h1; exact h1.elim
  rw [if_pos hc] at h1
  rw [eF]
  intro H' ρ' st ab v rd
  have same : ∀ a o, Nt o → H1 a = some o → H' a = some o := fun a o n q => st.fr a o q n fun i z => by simp at z
  cases rd with
  | tup hq rr =>
    cases rr with
    | cons r0 rr =>
      cases rr with
      | cons r1 rr =>
        cases rr
        obtain ⟨sl, o1, a, vs', rfl, o2, o3⟩ := ab.obj kk _ em
        rename_i v0 v1
        have hv : v1 = .ref a := by
          cases r1 with
          | ref _ z => exact z a o1
        subst hv
        have hp : ∀ o, H1 a = some o → ¬ Nt o := fun o => st.new kk a o (Nat.zero_le _) o1
        obtain ⟨s2, a2, r2⟩ := a1.adopt (m := .lst xs) ab.tab same hp (ab.live kk a o1) ⟨a, vs', rfl, o2, o3.flat hc.2⟩
        exact h1 H' _ s2 a2 _ (.tup hq (.cons (r0.flat hc.1) (.cons r2 .nil)))
end
end Df
/-! raise C(e), C's own __init__ keeping a number -/
namespace Df
open PySem PySem.Spec PyProof.Rows L2
section
variable {X : Cx} {e : Expr} {es : List Expr} {ta : TA} {b : Str} {C0 : Addr} {mc : Value} {p1 p2 pos : Pos}
/-- B.__init__(self, ..), B an own class without one of its own -/
theorem pe_oinit {pl : Sem Bool} (hg : Gl X b) (hm : X.mg b = some (.ref C0)) (hsp : PySem.W.specialIn X.K (.ref C0) "__getattribute__" = some (some (.builtin "type.__getattribute__"))) (hty : PySem.W.typeIn X.K (.ref C0) = some mc) (hrd : PySem.W.readsIn X.K C0 mc = true)
    (hfc : PySem.W.findCls X.K (.ref C0) mc "__init__" = some (.val (.builtin "ValueError.__init__"))) (ha : PA X (e :: es) ta) (hdb : (b == ("__debug__" : Str)) = false := by decide)
    (hc : eval (.Call (.Attribute (.Name b p1) "__init__" p2) (e :: es) [] pos) X.env = (do
      let ov ← eval (.Name b p1) X.env
      standAt p2.atName
      let (f, first) ← holding [ov] (getMethod ov "__init__" pl)
      callWith pos f first (backTo pos (starEach (e :: es) X.env)) (backToKw pos (keywordEach [] X.env))) := by rfl)
    (he : starEach (e :: es) X.env = (false, eval e X.env) :: starEach es X.env := by rfl) (hpl : (backTo pos (starEach es X.env)).any (·.1) = false := by rfl) :
    PE X (.Call (.Attribute (.Name b p1) "__init__" p2) (e :: es) [] pos) (tVeI X.K ta) := by
  refine ⟨fun pins s σ H Q I h => ?_⟩
  refine PySem.W.methodCall_KW (ld_glob I hg hm ?_ hdb) hc
  obtain ⟨m, fr⟩ := I.fr
  refine PySem.W.method_of_cls fr I.ok.mod.kin hsp (PySem.W.cls_val fr I.ok.mod.kin hty hrd hfc (by decide +kernel) ?_)
  show wpAny _ _ (callWith pos (Value.builtin "ValueError.__init__") [] (backTo pos (starEach (e :: es) X.env)) []) _ _ _
  refine PyProof.Rows.callWith_method1 (thn (ha.run pos pins _ σ H _ ((I.tok _).tok _) h) fun us s1 ⟨vs, H1, I1, r1, a, C, ws, ev, hl, T, ea, q⟩ => ?_) he hpl
  subst ev
  cases r1 with
  | @cons _ u0 _ ur ra rw' =>
    obtain rfl : u0 = Value.ref a := ra
    have hlen : ur.length ≤ sizeLine := by
      rw [← Paired.length rw', sizeLine_eq]
      omega
    exact oinit_ok T I1 ea hlen fun s' J => ⟨.non, H1, J, rfl, q⟩
end
end Df
namespace Df
open PySem PySem.Spec PyProof.Rows L2
/-- what C.__init__(self, i) does -/
def spI (C : Addr) (fld : Str) : Sp := fun vs H Q _ => ∃ (a : Addr) (i : Int), vs = [.ref a, .int i] ∧ i.natAbs.log2 < 1920 ∧ H a = some (exo a C none) ∧ ∀ dx, H dx = none → dx ≠ a → Q .non (upd (upd H dx (exd dx [(fld, .int i)])) a (exo a C (some dx)))
theorem str_len_app (a b : Str) : (a ++ b).length = a.length + b.length := by
  show (a.cps ++ b.cps).size = _
  rw [Array.size_append]; rfl
section
variable {P : Program} {w : World} {K : PySem.W.Frag} {mg : Str → Option Value} {base : Heap}
/-- def __init__(self, n): B.__init__(self, f"txt{n}"); self.n = n -/
theorem init_ok {qual txt fld : Str} {st : Stmt} {f C C0 : Addr} {fd : FuncData} {mc : Value} {k j : Nat} {p1 p2 p3 p4 p5 p6 p7 p8 p9 p10 p11 p12 p13 : Pos} (F : Fun K "__init__" qual st f fd) (S : FnScope ["self", fld] ["self", fld] (defScope st)) (T : OexC K C)
    (hb : defBody st = [.Expr (.Call (.Attribute (.Name "TermError" p1) "__init__" p2) [.Name "self" p3, .JoinedStr [.Constant (.str txt) j p4, .FormattedValue (.Name fld p5) (-1) none p6] p7] [] p8) p9, .Assign [.Attribute (.Name "self" p10) fld p11] (.Name fld p12) p13]) (htx : txt.length ≤ 1000)
    (hno : PySem.W.findIn K (.ref C) fld = some none) {pl : Env → Sem Bool}
    (hc : ∀ env : Env, eval (.Call (.Attribute (.Name "TermError" p1) "__init__" p2) [.Name "self" p3, .JoinedStr [.Constant (.str txt) j p4, .FormattedValue (.Name fld p5) (-1) none p6] p7] [] p8) env = (do
      let ov ← eval (.Name "TermError" p1) env
      standAt p2.atName
      let (f, first) ← holding [ov] (getMethod ov "__init__" (pl env))
      callWith p8 f first (backTo p8 (starEach [.Name "self" p3, .JoinedStr [.Constant (.str txt) j p4, .FormattedValue (.Name fld p5) (-1) none p6] p7] env)) (backToKw p8 (keywordEach [] env))))
    (hge : (defScope st).names.lookup ("TermError" : Str) = some NameKind.globalImplicit) (hv0 : Vis (defScope st) "self") (hv1 : Vis (defScope st) fld) (hd1 : (fld == ("__debug__" : Str)) = false) (hcd1 : (fld == ("__classdict__" : Str)) = false)
    (hm : mg "TermError" = some (.ref C0)) (hsp : PySem.W.specialIn K (.ref C0) "__getattribute__" = some (some (.builtin "type.__getattribute__"))) (hty : PySem.W.typeIn K (.ref C0) = some mc) (hrd : PySem.W.readsIn K C0 mc = true)
    (hfc : PySem.W.findCls K (.ref C0) mc "__init__" = some (.val (.builtin "ValueError.__init__"))) :
    FnOk P w K mg base L2.CX0 (k + 1) f fd ["self", fld] (spI C fld) := by
  refine F.ok S (fun vs H Q E h => ?_) fun cdv A outer s H vs Q E hr h => ?_
  · obtain ⟨a, i, rfl, _⟩ := h
    rfl
  · obtain ⟨a, i, rfl, hi, ha, h⟩ := h
    rw [hb]
    have v0 : ∀ p, PE (cxOf L2.CX0 P w K mg base ["self", fld] qual (defScope st) f cdv A outer s H E).nox (.Name "self" p) (tVar 0) := fun p => pv 0 (X := (cxOf L2.CX0 P w K mg base ["self", fld] qual (defScope st) f cdv A outer s H E).nox) rfl hv0
    have v1 : ∀ p, PE (cxOf L2.CX0 P w K mg base ["self", fld] qual (defScope st) f cdv A outer s H E).nox (.Name fld p) (tVar 1) := fun p => pe_var (X := (cxOf L2.CX0 P w K mg base ["self", fld] qual (defScope st) f cdv A outer s H E).nox) rfl hv1 hd1 hcd1
    refine ⟨_, pss_cons (ps_expr (pe_oinit (X := (cxOf L2.CX0 P w K mg base ["self", fld] qual (defScope st) f cdv A outer s H E).nox) hge hm hsp hty hrd hfc (pa_cons (v0 p3) (pa_cons (pe_joined (.cons pe_str (.cons (pe_fmt (v1 p5)) .nil))) pa_nil)) (by decide) (hc _))) (pss_one (ps_ost (v0 p10) (v1 p12))), ?_⟩
    have hz : (Str.empty ++ txt).length ≤ sizeLine := by
      rw [str_len_app]
      have : Str.empty.length = 0 := rfl
      have h2 : 1000 ≤ sizeLine := by decide
      omega
    have hl : ((toString i : String) : Str).length ≤ 1921 := int_text_len_1921 hi
    have hz2 : (Str.empty ++ txt ++ ((toString i : String) : Str)).length ≤ sizeLine := by
      rw [str_len_app, str_len_app]
      have : Str.empty.length = 0 := rfl
      have h2 : 3000 ≤ sizeLine := by decide
      omega
    refine ⟨.ref a, rfl, txt, rfl, hz, .int i, rfl, ?_⟩
    refine .inr ⟨i, rfl, hi, _, rfl, hz2, a, C, _, rfl, by simp, T, ha, ?_⟩
    exact ⟨.int i, rfl, .ref a, rfl, a, C, rfl, T, hno, .inl ⟨ha, fun dx n ne => h dx n ne⟩⟩
end
/-- a class of errors that keeps a number -/
structure ErrV (cl : Cl) (K : PySem.W.Frag) (mg : Str → Option Value) (c : String) (fld : Str) : Prop where
  gC : mg c = some (.ref (cl.f c))
  oex : OexC K (cl.f c)
  nof : PySem.W.findIn K (.ref (cl.f c)) fld = some none
  ini : ∃ (fI : Addr) (fd : FuncData), PySem.W.findIn K (.ref (cl.f c)) "__init__" = some (some (.ref fI)) ∧ PySem.W.typeIn K (.ref fI) = some (.type "function") ∧ (∀ (P : Program) (w : World) (base : Heap), FnOk P w K mg base L2.CX0 1 fI fd ["self", fld] (spI (cl.f c) fld)) ∧ L2.Binds K fd ["self", fld] []
section
variable {cl : Cl} {X : Cx} {W : WX} {e : Expr} {f : Ev} {p pos pos' : Pos}
theorem ds_raise1 {c : String} {fld : Str} (Cc : ErrV cl X.K X.mg c fld) (hfl : fld = fldOf c) (hr : Room 2 X.A) (hc : X.calm = true) (tk : Takes X W) (he : DE cl W0 X e f) (hg : Gl X c := by rfl) (hdb : ((c : Str) == ("__debug__" : Str)) = false := by decide)
    (hs : starEach [e] X.env = (false, eval e X.env) :: starEach [] X.env := by rfl) (hpl : (backTo pos (starEach [] X.env)).any (·.1) = false := by rfl) :
    DS cl W X (.Raise (some (.Call (.Name c p) [e] [] pos)) none pos') (sRaise1 c f) := by
  obtain ⟨fI, fd, h1, h2, h3, h4⟩ := Cc.ini
  refine imp_s (ps_raise hc tk (pmk_oex Cc.oex h1 h2 (h3 X.prog X.w X.base) hr h4 .nil pass0 hg Cc.gC (pa_cons he pa_nil hs) hdb hs hpl)) fun D σ H h => ?_
  obtain ⟨ρ, δ, L, hsl, ab, h⟩ := h
  unfold sRaise1 at h
  cases e1 : f δ L with
  | bad => rw [e1] at h; exact h.elim
  | err y L1 => rw [e1] at h; exact h.elim
  | ok d L1 =>
    rw [e1] at h
    refine ⟨ρ, δ, L, hsl, ab, ?_⟩
    rw [e1]
    intro H1 ρ1 st a1 v rv
    simp only [R.noErr, R.andThen] at h
    cases d with
    | int i =>
      cases rv
      simp only at h
      by_cases hi : i.natAbs.log2 < 1920
      · rw [if_pos hi] at h
        refine ⟨by simp, fun a ha => ⟨a, i, rfl, hi, upd_same, fun dx n ne => ⟨rfl, dx, [(fld, V.int i)], upd_same, ?_, ?_, ?_⟩⟩⟩
        · rw [upd_ne ne]; exact upd_same
        · rwa [upd_ne ne] at n
        · have n1 : H1 dx = none := by rwa [upd_ne ne] at n
          have eH : upd (del (upd (upd (upd H1 a (exo a (cl.f c) none)) dx (exd dx [(fld, V.int i)])) a (exo a (cl.f c) (some dx))) a) dx (.xd [(fld, V.int i)]) = upd H1 dx (.xd [(fld, V.int i)]) := by
            funext b
            by_cases hb : b = dx
            · subst hb
              rw [upd_same, upd_same]
            · rw [upd_ne hb, upd_ne hb]
              by_cases hba : b = a
              · subst hba
                rw [del_same, ha]
              · rw [del_ne hba, upd_ne hba, upd_ne hb, upd_ne hba]
          rw [eH]
          exact h _ (some dx) σ _ ρ1 (st.trans (Step.grow n1)) ⟨rfl, .inr ⟨fun z => (nomatch z), dx, fld, V.int i, rfl, upd_same, Rep.int i, hfl⟩⟩ (a1.grow n1)
      · rw [if_neg hi] at h; exact h.elim
    | _ => exact (show False from h).elim
end
def oexIn (K : PySem.W.Frag) (C : Addr) : Bool := match K.lookup C with
  | some ⟨.type "type", _, .cls cd, sl⟩ => (match cd.mro, sl.toList with
    | .ref C' :: bm, [_, _, _, _, some (.builtin n), _] => C' == C && n == "ValueError.__new__" && !cd.hasDel && cd.hasDict && PySem.HandSPX.refsVE bm
    | _, _ => false)
  | _ => false
theorem oex_of {K : PySem.W.Frag} {C : Addr} (q : oexIn K C = true) (sa : PySem.W.findIn K (.ref C) "__setattr__" = some (some (.builtin "object.__setattr__"))) (sb : PySem.W.subIn K (.ref C) (.type "BaseException") = some true)
    (ty : PySem.W.typeIn K (.ref C) = some (.type "type")) (kc : PySem.W.keepIn K (.ref C) = true) : OexC K C := by
  refine ⟨?_, sa, sb, ty, kc⟩
  unfold oexIn at q
  split at q
  · rename_i dd cd sl ho
    split at q
    · rename_i C' bm k0 k1 k2 k3 n k5 hm hs
      simp only [Bool.and_eq_true, beq_iff_eq, Bool.not_eq_true'] at q
      obtain ⟨⟨⟨⟨rfl, rfl⟩, hdel⟩, hdict⟩, ht⟩ := q
      obtain ⟨nm, bs, mro, ns, qn, hd, sn, sub, ab, col, del⟩ := cd
      dsimp only at hm hdel hdict
      subst hm hdel hdict
      have hsl : sl = #[k0, k1, k2, k3, some (.builtin "ValueError.__new__"), k5] := by
        obtain ⟨l⟩ := sl
        simp only at hs
        rw [hs]
      subst hsl
      exact ⟨nm, qn, ns, bs, bm, sn, sub, ab, col, dd, k0, k1, k2, k3, k5, ho, ht⟩
    · cases q
  · cases q
/-- the k-th of a class's own statements -/
def mth (st : Stmt) (k : Nat) : Stmt := match st with
  | .ClassDef _ _ _ body _ _ _ _ _ _ _ => body.getD k (.Pass ⟨0, 0, 0, 0⟩)
  | s => s
end Df
/-! errors that keep a number, held: isinstance, the number, the word -/
namespace PySem.W
open PySem PySem.Spec PySem.Calls PyProof.Rows
section
variable {prog : Program} {w : World} {A : Around} {E : Value → Shared → Prop} {s : Shared} {K : Frag} {x D : Addr} {ox : Obj} {od : Option Obj}
theorem kin_classE2 {Q : Option Value → Shared → Prop} (hga : findIn K (.ref D) "__getattribute__" = some (some (.builtin "BaseException.__getattribute__"))) (hgt : findIn K (.ref D) "__getattr__" = some none) (hsub : subIn K (.ref D) (.type "BaseException") = some true)
    (hdct : hasDictIn K D = true) (ha : findIn K (.ref D) "__class__" = some (some (.builtin "object.__class__")))
    (hn : specialIn K (.builtin "object.__class__") "__get__" = some (some (.builtin "getset_descriptor.__get__"))) (htk : takesIn K (.builtin "object.__class__") = some true) (hm : mroIn K D (.type "object") = some true)
    (X : K.In s.heap) (I : InstAt s.heap x ox D od) (h : Q (some (.ref D)) { s with toks := s.toks + 1 }) : wpAny (model prog w) A (getAttr? (.ref x) "__class__") Q E s := by
  have hf : findObj K D od "__class__" = some (.bind (.builtin "getset_descriptor.__get__") (.builtin "object.__class__")) := by
    cases od with
    | none => exact findObj_dataN (by obtain ⟨cd, hc, _⟩ := any_some hdct; rw [hc]; rfl) ha hn htk
    | some od => exact findObj_data (by obtain ⟨cd, hc, _⟩ := any_some hdct; rw [hc]; rfl) ha hn htk
  obtain ⟨hp, g, d, t, os⟩ := s
  have L0 := I.type (M := model prog w)
  have L1 := looks_findIn (M := model prog w) X hga
  have L2 := looks_findIn (M := model prog w) X hgt
  have L3 := looks_find (M := model prog w) X I hf
  have sub : Looks (model prog w) hp (isInstance (.ref x) (.type "BaseException")) true := L0.andThen (looks_subIn X hsub)
  have hx0 : (false && onTheHeap (Value.builtin "BaseException.__getattribute__")) = false := rfl
  have hx2 : (Value.builtin "BaseException.__getattribute__" == Value.builtin "object.__getattribute__") = false := by decide +kernel
  have hx1 : (onTheHeap (Value.ref D) && Value.builtin "BaseException.__getattribute__" == Value.builtin "object.__getattribute__") = false := by rw [hx2]; rfl
  unfold getAttr? getAttrBy? getAttrBy
  refine wpAny_bind (wpAny_mkText (wpAny_bind (wpAny_attempt (wpAny_holding (wpAny_bind (L0.at (wpAny_bind (L1.at ?_))))))))
  show wpAny _ _ (if (onTheHeap (Value.ref D) && Value.builtin "BaseException.__getattribute__" == Value.builtin "object.__getattribute__") = true then _ else _) _ _ _
  rw [hx1, if_neg Bool.false_ne_true]
  unfold getAttrByItsOwn hookBefore
  refine wpAny_bind ?_
  rw [if_pos (show onTheHeap (Value.ref D) = true from rfl)]
  refine L2.at ?_
  refine wpAny_bind (wpAny_attempt (wpAny_holding ?_))
  unfold callGetattribute
  rw [hx0, if_neg Bool.false_ne_true]
  unfold boundAndCalled
  rw [PySem.F.excAttr_ValueError.ga.bind (.ref x)]
  refine wpAny_bind (wpAny_pure ?_)
  show wpAny _ _ (call (.builtin "BaseException.__getattribute__") [.ref x, .str "__class__" t]) _ _ _
  refine wpAny_call (codeAny_call_builtin PySem.F.excAttr_ValueError.ga.plain PySem.F.entry_bexc_ga ?_)
  refine @check_slot (model prog w) _ _ ⟨hp, g, d, t + 1, os⟩ "BaseException.__getattribute__" "BaseException" "__getattribute__" (.ref x) [.str "__class__" t] [] _ (by decide +kernel) (by decide +kernel) sub (PySem.F.args_bexc_ga (.ref x) (.str "__class__" t)) ?_
  unfold Builtin.«object.__getattribute__»
  refine wpAny_bind (wpAny_of_eq (a := ((Value.ref x : Value), [Value.str "__class__" t])) (by first | rfl | (simp only [slotArgs]; rfl)) ?_)
  refine wpAny_bind (wpAny_pure (wpAny_bind (L0.at (wpAny_bind (L3.at ?_)))))
  show wpAny _ _ (holding [Value.builtin "object.__class__"] (call (.builtin "getset_descriptor.__get__") [.builtin "object.__class__", .ref x, .ref D]) >>= ret) _ _ _
  refine wpAny_bind (wpAny_holding (wpAny_call (class_get (s := ⟨hp, g, d, t + 1, os⟩) (ox := ox) (od := od) X I hm ?_)))
  refine wpAny_pure ?_
  show wpAny _ _ (handedOut (.ref D)) _ _ _
  rw [handedOut_of (v := .ref D) rfl]
  first
    | exact wpAny_pure (wpAny_pure h)
    | exact wpAny_pure h
    | exact wpAny_pure (wpAny_bind (wpAny_pure (wpAny_pure h)))
theorem handS_kitx_exc2 (hga : findIn K (.ref D) "__getattribute__" = some (some (.builtin "BaseException.__getattribute__"))) (hgt : findIn K (.ref D) "__getattr__" = some none) (hsub : subIn K (.ref D) (.type "BaseException") = some true) (hdct : hasDictIn K D = true) (ha : findIn K (.ref D) "__class__" = some (some (.builtin "object.__class__")))
    (hn : specialIn K (.builtin "object.__class__") "__get__" = some (some (.builtin "getset_descriptor.__get__"))) (htk : takesIn K (.builtin "object.__class__") = some true) (hm : mroIn K D (.type "object") = some true) :
    KitX K (.ref x) (.ref D) (fun h => InstAt h x ox D od) where
  ty := fun _ _ _ I => I.type
  it := fun _ _ X _ => by
    obtain ⟨cdD, hcD, _⟩ := any_some hdct
    unfold clsIn at hcD
    split at hcD
    · rename_i c' d' cd' sl' ho
      intro A' Q' E' s' k q
      unfold isType loadHead
      exact wpAny_bind (wpAny_loadPart (k _ _ (X _ _ ho)) (wpAny_pure q))
    · cases hcD
  ne := fun h tp dd its n sl X htp => by
    obtain ⟨cdD, hcD, _⟩ := any_some hdct
    refine Bool.eq_false_iff.mpr fun q => ?_
    have e : D = tp := Value.ref.inj (beq_iff_eq.mp q)
    subst e
    unfold clsIn at hcD
    split at hcD
    · rename_i c' d' cd' sl' ho
      have z := (X _ _ ho).symm.trans htp
      cases z
    · cases hcD
  ca := fun X I k => kin_classE2 hga hgt hsub hdct ha hn htk hm X I k
end
end PySem.W
namespace Df
open PySem PySem.Spec PyProof.Rows L2 LamX
/-- isinstance(e, c), e the exception that the suite holds, its dict at dd -/
def rIsE2 (K : PySem.W.Frag) (D a dd : Addr) : List V → Hp → VK → Prop := fun xs H Q => ∃ (c : V) (cv : Value) (b : Bool), xs = [.ref a, c] ∧ (∀ u, RelV c u → u = cv) ∧ PySem.W.kitOne K (.ref D) cv = some b ∧ (∃ fs, H dd = some (.xd fs)) ∧ Q (.bl b) H
theorem call_isE2 {X : Cx} {a D dd : Addr} {oe : Obj} {pn : List (Addr × Obj)} (C : ExcC X.K D) (hz : Zc (.ref D) (some dd) oe) (hf : ∃ vs, oe.data = .fields vs) : CallR (X.suite a ((a, oe) :: pn)) (.builtin "isinstance") (rIsE2 X.K D a dd) := by
  intro pins s σ H xs us Q I r h
  obtain ⟨c, cv, b, rfl, hcv, e, ⟨fs, hd⟩, q⟩ := h
  cases r with
  | cons rx rr =>
    cases rr with
    | cons rt rr =>
      cases rr
      cases rx
      have ec := hcv _ rt
      subst ec
      obtain ⟨hget, _⟩ := I.pin (a, oe) (List.mem_append.mpr (.inl List.mem_cons_self))
      obtain ⟨vs, hv⟩ := hf
      have hx : ObjOk X.prog X.w H s.heap dd (.xd fs) := I.hok dd _ hd
      obtain ⟨mA, hns, hr⟩ := hx
      obtain ⟨od, ho, hl⟩ := lookIn_ns hns
      have J : PySem.W.InstAt s.heap a oe D (some od) := ⟨hget, hz.1, by unfold PySem.W.notCls; rw [hv] <;> rfl, by rw [hz.2]; exact ho⟩
      exact PySem.W.kia_one (PySem.W.handS_kitx_exc2 C.hg C.hk C.hs C.hd C.ha C.hn C.ht C.hm) I.kIn J e (fun z => nomatch z) fun tk => ⟨.bl b, H, I.kept (t' := tk) fun _ _ z => z, rfl, q⟩
abbrev clv (cl : Cl) (a : Addr) (c0 : String) (dd : Addr) (i : Int) : Cl := ⟨cl.f, cl.T, fun a' c v => a' = a ∧ c = c0 ∧ v = .int i, [(dd, [(fldOf c0, .int i)])]⟩
section
variable {cl : Cl} {X : Cx} {W : WX} {a dd : Addr} {i : Int} {oe : Obj} {pn : List (Addr × Obj)} {c0 : String} {p q pos : Pos} {e : Expr} {f : Ev}
theorem isx_core2 {c : V} {cv : Value} {cs : List String} {ec : Expr} (h : HoldC cl X.K c0) (hz : Zc (.ref (cl.f c0)) (some dd) oe) (hf : ∃ vs, oe.data = .fields vs) (hm : X.mg "isinstance" = none) (hc : PE (X.suite a ((a, oe) :: pn)) ec (tC c)) (hcv : ∀ u, RelV c u → u = cv)
    (hk : PySem.W.kitOne X.K (.ref (cl.f c0)) cv = some (cs.contains c0)) (he : DE (clv cl a c0 dd i) W (X.suite a ((a, oe) :: pn)) e f) (hg : Gl X "isinstance")
    (hs : starEach [e, ec] X.env = (false, eval e X.env) :: starEach [ec] X.env) (hs2 : starEach [ec] X.env = (false, eval ec X.env) :: starEach [] X.env) (hpl : (backTo pos (starEach [ec] X.env)).any (·.1) = false) :
    DE (clv cl a c0 dd i) W (X.suite a ((a, oe) :: pn)) (.Call (.Name "isinstance" p) [e, ec] [] pos) (eIsX cs f) := by
  refine imp_e (pe_callB (X := X.suite a ((a, oe) :: pn)) (call_isE2 h.ex hz hf) hg hm PyProof.Rows.boot_isinstance (pa_cons he (pa_cons hc pa_nil hs2) hs) (by decide) (by decide) hs hpl) fun σ H Q q => ?_
  obtain ⟨ρ, δ, L, hs, ha, q⟩ := q
  refine ⟨ρ, δ, L, hs, ha, After.mono (After.andThen q) fun x H1 ρ1 L1 st1 a1 h1 v rv => ?_⟩
  cases x with
  | xc c1 x1 =>
    cases rv with
    | xc g k =>
      obtain ⟨rfl, rfl, rfl⟩ := g
      exact ⟨c, cv, _, rfl, hcv, hk, ⟨_, k _ (List.mem_singleton.mpr rfl)⟩, now a1 h1 _ (.bl _)⟩
  | _ => exact (show False from h1).elim
theorem de_isx2 {C : String} (h : HoldC cl X.K c0) (hz : Zc (.ref (cl.f c0)) (some dd) oe) (hf : ∃ vs, oe.data = .fields vs) (hm : X.mg "isinstance" = none) (gC : X.mg C = some (.ref (cl.f C))) (he : DE (clv cl a c0 dd i) W (X.suite a ((a, oe) :: pn)) e f) (hC : C ∈ eight := by decide)
    (hg : Gl X "isinstance" := by rfl) (hg2 : Gl X C := by rfl) (hd : ((C : Str) == ("__debug__" : Str)) = false := by decide)
    (hs : starEach [e, .Name C q] X.env = (false, eval e X.env) :: starEach [.Name C q] X.env := by rfl) (hs2 : starEach [.Name C q] X.env = (false, eval (.Name C q) X.env) :: starEach [] X.env := by rfl) (hpl : (backTo pos (starEach [.Name C q] X.env)).any (·.1) = false := by rfl) :
    DE (clv cl a c0 dd i) W (X.suite a ((a, oe) :: pn)) (.Call (.Name "isinstance" p) [e, .Name C q] [] pos) (eIsX [C] f) :=
  isx_core2 h hz hf hm (pe_glob (X := X.suite a ((a, oe) :: pn)) (v := .ref (cl.f C)) hg2 gC rfl hd) (fun u r => r) (h.kit C hC) he hg hs hs2 hpl
theorem de_isv2 (h : HoldC cl X.K c0) (hz : Zc (.ref (cl.f c0)) (some dd) oe) (hf : ∃ vs, oe.data = .fields vs) (hm : X.mg "isinstance" = none) (hv : X.mg "ValueError" = none) (he : DE (clv cl a c0 dd i) W (X.suite a ((a, oe) :: pn)) e f)
    (hg : Gl X "isinstance" := by rfl) (hg2 : Gl X "ValueError" := by rfl)
    (hs : starEach [e, .Name "ValueError" q] X.env = (false, eval e X.env) :: starEach [.Name "ValueError" q] X.env := by rfl) (hs2 : starEach [.Name "ValueError" q] X.env = (false, eval (.Name "ValueError" q) X.env) :: starEach [] X.env := by rfl) (hpl : (backTo pos (starEach [.Name "ValueError" q] X.env)).any (·.1) = false := by rfl) :
    DE (clv cl a c0 dd i) W (X.suite a ((a, oe) :: pn)) (.Call (.Name "isinstance" p) [e, .Name "ValueError" q] [] pos) (eIsX eight f) :=
  isx_core2 h hz hf hm (pe_bltn (X := X.suite a ((a, oe) :: pn)) (v := .ty "ValueError") hg2 hv (by decide +kernel) rfl (by decide) (by decide)) (fun u r => r) h.ve he hg hs hs2 hpl
/-- e.f, the number that the exception keeps -/
theorem de_xf2 {n : Str} (h : HoldC cl X.K c0) (hno : PySem.W.findIn X.K (.ref (cl.f c0)) n = some none) (hn : n = fldOf c0) (hz : Zc (.ref (cl.f c0)) (some dd) oe) (hf : ∃ vs, oe.data = .fields vs) (he : DE (clv cl a c0 dd i) W (X.suite a ((a, oe) :: pn)) e f)
    (hb : attributeBase e n X.env (eval e X.env) = eval e X.env := by rfl) :
    DE (clv cl a c0 dd i) W (X.suite a ((a, oe) :: pn)) (.Attribute e n pos) (eXf f) := by
  refine imp_e (pe_xf (X := X) ⟨h.ex.hg, h.ex.hk, h.ex.hs, h.ex.hd⟩ hno hz hf he hb) fun σ H Q q => ?_
  obtain ⟨ρ, δ, L, hs, ha, q⟩ := q
  refine ⟨ρ, δ, L, hs, ha, After.mono (After.andThen q) fun x H1 ρ1 L1 st1 a1 h1 v rv => ?_⟩
  cases x with
  | xc c1 x1 =>
    cases rv with
    | xc g k =>
      obtain ⟨rfl, rfl, rfl⟩ := g
      refine ⟨rfl, rfl, dd, _, .int i, rfl, k _ (List.mem_singleton.mpr rfl), ?_, now a1 h1 _ (.int i)⟩
      rw [hn]
      simp [List.lookup]
  | _ => exact (show False from h1).elim
end
section
variable {cl : Cl} {X : Cx}
theorem slOk_hV {σ : L2.St} {H : Hp} {j : Nat} {a dd : Addr} {c0 : String} {i : Int} (n : Nat) (hn : n = σ.length) (hd : H dd = some (.xd [(fldOf c0, .int i)])) : SlOk (gm (clv cl a c0 dd i) X) H [] (σ.set j (some (.ref a))) (hSlV n j c0 i) := by
  subst hn
  unfold hSlV
  refine ⟨by simp, fun k d e => ?_⟩
  by_cases hj : j = k
  · subst hj
    by_cases hi : j < σ.length
    · rw [List.getElem?_set_self (by simpa using hi)] at e
      cases e
      exact ⟨_, List.getElem?_set_self hi, .xc ⟨rfl, rfl, rfl⟩ fun p hp => by rw [List.mem_singleton.mp hp]; exact hd⟩
    · rw [List.getElem?_eq_none (by simp; omega)] at e
      cases e
  · rw [List.getElem?_set_ne hj, List.getElem?_replicate] at e
    split at e <;> cases e
/-- what is wished of an error of the work -/
def EwV (cl : Cl) (X : Cx) (S : List String) (Q : VK) : XK := fun cls dx H' => ∃ c0 w i dd, c0 ∈ S ∧ wordV c0 = some w ∧ cls = .ref (cl.f c0) ∧ dx = some dd ∧ H' dd = some (.xd [(fldOf c0, .int i)]) ∧ Tabs cl.T H' ∧
  ∀ H'' p, (∀ a o, Nt o → H' a = some o → H'' a = some o) → Tabs cl.T H'' → SqT X.K H'' p [.str w, .int i] → Q (.ref p) H''
def TTv (cl : Cl) (X : Cx) (S : List String) : (XK → Hp → VK → Prop) → Hp → VK → Prop := fun tl H Q => tl (EwV cl X S Q) H (fun _ H' => Q (.str "") H')
variable {Ng : List Str} {x a en q : Str} {sg : Scope} {g : Addr} {cdg : Value} {jj j : Nat} {p1 p2 p3 p4 p5 p6 p7 p8 p9 : Pos} {b0 : Stmt} {suite : List Stmt} {sem : Sv} {S : List String}
theorem word_givesV (hge : sg.names.lookup ("TermError" : Str) = some NameKind.globalImplicit) (hme : X.mg "TermError" = some (.ref (cl.f "TermError"))) (h0 : ∀ f : Addr, (L2.start Ng [V.ref f])[0]? = some (some (V.ref f))) (hNd : Ng.Nodup) (hj : Ng[j]? = some en) (hen : sg.names.lookup en = some NameKind.local)
    (hS : ∀ c0 ∈ S, HoldC cl X.K c0) {k : Nat} (hr : Room (k + 2) X.A)
    (hsu : ∀ (s : Shared) (H : Hp) (pn : List (Addr × Obj)) (ae : Addr) (oe : Obj) (c0 : String) (dd : Addr) (i : Int), c0 ∈ S → Zc (.ref (cl.f c0)) (some dd) oe → (∃ vs, oe.data = .fields vs) → ((cxOf C8.CX0 X.prog X.w X.K X.mg X.base Ng x sg g cdg X.A X.stack s H C8.E0).nox.suite ae ((ae, oe) :: pn)).A.units + 64 < cLine → DSs (clv cl ae c0 dd i) W0 ((cxOf C8.CX0 X.prog X.w X.K X.mg X.base Ng x sg g cdg X.A X.stack s H C8.E0).nox.suite ae ((ae, oe) :: pn)) (b0 :: suite) sem)
    (hsem : ∀ c0 ∈ S, ∀ i : Int, ∃ w L', wordV c0 = some w ∧ sem (hSlV Ng.length j c0 i) [] = .ok (.rt (.tup [.str w, .int i])) L') :
    GivesTo X Ng x sg g cdg [.Try [.Expr (.Call (.Name a p1) [] [] p2) p3] [.ExceptHandler (some (.Name "TermError" p4)) (some en) (b0 :: suite) p5] [] [] p6, .Return (some (.Constant (.str "") jj p7)) p8] a q (TTv cl X S) := by
  intro f c' s H Q tl act hc h
  have hgl : Gl (cxOf C8.CX0 X.prog X.w X.K X.mg X.base Ng x sg g cdg X.A X.stack s H C8.E0).nox "TermError" := hge
  refine ⟨_, pss_cons (ps_try_as (X := (cxOf C8.CX0 X.prog X.w X.K X.mg X.base Ng x sg g cdg X.A X.stack s H C8.E0).nox) (c := .ref (cl.f "TermError")) (i := j) (Wout := fun _ _ _ _ => False)
      (tb := fun W D σ H => ∃ Ech : XK, (∀ cls d σ' H', Ech cls d H' → σ'.length = Ng.length → W cls d σ' H') ∧ σ[0]? = some (some (.ref f)) ∧ H c' = some (CodeO c' q) ∧ tl Ech H fun _ H' => D.nx σ H')
      (ts := fun ae cls d D σ H => ∃ c0 dd i, c0 ∈ S ∧ cls = .ref (cl.f c0) ∧ d = some dd ∧ tS (gm (clv cl ae c0 dd i) X) W0 sem D σ H)
      rfl rfl hNd hj hen ⟨hgl, by decide, .inl hme⟩ L2.takes0 (fun W pn xe tk _ => ?_) (fun ae oe cls d pn hz hf => ?_)) (pss_one (ps_ret pe_str)), ?_⟩
  · refine ⟨fun pins s' σ H' D I h' => ?_⟩
    obtain ⟨Ech, hW, h1, h2, h3⟩ := h'
    have hp := act (fun cls d σ H => σ.length = Ng.length → W cls d σ H) pn xe Ech p1 p2 (takes_len tk) (fun cls d σ' H' e => hW cls d σ' H' e)
    have hq := pss_one (ps_expr (pos := p3) hp)
    exact hq.run pins s' σ H' D I ⟨h1, h2, h3⟩
  · refine ⟨fun pins s' σ H' D I h' => ?_⟩
    obtain ⟨c0, dd, i, hc0, rfl, rfl, h'⟩ := h'
    exact (hsu s H pn ae oe c0 dd i hc0 hz hf ((hr.deeper (envOfC x sg s.heap.objs.size g cdg)).units)).run pins s' σ H' D I h'
  · refine ⟨EwV cl X S Q, fun cls d σ' H' hE hl => ?_, h0 f, hc, h⟩
    obtain ⟨c0, w, i, dd, hc0, hw, rfl, rfl, hd, hT, hall⟩ := hE
    refine ⟨true, (hS c0 hc0).te, fun _ ae na => ⟨c0, dd, i, hc0, rfl, rfl, [], hSlV Ng.length j c0 i, [], slOk_hV Ng.length hl.symm hd, AbsL.nil hT, ?_⟩, fun z => nomatch z⟩
    obtain ⟨w', L', hw', e⟩ := hsem c0 hc0 i
    rw [hw] at hw'
    cases hw'
    rw [e]
    intro v H'' ρ'' st r ab
    cases r with
    | tup hq rr =>
      cases rr with
      | cons r0 rr =>
        cases rr with
        | cons r1 rr =>
          cases rr
          cases r0
          cases r1
          exact hall H'' _ (fun b o n z => st.fr b o z n (fun i y => by simp at y)) ab.tab hq
end
section
variable {cl : Cl} {X : Cx}
/-- w(lambda: body), errors that keep a number -/
theorem de_wordV {W : WX} {S : List String} {x a : Str} {ga : Addr} {k : Nat} {pg : Arguments} {bg : List Stmt} {sg : Scope} {dV kV doc pm cdv ct oc : Value} {an od : Option Addr} {osl : Array (Option Value)} {Ng : List Str}
    {params : Arguments} {body : Expr} {scope : Scope} {f : Ev} {p lpos pos : Pos} (LA : LamAt cl X) (hg : Gl X x) (hm : X.mg x = some (.ref ga)) (hk : PySem.W.keepIn X.K (.ref ga) = true)
    (lk : X.K.lookup ga = some ⟨oc, od, .func (PySem.W.fnOf x x pg bg sg dV kV doc pm an cdv ct), osl⟩) (hcg : PySem.W.codeIn X.K cdv x = true) (hb : L2.Binds X.K (PySem.W.fnOf x x pg bg sg dV kV doc pm an cdv ct) [a] []) (Sg : FnScope Ng [a] sg) (hNg : Ng[0]? = some a) (hva : Vis sg a)
    (hG : GivesTo X Ng x sg ga cdv bg a (X.env.qual ++ "<lambda>") (TTv cl X S)) (hr : Room (k + 2) X.A) (L : LamS X.env.scope scope) (hdef : defaultsOf params X.env = ([], []))
    (hbind : ∀ (q : Str) (cl : List (Str × Addr)) (pm cv ctv : Value), bindArgs (PySem.W.kla_fn "<lambda>" q params body scope cl pm cv ctv) ⟨[], []⟩ = pure [])
    (hbody : ∀ (A : Around) (outer : List Env) (s : Shared) (H : Hp) (E : XK) (f0 c' : Addr), Room k (A.deeper (lamEnv X scope s.heap.objs.size f0 c')) → Takes (lamCx X A outer s H E scope f0 c') (WE E) → DE cl (WE E) (lamCx X A outer s H E scope f0 c') body f)
    (hdb : (x == ("__debug__" : Str)) = false := by decide) (hd : (a == ("__debug__" : Str)) = false := by decide) (hcd : (a == ("__classdict__" : Str)) = false := by decide) :
    DE cl W X (.Call (.Name x p) [.Lambda params body scope lpos] [] pos) (eWordV S f) := by
  obtain ⟨c, P, TB, hcode, hmT, hu⟩ := LA
  refine imp_e (pe_lamcall (t := fun E => tE (gm cl X) (WE E) f) (TT := TTv cl X S) (T := cl.T) hg hm hk lk hcg hb Sg hNg hva hG TB hcode hmT hu hr L hdef hbind (fun A outer s H E f0 c' hr2 => hbody A outer s H E f0 c' hr2 (takes_of rfl rfl rfl rfl)) hdb hd hcd) fun σ H Q h => ?_
  obtain ⟨ρ, δ, L, hs, ab, h⟩ := h
  refine ⟨ab.tab, fun H1 eN T1 => ?_⟩
  obtain ⟨st1, a1⟩ := ab.same T1 fun b o n z => eN b o z n
  refine ⟨ρ, δ, L, hs.step ab.live st1, a1, ?_⟩
  unfold eWordV at h
  cases e : f δ L with
  | ok d L' =>
    rw [e] at h
    exact fun H' ρ' st ab' v _ => h H' ρ' (st1.trans st) ab' _ (.str _)
  | bad => rw [e] at h; exact h.elim
  | err y L' =>
    rw [e] at h
    simp only at h
    by_cases hc : S.contains y.c = true
    · rw [if_pos hc] at h
      cases hw : wordV y.c with
      | none => rw [hw] at h; exact h.elim
      | some w =>
        rw [hw] at h
        cases hv : y.v with
        | int i =>
          rw [hv] at h
          simp only at h
          intro cls dx H' ρ' st hx ab'
          rcases hx.2 with z | ⟨zn, dd, fl, v, z1, z2, z3, z4⟩
          · rw [hv] at z
            exact absurd z.1 (fun z => nomatch z)
          · rw [hv] at z3
            cases z3
            refine ⟨y.c, w, i, dd, by simpa using hc, hw, hx.1, z1, by rw [← z4]; exact z2, ab'.tab, fun H'' p k T2 hq => ?_⟩
            obtain ⟨st2, a2⟩ := ab'.same T2 k
            exact h H'' ρ' ((st1.trans st).trans st2) a2 _ (.tup hq (.cons (.str _) (.cons (.int _) .nil)))
        | _ => rw [hv] at h; exact h.elim
    · rw [if_neg hc] at h; exact h.elim
/-- .. w a def of the text -/
theorem de_wordVA {W : WX} {S : List String} {x a : Str} {st : Stmt} {Ng : List Str} {k : Nat} {params : Arguments} {body : Expr} {scope : Scope} {f : Ev} {p lpos pos : Pos} (A : FnAt X.K X.mg x st [a]) (LA : LamAt cl X) (Sg : FnScope Ng [a] (defScope st)) (hr : Room (k + 2) X.A)
    (hG : ∀ (ga : Addr) (cdv : Value), GivesTo X Ng x (defScope st) ga cdv (defBody st) a (X.env.qual ++ "<lambda>") (TTv cl X S))
    (hbody : ∀ (A : Around) (outer : List Env) (s : Shared) (H : Hp) (E : XK) (f0 c' : Addr), Room k (A.deeper (lamEnv X scope s.heap.objs.size f0 c')) → Takes (lamCx X A outer s H E scope f0 c') (WE E) → DE cl (WE E) (lamCx X A outer s H E scope f0 c') body f)
    (hg : Gl X x := by rfl) (hNg : Ng[0]? = some a := by rfl) (hva : Vis (defScope st) a := by first | exact Or.inl rfl | exact Or.inr (Or.inl rfl)) (L : LamS X.env.scope scope := by exact LamX.lamS_by (by rfl)) (hdef : defaultsOf params X.env = ([], []) := by rfl)
    (hbind : ∀ (q : Str) (cl : List (Str × Addr)) (pm cv ctv : Value), bindArgs (PySem.W.kla_fn "<lambda>" q params body scope cl pm cv ctv) ⟨[], []⟩ = pure [] := by intro _ _ _ _ _; rfl)
    (hdb : (x == ("__debug__" : Str)) = false := by decide) (hd : (a == ("__debug__" : Str)) = false := by decide) (hcd : (a == ("__classdict__" : Str)) = false := by decide) :
    DE cl W X (.Call (.Name x p) [.Lambda params body scope lpos] [] pos) (eWordV S f) := by
  obtain ⟨ga, fd, hm, hF, hb⟩ := A
  have kp := hF.kp
  obtain ⟨oc, od, kV, doc, pm, an, cdv, ct, osl, rfl, lk, hcd'⟩ := hF.ex
  exact de_wordV LA hg hm kp lk hcd' hb Sg hNg hva (hG ga cdv) hr L hdef hbind hbody hdb hd hcd
end
end Df
/-! list.pop(i); a text or a list, so many times -/
namespace Df
open PySem PySem.Spec PyProof.Rows L2
section
variable {G : Gm} {H : Hp} {ρ : Rho}
theorem RepL.eraseIdx : ∀ {xs : List D} {us : List V} (k : Nat), RepL G H ρ xs us → RepL G H ρ (xs.eraseIdx k) (us.eraseIdx k)
  | _, _, _, .nil => .nil
  | _, _, 0, .cons _ t => t
  | _, _, k + 1, .cons r t => .cons r (RepL.eraseIdx k t)
end
section
variable {cl : Cl} {W : WX} {X : Cx} {o e : Expr} {fo f : Ev} {apos cpos pos : Pos}
theorem d_popAt : OpM cl X mPopAt rPopAt := by
  intro W σ H ρ L x xs v vs Q ab rx rs h
  unfold mPopAt at h
  split at h
  · rename_i i k
    obtain ⟨w, rfl, rw'⟩ := rep1 rs
    cases rw'
    cases e : L[i]? with
    | none => simp only [e] at h; exact (show False from h).elim
    | some m =>
      cases m with
      | lst ys =>
        simp only [e] at h
        obtain ⟨p, us, rfl, h1, h2, h3⟩ := ref_lst ab rx e
        by_cases c : 0 ≤ k ∧ k < 2 ^ 62
        · rw [if_pos c] at h
          cases ey : ys[k.toNat]? with
          | none => simp only [ey] at h; exact (show False from h).elim
          | some y =>
            simp only [ey] at h
            obtain ⟨w, w1, w2⟩ := h3.get ey
            have hl := (List.getElem?_eq_some_iff.mp w1).1
            refine ⟨p, us, k, k.toNat, w, rfl, rfl, h2, by omega, by omega, ?_, w1, ?_⟩
            · unfold seqIndex?
              have hk : ¬ k < 0 := by omega
              simp only [hk, if_false]
              rw [if_pos (by simp; omega)]
            · obtain ⟨q, st⟩ := wrote_lst ab h1 (h3.eraseIdx k.toNat) h
              exact q _ (w2.step ab.live st)
        · rw [if_neg c] at h; exact (show False from h).elim
      | _ => simp only [e] at h; exact (show False from h).elim
  · exact h.elim
theorem de_popAt (ho : DE cl W X o fo) (ha : DE cl W X e f) (hbase : attributeBase o "pop" X.env (eval o X.env) = eval o X.env := by rfl)
    (hfew : ((backTo cpos (starEach [e] X.env)).all (fun x => !x.1) && (backToKw cpos (keywordEach [] X.env)).all (fun x => x.1.isSome)
      && decide ([e].length + ([] : List Keyword).length + (if ([] : List Keyword).isEmpty then 0 else 1) < 30)) = true := by rfl)
    (hline : (apos.endLine == cpos.line) = true := by rfl) (hs : starEach [e] X.env = (false, eval e X.env) :: starEach [] X.env := by rfl) : DE cl W X (.Call (.Attribute o "pop" apos) [e] [] cpos) (eM mPopAt fo (aCons f aNil)) :=
  de_ml PySem.F.plainAttrs_list PySem.F.slot_list_pop PySem.F.type_list_pop mt_popAt d_popAt ho (da_cons ha da_nil hs) hbase hfew hline hs rfl
end
section
variable {cl : Cl} {X : Cx}
theorem rep_len (a : Array Nat) : ∀ (n : Nat) (b : Array Nat), ((List.replicate n a).foldl (· ++ ·) b).size = b.size + n * a.size
  | 0, b => by simp
  | n + 1, b => by
    rw [List.replicate_succ, List.foldl_cons, rep_len a n (b ++ a), Array.size_append, Nat.succ_mul]
    omega
def rMulS : R2 := fun x y H Q => ∃ (z : Str) (k : Int), x = .str z ∧ y = .int k ∧ 2 ≤ k ∧ k ≤ 1000 ∧ 1 ≤ z.length ∧ z.length ≤ 100 ∧ Q (.str (repS z k.toNat)) H
theorem op_mulS : OpR X (binaryOp .Mult) rMulS := by
  intro pins s σ H x y v u Q I rx ry h
  obtain ⟨z, k, rfl, rfl, h1, h2, h3, h4, q⟩ := h
  obtain ⟨t1, rfl⟩ := rx
  obtain ⟨t2, rfl⟩ := ry
  have hk1 : ¬ k < 1 := by omega
  have hk2 : (k == 1 || z.length == 0) = false := by
    have e1 : (k == 1) = false := by simpa using (show k ≠ 1 by omega)
    have e2 : (z.length == 0) = false := by simpa using (show z.length ≠ 0 by omega)
    rw [e1, e2]; rfl
  have hsl : 100000 ≤ sizeLine := by decide
  have hm : z.length * k.toNat ≤ 100 * 1000 := Nat.mul_le_mul h4 (by omega)
  refine PySem.P.mul_str ?_ (fun _ _ => ?_) (fun _ _ => ?_) ?_
  · rw [decide_eq_false (by omega), decide_eq_false (by omega)]; rfl
  · have : (2 ^ 63 - 1) / k ≥ 9223372036854775 := by
      have : (9223372036854775 : Int) * k ≤ 2 ^ 63 - 1 := by omega
      exact (Int.le_ediv_iff_mul_le (by omega)).mpr this
    omega
  · unfold Builtin.Str.tooLong
    simp only [decide_eq_false_iff_not]
    omega
  · rw [if_neg hk1, hk2, if_neg Bool.false_ne_true]
    refine ⟨?_, ?_⟩
    · show ((List.replicate k.toNat z.cps).foldl (· ++ ·) #[]).size ≤ sizeLine
      rw [rep_len]
      have e0 : (#[] : Array Nat).size = 0 := rfl
      have e1 : z.cps.size = z.length := rfl
      rw [e0, e1, Nat.mul_comm]
      omega
    · exact ⟨.str (repS z k.toNat), H, I.tok _, ⟨_, rfl⟩, q⟩
theorem d_mulS : Op2 cl X oMulS rMulS := by
  intro W σ H ρ L x y v u Q ab rx ry h
  unfold oMulS at h
  split at h
  · rename_i z k
    cases rx
    cases ry
    by_cases c : 2 ≤ k ∧ k ≤ 1000 ∧ 1 ≤ z.length ∧ z.length ≤ 100
    · rw [if_pos c] at h
      exact ⟨z, k, rfl, rfl, c.1, c.2.1, c.2.2.1, c.2.2.2, now ab h _ (.str _)⟩
    · rw [if_neg c] at h; exact h.elim
  · exact (show False from h).elim
theorem d_mulL : Op2 cl X oMulL rRep := by
  intro W σ H ρ L x y v u Q ab rx ry h
  unfold oMulL at h
  split at h
  · rename_i i k
    cases ry
    cases e : L[i]? with
    | none => simp only [e] at h; exact (show False from h).elim
    | some m =>
      cases m with
      | lst ys =>
        simp only [e] at h
        obtain ⟨p, us, rfl, h1, h2, h3⟩ := ref_lst ab rx e
        by_cases c : 0 ≤ k ∧ k ≤ 1000 ∧ ys.length ≤ 1000
        · rw [if_pos c] at h
          have hz : us.length * k.toNat ≤ 1000 * 1000 := Nat.mul_le_mul (by rw [← h3.length]; exact c.2.2) (by omega)
          have hsl : 1000000 ≤ sizeLine := by decide
          exact ⟨p, k, us, rfl, rfl, h2, by omega, by omega, by omega, fun q hq => alloc_lst ab (h3.rep k.toNat) hq h⟩
        · rw [if_neg c] at h; exact h.elim
      | _ => simp only [e] at h; exact (show False from h).elim
  · exact (show False from h).elim
end
end Df
namespace Df
open PySem PySem.Spec PyProof.Rows L2
/-- a def as the top left it, from what the head tells -/
theorem fn_at {K : PySem.W.Frag} {h : Heap} {mg : Str → Option Value} {x : Str} {st : Stmt} {ps : List Str} {f : Addr} {oc : Value} {od an : Option Addr} {osl : Array (Option Value)} {kV doc pm cdv ct : Value} (X : K.In h) (G : h.Ns mainGlobals mg)
    (b : ∀ (kV doc pm : Value) (an : Option Addr) (cdv ct : Value) (us : List Value), us.length = ps.length → bindArgs (PySem.W.fnOf x x (defArgs st) (defBody st) (defScope st) .none kV doc pm an cdv ct) ⟨us, []⟩ = pure (ps.zip us))
    (a : PySem.W.nsIn K mainGlobals x = some (some (.ref f))) (l : K.lookup f = some ⟨oc, od, .func (PySem.W.fnOf x x (defArgs st) (defBody st) (defScope st) .none kV doc pm an cdv ct), osl⟩)
    (c : PySem.W.codeIn K cdv x = true) (k : PySem.W.keepIn K (.ref f) = true) : FnAt K mg x st ps :=
  ⟨f, _, PySem.W.mg_of X G a, fun_mk l c k, (fun_mk l c k).binds b⟩
theorem ci_at {K : PySem.W.Frag} {h : Heap} {mg : Str → Option Value} {x : Str} {i : Int} {t : Tok} (X : K.In h) (G : h.Ns mainGlobals mg) (a : PySem.W.nsIn K mainGlobals x = some (some (.int i t))) : ∃ t, mg x = some (.int i t) := ⟨t, PySem.W.mg_of X G a⟩
theorem cs_at {K : PySem.W.Frag} {h : Heap} {mg : Str → Option Value} {x y : Str} {t : Tok} (X : K.In h) (G : h.Ns mainGlobals mg) (a : PySem.W.nsIn K mainGlobals x = some (some (.str y t))) : ∃ t, mg x = some (.str y t) := ⟨t, PySem.W.mg_of X G a⟩
section
variable {cl : Cl} {P : Program} {w : World} {K : PySem.W.Frag} {mg : Str → Option Value}
/-- the law's own def -/
def LawFn (cl : Cl) (P : Program) (w : World) (K : PySem.W.Frag) (mg : Str → Option Value) (x p : Str) (k : Nat) (F : Fn) : Prop :=
  ∃ f fd, mg x = some (.ref f) ∧ (∀ (s : Shared) (u : Value), BindsTo s fd ⟨[u], []⟩ [(p, u)]) ∧ ∀ base : Heap, K.In base → base.Ns mainGlobals mg → FnOk P w K mg base CX0 k f fd [p] (sp0 cl w K 1 F)
theorem ok_law_of {x p : Str} {st : Stmt} {N : List Str} {b : Sv} (n k : Nat) (A : ∃ f fd, mg x = some (.ref f) ∧ Fun K x x st f fd ∧ ∀ (s : Shared) (u : Value), BindsTo s fd ⟨[u], []⟩ [(p, u)]) (S : FnScope N [p] (defScope st)) (hn : n = N.length)
    (hb : ∀ (base : Heap) (f : Addr) (cdv : Value) (A : Around) (outer : List Env) (s : Shared) (H : Hp) (E : XK), Room k (A.deeper (envOfC x (defScope st) s.heap.objs.size f cdv)) → DSs cl W0 (cxOf CX0 P w K mg base N x (defScope st) f cdv A outer s H E).nox (defBody st) b) :
    LawFn cl P w K mg x p (k + 1) (fnOf n b) := by
  obtain ⟨f, fd, h1, h2, h3⟩ := A
  refine ⟨f, fd, h1, h3, fun base _ _ => fn0 h2 S n hn fun X cdv A outer s H E e hr => ?_⟩
  subst e
  exact hb base f cdv A outer s H E hr
end
/-- the law's own def, from what the head tells -/
theorem law_at {K : PySem.W.Frag} {h : Heap} {mg : Str → Option Value} {x p : Str} {st : Stmt} {f : Addr} {oc : Value} {od an : Option Addr} {osl : Array (Option Value)} {kV doc pm cdv ct : Value} (X : K.In h) (G : h.Ns mainGlobals mg)
    (b : ∀ (kV doc pm : Value) (an : Option Addr) (cdv ct : Value) (s : Shared) (u : Value), BindsTo s (PySem.W.fnOf x x (defArgs st) (defBody st) (defScope st) .none kV doc pm an cdv ct) ⟨[u], []⟩ [(p, u)])
    (a : PySem.W.nsIn K mainGlobals x = some (some (.ref f))) (l : K.lookup f = some ⟨oc, od, .func (PySem.W.fnOf x x (defArgs st) (defBody st) (defScope st) .none kV doc pm an cdv ct), osl⟩)
    (c : PySem.W.codeIn K cdv x = true) (k : PySem.W.keepIn K (.ref f) = true) : ∃ f fd, mg x = some (.ref f) ∧ Fun K x x st f fd ∧ ∀ (s : Shared) (u : Value), BindsTo s fd ⟨[u], []⟩ [(p, u)] :=
  ⟨f, _, PySem.W.mg_of X G a, fun_mk l c k, b _ _ _ _ _ _⟩
/-- what the law's def has to give -/
def LawTrue (F : Fn) : Prop := ∀ ns : List Int, ns.length ≤ 63 → ∃ L, F [.scr ns] [] = .ok (.bl true) L
theorem law_sp {F : Fn} (hF : LawTrue F) (cl : Cl) (w : World) (K : PySem.W.Frag) (H : Hp) (a : Addr) (ns : List Int) (hl : ns.length ≤ 63) (hT : LamX.Tabs cl.T H) (hO : Only H) (hS : SqL K H a (ns.map V.int)) : sp0 cl w K 1 F [.ref a] H (fun v _ => v = .bl true) fun _ _ _ => False := by
  have fz : FzL K H a (ns.map V.int) := by
    rcases hS with hS | hS
    · rcases hS with hS | ⟨o, hS⟩
      · rcases hO a with e | ⟨o, xs, e⟩
        · rw [hS] at e; cases e
        · rw [hS] at e; cases e
      · exact .inl ⟨o, hS⟩
    · exact .inr hS
  obtain ⟨L, e⟩ := hF ns hl
  refine ⟨rfl, [], [.scr ns], [], .cons (.scr fz) .nil, AbsL.nil hT, ?_⟩
  rw [e]
  intro H' ρ' st ab v r
  cases r
  rfl
theorem law_walk {l : PySem.W.OpenLaw} {k : Nat} {q : Program} {loose : List Str} {XP : (Str → Option Value) → Heap → Prop} {YP : World → Heap → Prop} {d : DefRec} {K : Params → PySem.W.Frag} {x : Str} {F : Fn} (hF : LawTrue F)
    (hn : l.most = some 63) (hdf : d.params.defaults = []) (hr : Room k callerA) (hY : ∀ (w : World) (h : Heap), YP w h → (K w.params).In h)
    (T : ∀ (w : World) (mg : Str → Option Value) (h : Heap), (K w.params).In h → h.Ns mainGlobals mg → LawFn ⟨fun _ => 0, [], fun _ _ _ => False, []⟩ l.prog w (K w.params) mg d.name x k F) :
    PySem.W.WalkO q loose XP YP l.row.toRowW d [] (fun f vs => PySem.call f vs) :=
  walk_of (k := k) (x := x) (CX := fun _ => CX0) (sp := fun w => sp0 ⟨fun _ => 0, [], fun _ _ _ => False, []⟩ w (K w.params) 1 F) hn (by decide) hdf hr hY (fun w mg fa h KX G hm => by
    obtain ⟨f, fd, h1, h2, h3⟩ := T w mg h KX G
    rw [hm] at h1
    cases h1
    exact ⟨fd, h2, h3⟩) (fun w H a ns hl hO hS => law_sp hF _ w _ H a ns hl (fun _ z => nomatch z) hO hS) (fun _ _ _ _ _ h => h)
/-! ### laws that make functions -/
/-- the promise at a script that stands in a list -/
def spS (cl : Cl) (K : PySem.W.Frag) : Sp := fun vs H Q _ => ∃ (a : Addr) (ns : List Int), vs = [.ref a] ∧ ns.length ≤ 63 ∧ SqL K H a (ns.map V.int) ∧ LamX.Tabs cl.T H ∧ Q = fun v _ => v = .bl true
theorem sp_frz {F : Fn} (hF : LawTrue F) (cl : Cl) (w : World) (K : PySem.W.Frag) (H : Hp) (a : Addr) (ns : List Int) (hl : ns.length ≤ 63) (hT : LamX.Tabs cl.T H) (fz : FzL K H a (ns.map V.int)) : sp0 cl w K 1 F [.ref a] H (fun v _ => v = .bl true) fun _ _ _ => False := by
  obtain ⟨L, e⟩ := hF ns hl
  refine ⟨rfl, [], [.scr ns], [], .cons (.scr fz) .nil, AbsL.nil hT, ?_⟩
  rw [e]
  intro H' ρ' st ab v r
  cases r
  rfl
theorem fn_frz {F : Fn} (hF : LawTrue F) {cl : Cl} {P : Program} {w : World} {K : PySem.W.Frag} {mg : Str → Option Value} {base : Heap} {k : Nat} {f : Addr} {fd : FuncData} {x : Str} (G : FnOk P w K mg base CX0 k f fd [x] (sp0 cl w K 1 F)) : FnOk P w K mg base CX0 k f fd [x] (spS cl K) := by
  refine ⟨fun vs H Q E ⟨a, ns, e, _⟩ => by rw [e]; rfl, fun A outer s H args us vs Q E hr e0 hb rv h => ?_⟩
  obtain ⟨a, ns, rfl, hl, hS, hT, rfl⟩ := h
  have viaFz : FzL K H a (ns.map V.int) → codeAny (model P w) A (.call (.ref f) args) (CR CX0 outer P w H s (fun v _ => v = .bl true) E) s := fun fz => by
    obtain ⟨L, e⟩ := hF ns hl
    refine G.run A outer s H args us _ _ E hr e0 hb rv ⟨rfl, [], [.scr ns], [], .cons (.scr fz) .nil, AbsL.nil hT, ?_⟩
    rw [e]
    intro H' ρ' st ab v r
    cases r
    rfl
  rcases hS with (hS | ⟨o, hS⟩) | hS
  · obtain ⟨hz, its, n, q1, q2⟩ := e0.hok a _ hS
    let o : Obj := { cls := .type "list", data := .seq its.toArray n }
    have nb : ∀ b, H b = none → b ≠ a := fun b e z => by rw [z, hS] at e; cases e
    have hok0 : HOk P w (upd H a (.frz o (.lst (ns.map V.int)))) s.heap := e0.hok.write (x := a) (e := a) (by rw [hS]; exact True.intro) (.inl rfl) (fun b u _ e => e) ⟨_, q2⟩ ⟨q2, hz, its, n, q1, q2⟩
    have e1 : Env0 P w K mg base A outer s (upd H a (.frz o (.lst (ns.map V.int)))) := ⟨e0.frames, e0.mod, fun b ob e => ⟨(e0.bs b ob e).1, by rw [upd_ne (nb b (e0.bs b ob e).2)]; exact (e0.bs b ob e).2⟩, e0.bsz, e0.funs, fun b hb => by rw [upd_ne (nb b (e0.frf b hb))]; exact e0.frf b hb, hok0, e0.bare⟩
    have hT0 : LamX.Tabs cl.T (upd H a (.frz o (.lst (ns.map V.int)))) := tabs_upd hT (fun ps e => by rw [hS] at e; cases e) (fun q e => by rw [hS] at e; cases e)
    obtain ⟨L, e⟩ := hF ns hl
    have run := G.run A outer s _ args us _ (fun v _ => v = .bl true) E hr e1 hb rv ⟨rfl, [], [.scr ns], [], .cons (.scr (.inl ⟨o, upd_same⟩)) .nil, AbsL.nil hT0, by
      rw [e]
      intro H' ρ' st ab v r
      cases r
      rfl⟩
    refine codeAny_mono run fun r s' hq => ?_
    cases r with
    | error e => exact (show False from hq).elim
    | ok fl =>
      cases fl with
      | next => exact False.elim hq
      | brk => exact False.elim hq
      | cont => exact False.elim hq
      | ret u =>
        obtain ⟨v, H', h1, h2, un, h4, h5, h6⟩ := hq
        have ne : ∀ b ob, H b = some ob → (∀ xs, ob ≠ .lst xs) → b ≠ a := fun b ob e q z => by rw [z, hS] at e; exact q _ (Option.some.inj e).symm
        have n0 : ∀ b, H b = none → upd H a (.frz o (.lst (ns.map V.int))) b = none := fun b e => by rw [upd_ne (nb b e)]; exact e
        exact ⟨v, H', h1, h2, ⟨fun b ob e n => un.keep b ob e (n0 b n), fun b ob e n => un.slot b ob e (n0 b n), fun b ob e n => un.free b ob e (n0 b n), un.there,
          fun b xs e => un.tups b xs (by rw [upd_ne (ne b _ e (fun _ z => nomatch z))]; exact e), fun b ob u e => un.frzs b ob u (by rw [upd_ne (ne b _ e (fun _ z => nomatch z))]; exact e),
          fun b ps e => un.tbls b ps (by rw [upd_ne (ne b _ e (fun _ z => nomatch z))]; exact e)⟩, h4, h5, h6⟩
  · exact viaFz (.inl ⟨o, hS⟩)
  · exact viaFz (.inr hS)
/-- the defs that make functions: code objects, tables -/
structure TabOf (K : PySem.W.Frag) (h : Heap) (c P : Addr) : Prop where
  code : PySem.W.codeHdIn K c P = true
  tab : h.get? P = some (PySem.W.tabObj #[])
  out : K.lookup P = none
/-- the law's own def, with tables -/
def LawFnT (cl : Cl) (cs : List (Addr × Addr)) (P : Program) (w : World) (K : PySem.W.Frag) (mg : Str → Option Value) (x p : Str) (k : Nat) (F : Fn) : Prop :=
  ∃ f fd, mg x = some (.ref f) ∧ (∀ (s : Shared) (u : Value), BindsTo s fd ⟨[u], []⟩ [(p, u)]) ∧ ∀ base : Heap, K.In base → base.Ns mainGlobals mg → (∀ p ∈ cs, LamX.TabB base mg p.1 p.2) → FnOk P w K mg base CX0 k f fd [p] (sp0 cl w K 1 F)
theorem fn0C {cl : Cl} {P : Program} {w : World} {K : PySem.W.Frag} {mg : Str → Option Value} {base : Heap} {x qual : Str} {st : Stmt} {f c : Addr} {fd : FuncData} {N ps : List Str} {k : Nat} {b : Sv} (F : Fun K x qual st f fd) (hc : fd.code = .ref c) (S : FnScope N ps (defScope st)) (n : Nat) (hn : n = N.length)
    (hb : ∀ (X : Cx) (A : Around) (outer : List Env) (s : Shared) (H : Hp) (E : XK), X = (cxOf CX0 P w K mg base N qual (defScope st) f (.ref c) A outer s H E).nox → Room k X.A → DSs cl W0 X (defBody st) b) :
    FnOk P w K mg base CX0 (k + 1) f fd ps (sp0 cl w K ps.length (fnOf n b)) := by
  obtain ⟨oc, od, kV, doc, pm, an, cdv, ct, osl, rfl, lk, hcd⟩ := F.ex
  have hc : cdv = .ref c := hc
  subst hc
  subst hn
  refine fn_of lk hcd S (fun vs H Q E h => h.1) fun A outer s H vs Q E hr h => ?_
  obtain ⟨hl, ρ, ds, L, r, ab, h⟩ := h
  refine ⟨_, (hb _ A outer s H E rfl hr).nox, ρ, _, L, sl_start r, ab, ?_⟩
  unfold fnOf at h
  show AfterS ⟨w, K, cl⟩ W0 _ ρ H (b (ds.map some ++ List.replicate (N.length - ds.length) none) L)
  cases e : b (ds.map some ++ List.replicate (N.length - ds.length) none) L with
  | ok fl L1 =>
    rw [e] at h
    cases fl with
    | nx δ => exact fun σ' H' ρ' st' _ ab' => h H' ρ' st' ab' _ .non
    | rt d => exact fun v H' ρ' st' rv ab' => h H' ρ' st' ab' v rv
    | bk δ => exact h.elim
    | ct δ => exact h.elim
  | err x L1 => rw [e] at h; exact fun cls dx σ' H' ρ' st' hx ab' => h cls dx H' ρ' st' hx ab'
  | bad => rw [e] at h; exact h
/-- a def whose code object stands at c -/
def LawAtC (K : PySem.W.Frag) (mg : Str → Option Value) (x p : Str) (st : Stmt) (c : Addr) : Prop := ∃ f fd, mg x = some (.ref f) ∧ Fun K x x st f fd ∧ fd.code = .ref c ∧ ∀ (s : Shared) (u : Value), BindsTo s fd ⟨[u], []⟩ [(p, u)]
theorem ok_law_ofT {cl : Cl} {cs : List (Addr × Addr)} {P : Program} {w : World} {K : PySem.W.Frag} {mg : Str → Option Value} {x p : Str} {st : Stmt} {N : List Str} {b : Sv} {c : Addr} (n k : Nat) (A : LawAtC K mg x p st c) (S : FnScope N [p] (defScope st)) (hn : n = N.length)
    (hb : ∀ (base : Heap) (f : Addr) (A : Around) (outer : List Env) (s : Shared) (H : Hp) (E : XK), (∀ p ∈ cs, LamX.TabB base mg p.1 p.2) → Room k (A.deeper (envOfC x (defScope st) s.heap.objs.size f (.ref c))) → DSs cl W0 (cxOf CX0 P w K mg base N x (defScope st) f (.ref c) A outer s H E).nox (defBody st) b) :
    LawFnT cl cs P w K mg x p (k + 1) (fnOf n b) := by
  obtain ⟨f, fd, h1, h2, hc, h3⟩ := A
  refine ⟨f, fd, h1, h3, fun base _ _ T => fn0C h2 hc S n hn fun X A outer s H E e hr => ?_⟩
  subst e
  exact hb base f A outer s H E T hr
theorem law_atT {K : PySem.W.Frag} {h : Heap} {mg : Str → Option Value} {x p : Str} {st : Stmt} {f cc : Addr} {oc : Value} {od an : Option Addr} {osl : Array (Option Value)} {kV doc pm ct : Value} (X : K.In h) (G : h.Ns mainGlobals mg)
    (b : ∀ (kV doc pm : Value) (an : Option Addr) (cdv ct : Value) (s : Shared) (u : Value), BindsTo s (PySem.W.fnOf x x (defArgs st) (defBody st) (defScope st) .none kV doc pm an cdv ct) ⟨[u], []⟩ [(p, u)])
    (a : PySem.W.nsIn K mainGlobals x = some (some (.ref f))) (l : K.lookup f = some ⟨oc, od, .func (PySem.W.fnOf x x (defArgs st) (defBody st) (defScope st) .none kV doc pm an (.ref cc) ct), osl⟩)
    (c : PySem.W.codeIn K (.ref cc) x = true) (k : PySem.W.keepIn K (.ref f) = true) : LawAtC K mg x p st cc :=
  ⟨f, _, PySem.W.mg_of X G a, fun_mk l c k, rfl, b _ _ _ _ _ _⟩
/-- one def alone makes functions -/
abbrev clf (f : String → Addr) (nm : Str) (P : Addr) : Cl := ⟨f, [(P, nm)], fun _ _ _ => False, []⟩
abbrev cl1 (nm : Str) (P : Addr) : Cl := clf (fun _ => 0) nm P
/-- where the classes stand -/
abbrev clsF (cs : List (String × Addr)) : String → Addr := fun c => (cs.lookup c).getD 0
theorem tabs_one {K : PySem.W.Frag} {h : Heap} {nm : Str} {c P : Addr} {R : Prop} {f : String → Addr} (t : TabOf K h c P) (r : R) : (∀ p ∈ (clf f nm P).T, ∃ c', (c', p.1) ∈ [(c, P)]) ∧ (∀ p ∈ [(c, P)], TabOf K h p.1 p.2) ∧ R :=
  ⟨fun p hp => ⟨c, by rw [List.mem_singleton.mp hp]; exact List.mem_singleton.mpr rfl⟩, fun p hp => by rw [List.mem_singleton.mp hp]; exact t, r⟩
theorem lam_at {X : Cx} {nm : Str} {c P : Addr} {f : String → Addr} (T : ∀ p ∈ [(c, P)], LamX.TabB X.base X.mg p.1 p.2) (h1 : X.env.code = .ref c := by rfl) (h2 : nm = X.env.qual ++ "<lambda>" := by rfl) : LamAt (clf f nm P) X :=
  ⟨c, P, T _ (List.mem_singleton.mpr rfl), h1, by rw [← h2]; exact List.mem_singleton.mpr rfl, fun p hp _ => by rw [List.mem_singleton.mp hp]; exact h2⟩
theorem law_walkT {l : PySem.W.OpenLaw} {k : Nat} {q : Program} {loose : List Str} {XP : (Str → Option Value) → Heap → Prop} {YP : World → Heap → Prop} {d : DefRec} {K : Params → PySem.W.Frag} {x : Str} {F : Fn} (hF : LawTrue F)
    (hn : l.most = some 63) (hdf : d.params.defaults = []) (hr : Room k callerA) (hY : ∀ (w : World) (h : Heap), YP w h → (K w.params).In h)
    (T : ∀ (w : World) (mg : Str → Option Value) (h : Heap), YP w h → (K w.params).In h → h.Ns mainGlobals mg → ∃ (cl : Cl) (cs : List (Addr × Addr)), (∀ p ∈ cl.T, ∃ c, (c, p.1) ∈ cs) ∧ (∀ p ∈ cs, TabOf (K w.params) h p.1 p.2) ∧ LawFnT cl cs l.prog w (K w.params) mg d.name x k F) :
    PySem.W.WalkO q loose XP YP l.row.toRowW d [] (fun f vs => PySem.call f vs) := by
  refine Att.attach_callB hn hdf fun w s₀ s₁ mg mb fa o pm cd doc a vs ns G Y ho hd hcd hmg hobj hints hlen hbits hg => ?_
  have KX := hY w _ Y
  obtain ⟨cl, cs, h1, h2, f, fd, g1, g2, g3⟩ := T w mg _ Y KX G.T.g
  rw [hmg] at g1
  cases g1
  refine LamX.law_callTs (sp := spS cl (K w.params)) (CX := CX0) KX G.T.g G.T.b G.T.builtins G.T.nolimit hg (fun p hp => (h2 p hp).tab) (fun p hp => (h2 p hp).out) (fun p hp => PySem.W.codeHd_of_K KX (h2 p hp).code) G.T.bmain hobj hints (Nat.le_trans hlen (by decide)) hr (fun base k1 k2 k3 => fn_frz hF (g3 base k1 k2 k3)) g2 (fun H hH hS => ?_) fun H e s' h => h
  refine ⟨a, ns, rfl, hlen, hS, fun p hp => ?_, rfl⟩
  obtain ⟨c, hc⟩ := h1 p hp
  exact LamX.TabS.nil (hH _ hc)
end Df
namespace Df
noncomputable def C1_is_word : Ev := (eLcF (iStr (eVar 0)) [1] (.nm 1) (tVal (eOp cNotIn (eVar 1) (eC (.str "abcdefghijklmnopqrstuvwxyz")))) (eVar 1))
noncomputable def F_is_word : Fn := fnOf 2 (sSeq (sIf (tOr (tNot (tVal (eIsi (eVar 0) [.str]))) (tNot (tVal (eChain cLe cLe (eC (.int 1)) (eB bLenS (aCons (eVar 0) aNil)) (eC (.int 8)))))) (sRet (eC (.bl false))) sNil) (sRet (eOp cEq C1_is_word (eLstF aNil))))
noncomputable def F_is_use : Fn := fnOf 1 (sRet (eAnd (eIsi (eVar 0) [.tuple]) (eAnd (eOp cEq (eB bLenS (aCons (eVar 0) aNil)) (eC (.int 2))) (eAnd (eOp cEq (eOp oIx (eVar 0) (eC (.int 0))) (eC (.str "use"))) (eCallF 1 F_is_word (aCons (eOp oIx (eVar 0) (eC (.int 1))) aNil))))))
noncomputable def C1_are_words : Ev := (eLcF (iSeq (eVar 0)) [1] (.nm 1) (tAnd (tNot (tVal (eCallF 1 F_is_word (aCons (eVar 1) aNil)))) (tNot (tVal (eCallF 1 F_is_use (aCons (eVar 1) aNil))))) (eVar 1))
noncomputable def F_are_words : Fn := fnOf 2 (sSeq (sIf (tOr (tNot (tVal (eIsi (eVar 0) [.tuple]))) (tVal (eOp cGt (eB bLenS (aCons (eVar 0) aNil)) (eC (.int 8))))) (sRet (eC (.bl false))) sNil) (sRet (eOp cEq C1_are_words (eLstF aNil))))
noncomputable def F_is_row : Fn := fnOf 1 (sSeq (sIf (tOr (tNot (tVal (eIsi (eVar 0) [.tuple]))) (tOr (tVal (eOp cLt (eB bLenS (aCons (eVar 0) aNil)) (eC (.int 2)))) (tNot (tVal (eCallF 1 F_are_words (aCons (eOp oIx (eVar 0) (eUn uNeg (eC (.int 1)))) aNil)))))) (sRet (eC (.bl false))) sNil) (sRet (eIf (tVal (eOp cEq (eOp oIx (eVar 0) (eC (.int 0))) (eC (.str "def")))) (eAnd (eOp cEq (eB bLenS (aCons (eVar 0) aNil)) (eC (.int 3))) (eCallF 1 F_is_word (aCons (eOp oIx (eVar 0) (eC (.int 1))) aNil))) (eAnd (eOp cEq (eB bLenS (aCons (eVar 0) aNil)) (eC (.int 2))) (eOp cEq (eOp oIx (eVar 0) (eC (.int 0))) (eC (.str "say")))))))
noncomputable def B1_need_section (R : Fn) : Sv := (sIf (tNot (tVal (eCallF 1 F_is_row (aCons (eVar 6) aNil)))) sNever sNil)
noncomputable def B2_need_section (R : Fn) : Sv := (sExpr (eCallF 2 R (aCons (eVar 7) (aCons (eOp oAdd (eVar 1) (eTup (aCons (eVar 5) aNil))) aNil))))
noncomputable def F_need_section : Nat → Fn
  | 0 => fun _ _ => .bad
  | n + 1 => fnOf 8 (sSeq (sSet (.nm 2) (eAnd (eIsi (eVar 0) [.tuple]) (eAnd (eOp cEq (eB bLenS (aCons (eVar 0) aNil)) (eC (.int 2))) (eAnd (eIsi (eOp oIx (eVar 0) (eC (.int 0))) [.tuple]) (eIsi (eOp oIx (eVar 0) (eC (.int 1))) [.tuple]))))) (sSeq (sIf (tNot (tVal (eVar 2))) sNever sNil) (sSeq (sSet (.tp [3, 4]) (eVar 0)) (sSeq (sIf (tOr (tVal (eOp cGt (eB bLenS (aCons (eVar 3) aNil)) (eC (.int 12)))) (tOr (tVal (eOp cGt (eB bLenS (aCons (eVar 4) aNil)) (eC (.int 3)))) (tVal (eOp cGt (eB bLenS (aCons (eVar 1) aNil)) (eC (.int 2)))))) sNever sNil) (sSeq (sFor (.tp [5, 6]) (iEnum (eVar 3)) (B1_need_section (F_need_section n))) (sFor (.tp [5, 7]) (iEnum (eVar 4)) (B2_need_section (F_need_section n))))))))
noncomputable def F_need_paper : Fn := fnOf 1 (sExpr (eCallF 2 (F_need_section 12) (aCons (eVar 0) (aCons (eTup aNil) aNil))))
noncomputable def B1_section_at : Sv := (sSet (.nm 2) (eOp oIx (eOp oIx (eVar 2) (eC (.int 1))) (eVar 3)))
noncomputable def F_section_at : Fn := fnOf 4 (sSeq (sSet (.nm 2) (eVar 0)) (sSeq (sFor (.nm 3) (iSeq (eVar 1)) B1_section_at) (sRet (eVar 2))))
noncomputable def F__law_taken : Fn := fnOf 4 (sSeq (sIf (tVal (eOp cGt (eOp oIx (eVar 0) (eC (.int 3))) (eC (.int 0)))) (sSeq (sSet (.nm 2) (eOp oMod (eOp oIx (eVar 0) (eC (.int 3))) (eVar 1))) (sSeq (sPut pLst (eVar 0) (eC (.int 3)) (eOp oDiv (eOp oIx (eVar 0) (eC (.int 3))) (eVar 1))) (sRet (eVar 2)))) sNil) (sSeq (sPut pLst (eVar 0) (eC (.int 1)) (eOp oAdd (eOp oIx (eVar 0) (eC (.int 1))) (eC (.int 1)))) (sSeq (sIf (tVal (eOp cGt (eOp oIx (eVar 0) (eC (.int 1))) (eB bLenS (aCons (eOp oIx (eVar 0) (eC (.int 0))) aNil)))) (sSeq (sPut pLst (eVar 0) (eC (.int 2)) (eOp oMod (eOp oAdd (eOp oMul (eOp oIx (eVar 0) (eC (.int 2))) (eC (.int 48271))) (eC (.int 11))) (eC (.int 2147483647)))) (sRet (eOp oMod (eOp oDiv (eOp oIx (eVar 0) (eC (.int 2))) (eC (.int 7))) (eVar 1)))) sNil) (sSeq (sSet (.nm 3) (eOp oIx (eOp oIx (eVar 0) (eC (.int 0))) (eOp oSub (eOp oIx (eVar 0) (eC (.int 1))) (eC (.int 1))))) (sSeq (sPut pLst (eVar 0) (eC (.int 2)) (eOp oMod (eOp oAdd (eOp oAdd (eOp oMul (eOp oIx (eVar 0) (eC (.int 2))) (eC (.int 48271))) (eVar 3)) (eC (.int 11))) (eC (.int 2147483647)))) (sSeq (sIf (tVal (eOp cGe (eVar 3) (eOp oPow (eC (.int 10)) (eC (.int 18))))) (sPut pLst (eVar 0) (eC (.int 3)) (eOp oDiv (eVar 3) (eVar 1))) sNil) (sRet (eOp oMod (eVar 3) (eVar 1)))))))))
noncomputable def C1__law_alike (R : Fn) : Ev := (eLcF (iRng1 (eB bLenS (aCons (eVar 1) aNil))) [2] (.nm 2) (tNot (tVal (eCallF 2 R (aCons (eOp oIx (eVar 0) (eVar 2)) (aCons (eOp oIx (eVar 1) (eVar 2)) aNil))))) (eVar 2))
noncomputable def F__law_alike : Nat → Fn
  | 0 => fun _ _ => .bad
  | n + 1 => fnOf 3 (sSeq (sIf (tOr (tVal (eIsi (eVar 1) [.tuple])) (tVal (eIsi (eVar 1) [.list]))) (sSeq (sIf (tOr (tVal (eOp cNe (eIsi (eVar 0) [.tuple]) (eIsi (eVar 1) [.tuple]))) (tNot (tVal (eIsi (eVar 0) [.tuple, .list])))) (sRet (eC (.bl false))) sNil) (sSeq (sIf (tVal (eOp cNe (eB bLenS (aCons (eVar 0) aNil)) (eB bLenS (aCons (eVar 1) aNil)))) (sRet (eC (.bl false))) sNil) (sRet (eOp cEq (C1__law_alike (F__law_alike n)) (eLstF aNil))))) sNil) (sSeq (sIf (tOr (tVal (eOp cIsN (eVar 1) (eC .non))) (tVal (eOp cIsN (eVar 0) (eC .non)))) (sRet (eAnd (eOp cIsN (eVar 1) (eC .non)) (eOp cIsN (eVar 0) (eC .non)))) sNil) (sSeq (sIf (tOr (tVal (eIsi (eVar 1) [.bool])) (tVal (eIsi (eVar 0) [.bool]))) (sRet (eAnd (eIsi (eVar 1) [.bool]) (eAnd (eIsi (eVar 0) [.bool]) (eOp cEq (eVar 0) (eVar 1))))) sNil) (sSeq (sIf (tVal (eIsi (eVar 1) [.str])) (sRet (eAnd (eIsi (eVar 0) [.str]) (eOp cEq (eVar 0) (eVar 1)))) sNil) (sRet (eAnd (eIsi (eVar 0) [.int]) (eOp cEq (eVar 0) (eVar 1))))))))
noncomputable def C1__law_term : Ev := (eLcF (iRng1 (eOp oAdd (eC (.int 1)) (eCall1 2 F__law_taken (aCons (eVar 0) (aCons (eC (.int 8)) aNil))))) [3] (.nm 3) tYes (eOp oIx (eVar 2) (eCall1 2 F__law_taken (aCons (eVar 0) (aCons (eC (.int 26)) aNil)))))
noncomputable def F__law_term : Fn := fnOf 4 (sSeq (sSet (.nm 2) (eC (.str "abcdefghijklmnopqrstuvwxyz"))) (sSeq (sIf (tVal (eOp cEq (eCall1 2 F__law_taken (aCons (eVar 0) (aCons (eC (.int 12)) aNil))) (eC (.int 0)))) (sRet (eMS mJoin (eC (.str "")) (aCons C1__law_term aNil))) sNil) (sRet (eOp oIx (eVar 2) (eCall1 2 F__law_taken (aCons (eVar 0) (aCons (eVar 1) aNil)))))))
noncomputable def B1__law_words : Sv := (sSeq (sSet (.nm 4) (eCall1 2 F__law_term (aCons (eVar 0) (aCons (eVar 1) aNil)))) (sExpr (eM mAppend (eVar 2) (aCons (eOp oIx (eLstF (aCons (eTup (aCons (eC (.str "use")) (aCons (eVar 4) aNil))) (aCons (eTup (aCons (eC (.str "use")) (aCons (eVar 4) aNil))) (aCons (eVar 4) aNil)))) (eCall1 2 F__law_taken (aCons (eVar 0) (aCons (eC (.int 3)) aNil)))) aNil))))
noncomputable def F__law_words : Fn := fnOf 5 (sSeq (sSet (.nm 2) (eLst aNil)) (sSeq (sFor (.nm 3) (iRng1 (eCall1 2 F__law_taken (aCons (eVar 0) (aCons (eOp oIx (eLstF (aCons (eC (.int 3)) (aCons (eC (.int 5)) (aCons (eC (.int 9)) aNil)))) (eCall1 2 F__law_taken (aCons (eVar 0) (aCons (eC (.int 3)) aNil)))) aNil)))) B1__law_words) (sRet (eB bTuple (aCons (eVar 2) aNil)))))
noncomputable def F__law_row : Fn := fnOf 2 (sSeq (sIf (tVal (eOp cEq (eCall1 2 F__law_taken (aCons (eVar 0) (aCons (eC (.int 2)) aNil))) (eC (.int 0)))) (sRet (eTup (aCons (eC (.str "say")) (aCons (eCall1 2 F__law_words (aCons (eVar 0) (aCons (eVar 1) aNil))) aNil)))) sNil) (sRet (eTup (aCons (eC (.str "def")) (aCons (eCall1 2 F__law_term (aCons (eVar 0) (aCons (eVar 1) aNil))) (aCons (eCall1 2 F__law_words (aCons (eVar 0) (aCons (eVar 1) aNil))) aNil))))))
noncomputable def C1__law_section (R : Fn) : Ev := (eLcF (iRng1 (eCall1 2 F__law_taken (aCons (eVar 0) (aCons (eOp oAdd (eVar 3) (eC (.int 1))) aNil)))) [6] (.nm 6) tYes (eCall1 2 F__law_row (aCons (eVar 0) (aCons (eVar 1) aNil))))
noncomputable def C2__law_section (R : Fn) : Ev := (eLcF (iRng1 (eVar 5)) [6] (.nm 6) tYes (eCall1 4 R (aCons (eVar 0) (aCons (eVar 1) (aCons (eOp oSub (eVar 2) (eC (.int 1))) (aCons (eVar 3) aNil))))))
noncomputable def F__law_section : Nat → Fn
  | 0 => fun _ _ => .bad
  | n + 1 => fnOf 7 (sSeq (sSet (.nm 4) (eB bTuple (aCons (C1__law_section (F__law_section n)) aNil))) (sSeq (sSet (.nm 5) (eIf (tVal (eOp cGt (eVar 2) (eC (.int 0)))) (eOp oIx (eLstF (aCons (eC (.int 0)) (aCons (eC (.int 1)) (aCons (eCall1 2 F__law_taken (aCons (eVar 0) (aCons (eC (.int 4)) aNil))) aNil)))) (eCall1 2 F__law_taken (aCons (eVar 0) (aCons (eC (.int 3)) aNil)))) (eC (.int 0)))) (sRet (eTup (aCons (eVar 4) (aCons (eB bTuple (aCons (C2__law_section (F__law_section n)) aNil)) aNil))))))
noncomputable def F__law_paper : Fn := fnOf 2 (sSeq (sSet (.nm 1) (eOp oIx (eLstF (aCons (eC (.int 2)) (aCons (eC (.int 4)) (aCons (eC (.int 9)) aNil)))) (eCall1 2 F__law_taken (aCons (eVar 0) (aCons (eC (.int 3)) aNil))))) (sRet (eCall1 4 (F__law_section 12) (aCons (eVar 0) (aCons (eVar 1) (aCons (eC (.int 2)) (aCons (eOp oIx (eLstF (aCons (eC (.int 3)) (aCons (eC (.int 5)) (aCons (eC (.int 12)) aNil)))) (eCall1 2 F__law_taken (aCons (eVar 0) (aCons (eC (.int 3)) aNil)))) aNil)))))))
noncomputable def F__law_at : Nat → Fn
  | 0 => fun _ _ => .bad
  | n + 1 => fnOf 2 (sRet (eIf (tVal (eOp cEq (eVar 1) (eTup aNil))) (eVar 0) (eCall 2 (F__law_at n) (aCons (eOp oIx (eOp oIx (eVar 0) (eC (.int 1))) (eOp oIx (eVar 1) (eC (.int 0)))) (aCons (eSlice (eVar 1) (.at (eC (.int 1))) .no) aNil)))))
noncomputable def C1__law_paths (R : Fn) : Ev := (eLcF (iSeq (eCallF 1 R (aCons (eOp oIx (eOp oIx (eVar 0) (eC (.int 1))) (eVar 2)) aNil))) [3] (.nm 3) tYes (eOp oAdd (eTup (aCons (eVar 2) aNil)) (eVar 3)))
noncomputable def B1__law_paths (R : Fn) : Sv := (sSet (.nm 1) (eOp oAddF (eVar 1) (C1__law_paths R)))
noncomputable def F__law_paths : Nat → Fn
  | 0 => fun _ _ => .bad
  | n + 1 => fnOf 4 (sSeq (sSet (.nm 1) (eLstF (aCons (eTup aNil) aNil))) (sSeq (sFor (.nm 2) (iRng1 (eB bLenS (aCons (eOp oIx (eVar 0) (eC (.int 1))) aNil))) (B1__law_paths (F__law_paths n))) (sRet (eVar 1))))
noncomputable def C1__law_places : Ev := (eLcF (iRng1 (eB bLenS (aCons (eOp oIx (eCallF 2 (F__law_at 12) (aCons (eVar 0) (aCons (eVar 2) aNil))) (eC (.int 0))) aNil))) [3] (.nm 3) tYes (eTup (aCons (eVar 2) (aCons (eVar 3) aNil))))
noncomputable def B1__law_places : Sv := (sExpr (eM mExtend (eVar 1) (aCons C1__law_places aNil)))
noncomputable def F__law_places : Fn := fnOf 4 (sSeq (sSet (.nm 1) (eLst aNil)) (sSeq (sFor (.nm 2) (iSeq (eCallF 1 (F__law_paths 12) (aCons (eVar 0) aNil))) B1__law_places) (sRet (eVar 1))))
noncomputable def F__law_line : Fn := fnOf 2 (sRet (eOp oIx (eOp oIx (eCallF 2 (F__law_at 12) (aCons (eVar 0) (aCons (eOp oIx (eVar 1) (eC (.int 0))) aNil))) (eC (.int 0))) (eOp oIx (eVar 1) (eC (.int 1)))))
noncomputable def C1__law_uses : Ev := (eLcF (iRng1 (eB bLenS (aCons (eVar 3) aNil))) [4] (.nm 4) (tVal (eIsi (eOp oIx (eVar 3) (eVar 4)) [.tuple])) (eTup (aCons (eOp oAdd (eVar 2) (eTup (aCons (eVar 4) aNil))) (aCons (eOp oIx (eOp oIx (eVar 3) (eVar 4)) (eC (.int 1))) aNil))))
noncomputable def B1__law_uses : Sv := (sSeq (sSet (.nm 3) (eOp oIx (eCallF 2 F__law_line (aCons (eVar 0) (aCons (eVar 2) aNil))) (eUn uNeg (eC (.int 1))))) (sExpr (eMD mUpdate (eVar 1) (aCons C1__law_uses aNil))))
noncomputable def F__law_uses : Fn := fnOf 5 (sSeq (sSet (.nm 1) eDct0) (sSeq (sFor (.nm 2) (iSeq (eCallF 1 F__law_places (aCons (eVar 0) aNil))) B1__law_uses) (sRet (eVar 1))))
end Df
namespace Df
end Df
namespace Df
noncomputable def F_is_number : Fn := fnOf 3 (sRet (eAnd (eIsi (eVar 0) [.int]) (eAnd (eNot (eIsi (eVar 0) [.bool])) (eChain cLe cLe (eVar 1) (eVar 0) (eVar 2)))))
noncomputable def B1_is_path : Sv := (sSeq (sIf (tNot (tVal (eCallF 3 F_is_number (aCons (eVar 3) (aCons (eC (.int 0)) (aCons (eOp oSub (eB bLenS (aCons (eOp oIx (eVar 2) (eC (.int 1))) aNil)) (eC (.int 1))) aNil)))))) (sRet (eC (.bl false))) sNil) (sSet (.nm 2) (eOp oIx (eOp oIx (eVar 2) (eC (.int 1))) (eVar 3))))
noncomputable def F_is_path : Fn := fnOf 4 (sSeq (sIf (tNot (tVal (eIsi (eVar 1) [.tuple]))) (sRet (eC (.bl false))) sNil) (sSeq (sSet (.nm 2) (eVar 0)) (sSeq (sFor (.nm 3) (iSeq (eVar 1)) B1_is_path) (sRet (eC (.bl true))))))
noncomputable def F_with_rows : Nat → Fn
  | 0 => fun _ _ => .bad
  | n + 1 => fnOf 4 (sSeq (sIf (tVal (eOp cEq (eVar 1) (eTup aNil))) (sRet (eTup (aCons (eVar 2) (aCons (eOp oIx (eVar 0) (eC (.int 1))) aNil)))) sNil) (sSeq (sSet (.nm 3) (eB bList (aCons (eOp oIx (eVar 0) (eC (.int 1))) aNil))) (sSeq (sPut pLst (eVar 3) (eOp oIx (eVar 1) (eC (.int 0))) (eCallF 3 (F_with_rows n) (aCons (eOp oIx (eVar 3) (eOp oIx (eVar 1) (eC (.int 0)))) (aCons (eSlice (eVar 1) (.at (eC (.int 1))) .no) (aCons (eVar 2) aNil))))) (sRet (eTup (aCons (eOp oIx (eVar 0) (eC (.int 0))) (aCons (eB bTuple (aCons (eVar 3) aNil)) aNil)))))))
noncomputable def F__law_with : Nat → Fn
  | 0 => fun _ _ => .bad
  | n + 1 => fnOf 4 (sSeq (sIf (tVal (eOp cEq (eVar 1) (eTup aNil))) (sRet (eTup (aCons (eB bTuple (aCons (eVar 2) aNil)) (aCons (eOp oIx (eVar 0) (eC (.int 1))) aNil)))) sNil) (sSeq (sSet (.nm 3) (eOp oIx (eVar 1) (eC (.int 0)))) (sRet (eTup (aCons (eOp oIx (eVar 0) (eC (.int 0))) (aCons (eOp oAdd (eOp oAdd (eSlice (eOp oIx (eVar 0) (eC (.int 1))) .no (.at (eVar 3))) (eTup (aCons (eCallF 3 (F__law_with n) (aCons (eOp oIx (eOp oIx (eVar 0) (eC (.int 1))) (eVar 3)) (aCons (eSlice (eVar 1) (.at (eC (.int 1))) .no) (aCons (eVar 2) aNil)))) aNil))) (eSlice (eOp oIx (eVar 0) (eC (.int 1))) (.at (eOp oAdd (eVar 3) (eC (.int 1)))) .no)) aNil))))))
end Df
namespace Df
end Df
namespace Df
end Df
namespace Df
noncomputable def F_is_edit : Fn := fnOf 5 (sSeq (sIf (tOr (tNot (tVal (eIsi (eVar 1) [.tuple]))) (tOr (tVal (eOp cLt (eB bLenS (aCons (eVar 1) aNil)) (eC (.int 2)))) (tVal (eOp cInD (eVar 1) (eVar 2))))) (sRet (eC (.bl false))) sNil) (sSeq (sIf (tVal (eOp cEq (eOp oIx (eVar 1) (eC (.int 0))) (eC (.str "add")))) (sRet (eAnd (eOp cEq (eB bLenS (aCons (eVar 1) aNil)) (eC (.int 2))) (eCallF 1 F_is_word (aCons (eOp oIx (eVar 1) (eC (.int 1))) aNil)))) sNil) (sSeq (sIf (tOr (tVal (eOp cNe (eOp oIx (eVar 1) (eC (.int 0))) (eC (.str "plain")))) (tOr (tVal (eOp cNe (eB bLenS (aCons (eVar 1) aNil)) (eC (.int 4)))) (tNot (tVal (eCallF 2 F_is_path (aCons (eVar 0) (aCons (eOp oIx (eVar 1) (eC (.int 1))) aNil))))))) (sRet (eC (.bl false))) sNil) (sSeq (sSet (.nm 3) (eOp oIx (eCallF 2 F_section_at (aCons (eVar 0) (aCons (eOp oIx (eVar 1) (eC (.int 1))) aNil))) (eC (.int 0)))) (sSeq (sIf (tNot (tVal (eCallF 3 F_is_number (aCons (eOp oIx (eVar 1) (eC (.int 2))) (aCons (eC (.int 0)) (aCons (eOp oSub (eB bLenS (aCons (eVar 3) aNil)) (eC (.int 1))) aNil)))))) (sRet (eC (.bl false))) sNil) (sSeq (sSet (.nm 4) (eOp oIx (eOp oIx (eVar 3) (eOp oIx (eVar 1) (eC (.int 2)))) (eUn uNeg (eC (.int 1))))) (sRet (eAnd (eCallF 3 F_is_number (aCons (eOp oIx (eVar 1) (eC (.int 3))) (aCons (eC (.int 0)) (aCons (eOp oSub (eB bLenS (aCons (eVar 4) aNil)) (eC (.int 1))) aNil)))) (eCallF 1 F_is_use (aCons (eOp oIx (eVar 4) (eOp oIx (eVar 1) (eC (.int 3)))) aNil))))))))))
noncomputable def F_plain : Fn := fnOf 8 (sSeq (sSet (.tp [2, 3, 4]) (eVar 1)) (sSeq (sSet (.nm 5) (eOp oIx (eCallF 2 F_section_at (aCons (eVar 0) (aCons (eVar 2) aNil))) (eC (.int 0)))) (sSeq (sSet (.nm 6) (eOp oIx (eOp oIx (eVar 5) (eVar 3)) (eUn uNeg (eC (.int 1))))) (sSeq (sSet (.nm 7) (eOp oAdd (eSlice (eOp oIx (eVar 5) (eVar 3)) .no (.at (eUn uNeg (eC (.int 1))))) (eTup (aCons (eOp oAdd (eOp oAdd (eSlice (eVar 6) .no (.at (eVar 4))) (eTup (aCons (eOp oIx (eOp oIx (eVar 6) (eVar 4)) (eC (.int 1))) aNil))) (eSlice (eVar 6) (.at (eOp oAdd (eVar 4) (eC (.int 1)))) .no)) aNil)))) (sRet (eCall 3 (F_with_rows 12) (aCons (eVar 0) (aCons (eVar 2) (aCons (eOp oAdd (eOp oAdd (eSlice (eVar 5) .no (.at (eVar 3))) (eTup (aCons (eVar 7) aNil))) (eSlice (eVar 5) (.at (eOp oAdd (eVar 3) (eC (.int 1)))) .no)) aNil)))))))))
noncomputable def B1_mended : Sv := (sSeq (sIf (tOr (tNot (tVal (eNE (eCallA 3 F_is_edit (aCons (eVar 0) (aCons (eVar 6) (aCons (eVar 2) aNil))))))) (tAnd (tVal (eOp cEq (eOp oIx (eVar 6) (eC (.int 0))) (eC (.str "add")))) (tVal (eOp cEq (eOp oAdd (eB bLenS (aCons (eOp oIx (eVar 0) (eC (.int 0))) aNil)) (eB bLenS (aCons (eVar 3) aNil))) (eC (.int 12)))))) (sRaise1 "BadEdit" (eVar 5)) sNil) (sSeq (sPut pDct (eVar 2) (eVar 6) (eC (.bl true))) (sIf (tVal (eOp cEq (eOp oIx (eVar 6) (eC (.int 0))) (eC (.str "add")))) (sSet (.nm 3) (eOp oAdd (eVar 3) (eTup (aCons (eTup (aCons (eC (.str "def")) (aCons (eOp oIx (eVar 6) (eC (.int 1))) (aCons (eTup aNil) aNil)))) aNil)))) (sSet (.nm 4) (eNE (eCallF 2 F_plain (aCons (eVar 4) (aCons (eSlice (eVar 6) (.at (eC (.int 1))) .no) aNil))))))))
noncomputable def F_mended : Fn := fnOf 7 (sSeq (sExpr (eNE (eCallF 1 F_need_paper (aCons (eVar 0) aNil)))) (sSeq (sSet (.nm 2) eDct0) (sSeq (sSet (.nm 3) (eTup aNil)) (sSeq (sSet (.nm 4) (eVar 0)) (sSeq (sFor (.tp [5, 6]) (iEnum (eVar 1)) B1_mended) (sRet (eTup (aCons (eOp oAdd (eVar 3) (eOp oIx (eVar 4) (eC (.int 0)))) (aCons (eOp oIx (eVar 4) (eC (.int 1))) aNil)))))))))
noncomputable def H__law_word : Sv := (sSeq (sSet (.nm 2) (eLst (aCons (eIsX ["BadPaper"] (eVar 1)) (aCons (eIsX ["BadEdit"] (eVar 1)) (aCons (eIsX ["BadText"] (eVar 1)) (aCons (eIsX ["BadPlace"] (eVar 1)) aNil)))))) (sSeq (sSet (.nm 2) (eOp oAdd (eVar 2) (eLstF (aCons (eIsX ["BadRow"] (eVar 1)) (aCons (eIsX ["Full"] (eVar 1)) (aCons (eIsX ["TooLong"] (eVar 1)) (aCons (eIsX ["TooMany"] (eVar 1)) aNil))))))) (sSeq (sIf (tOr (tVal (eOp cNe (eM mCount (eVar 2) (aCons (eC (.bl true)) aNil)) (eC (.int 1)))) (tNot (tVal (eIsX eight (eVar 1))))) (sRet (eC (.str "other"))) sNil) (sSeq (sSet (.nm 3) (eOp oIx (eLstF (aCons (eC (.str "paper")) (aCons (eC (.str "edit")) (aCons (eC (.str "text")) (aCons (eC (.str "place")) (aCons (eC (.str "row")) (aCons (eC (.str "full")) (aCons (eC (.str "long")) (aCons (eC (.str "many")) aNil))))))))) (eM mIndex (eVar 2) (aCons (eC (.bl true)) aNil)))) (sSeq (sIf (tVal (eOp cEq (eVar 3) (eC (.str "paper")))) (sRet (eTup (aCons (eVar 3) (aCons eNever aNil)))) sNil) (sSeq (sIf (tVal (eOp cEq (eVar 3) (eC (.str "edit")))) (sRet (eTup (aCons (eVar 3) (aCons (eXf (eVar 1)) aNil)))) sNil) (sRet (eIf (tVal (eOp cEq (eVar 3) (eC (.str "text")))) (eTup (aCons (eVar 3) (aCons eNever aNil))) (eVar 3)))))))))
noncomputable def B1__law_edited : Sv := (sIf (tVal (eOp cEq (eOp oIx (eVar 3) (eC (.int 0))) (eC (.str "plain")))) (sSeq (sSet (.tp [4, 5, 6]) (eSlice (eVar 3) (.at (eC (.int 1))) .no)) (sSeq (sSet (.nm 7) (eOp oIx (eCallF 2 (F__law_at 12) (aCons (eVar 2) (aCons (eVar 4) aNil))) (eC (.int 0)))) (sSeq (sSet (.nm 8) (eOp oIx (eOp oIx (eVar 7) (eVar 5)) (eUn uNeg (eC (.int 1))))) (sSeq (sSet (.nm 9) (eOp oAdd (eSlice (eOp oIx (eVar 7) (eVar 5)) .no (.at (eUn uNeg (eC (.int 1))))) (eTup (aCons (eOp oAdd (eOp oAdd (eSlice (eVar 8) .no (.at (eVar 6))) (eTup (aCons (eOp oIx (eOp oIx (eVar 8) (eVar 6)) (eC (.int 1))) aNil))) (eSlice (eVar 8) (.at (eOp oAdd (eVar 6) (eC (.int 1)))) .no)) aNil)))) (sSet (.nm 2) (eCallF 3 (F__law_with 12) (aCons (eVar 2) (aCons (eVar 4) (aCons (eOp oAdd (eOp oAdd (eSlice (eVar 7) .no (.at (eVar 5))) (eTup (aCons (eVar 9) aNil))) (eSlice (eVar 7) (.at (eOp oAdd (eVar 5) (eC (.int 1)))) .no)) aNil))))))))) sNil)
noncomputable def C1__law_edited : Ev := (eLcF (iSeq (eVar 1)) [3] (.nm 3) (tVal (eOp cEq (eOp oIx (eVar 3) (eC (.int 0))) (eC (.str "add")))) (eTup (aCons (eC (.str "def")) (aCons (eOp oIx (eVar 3) (eC (.int 1))) (aCons (eTup aNil) aNil)))))
noncomputable def F__law_edited : Fn := fnOf 11 (sSeq (sSet (.nm 2) (eVar 0)) (sSeq (sFor (.nm 3) (iSeq (eVar 1)) B1__law_edited) (sSeq (sSet (.nm 10) (eB bTuple (aCons C1__law_edited aNil))) (sRet (eTup (aCons (eOp oAdd (eVar 10) (eOp oIx (eVar 2) (eC (.int 0)))) (aCons (eOp oIx (eVar 2) (eC (.int 1))) aNil)))))))
noncomputable def C2__law_odd : Ev := (eLcF (iRng1 (eB bLenS (aCons (eVar 7) aNil))) [9] (.nm 9) (tVal (eIsi (eOp oIx (eVar 7) (eVar 9)) [.str])) (eTup (aCons (eC (.str "plain")) (aCons (eVar 5) (aCons (eVar 6) (aCons (eVar 9) aNil))))))
noncomputable def F__law_odd : Fn := fnOf 10 (sSeq (sSet (.nm 3) (eOp oMul (eCall1 2 F__law_taken (aCons (eVar 0) (aCons (eC (.int 99)) aNil))) (eCall1 2 F__law_taken (aCons (eVar 0) (aCons (eC (.int 2)) aNil))))) (sSeq (sSet (.nm 4) (eCallF 1 F__law_places (aCons (eVar 1) aNil))) (sSeq (sSet (.tp [5, 6]) (eIf (tVal (eOp cNe (eVar 4) (eLstF aNil))) (eOp oIx (eVar 4) (eCall1 2 F__law_taken (aCons (eVar 0) (aCons (eB bLenS (aCons (eVar 4) aNil)) aNil)))) (eTup (aCons (eTup aNil) (aCons (eC (.int 0)) aNil))))) (sSeq (sSet (.nm 7) (eIf (tVal (eOp cNe (eVar 4) (eLstF aNil))) (eOp oIx (eCallF 2 F__law_line (aCons (eVar 1) (aCons (eTup (aCons (eVar 5) (aCons (eVar 6) aNil))) aNil))) (eUn uNeg (eC (.int 1)))) (eTup aNil))) (sSeq (sSet (.nm 8) (eLst (aCons (eTup aNil) (aCons (eTup (aCons (eC (.str "add")) aNil)) (aCons (eTup (aCons (eC (.str "add")) (aCons (eC (.str "")) aNil))) (aCons (eTup (aCons (eC (.str "add")) (aCons (eC (.str "A")) aNil))) (aCons (eTup (aCons (eC (.str "add")) (aCons (eOp oMulS (eC (.str "a")) (eOp oAdd (eC (.int 9)) (eVar 3))) aNil))) (aCons (eTup (aCons (eC (.str "add")) (aCons (eVar 3) aNil))) (aCons (eTup (aCons (eC (.str "add")) (aCons (eC (.str "a")) (aCons (eC (.str "b")) aNil)))) aNil))))))))) (sSeq (sSet (.nm 8) (eOp oAdd (eVar 8) (eLstF (aCons (eTup (aCons (eC (.str "Add")) (aCons (eC (.str "a")) aNil))) (aCons (eTup (aCons (eC (.str "plain")) (aCons (eVar 5) (aCons (eVar 6) (aCons (eOp oAdd (eB bLenS (aCons (eVar 7) aNil)) (eVar 3)) aNil))))) (aCons (eTup (aCons (eC (.str "plain")) (aCons (eVar 5) (aCons (eVar 6) (aCons (eOp oSub (eOp oSub (eC (.int 0)) (eC (.int 1))) (eVar 3)) aNil))))) aNil)))))) (sSeq (sExpr (eM mAppend (eVar 8) (aCons (eTup (aCons (eC (.str "plain")) (aCons (eVar 5) (aCons (eVar 6) aNil)))) aNil))) (sSeq (sSet (.nm 8) (eOp oAdd (eVar 8) (eLstF (aCons (eTup (aCons (eC (.str "plain")) (aCons (eVar 5) (aCons (eOp oAdd (eC (.int 12)) (eVar 3)) (aCons (eC (.int 0)) aNil))))) (aCons (eTup (aCons (eC (.str "plain")) (aCons (eVar 5) (aCons (eOp oSub (eOp oSub (eC (.int 0)) (eC (.int 1))) (eVar 3)) (aCons (eC (.int 0)) aNil))))) (aCons (eTup (aCons (eC (.str "plain")) (aCons (eTup (aCons (eOp oAdd (eC (.int 3)) (eVar 3)) aNil)) (aCons (eC (.int 0)) (aCons (eC (.int 0)) aNil))))) aNil)))))) (sSeq (sSet (.nm 8) (eOp oAdd (eVar 8) C2__law_odd)) (sSeq (sIf (tAnd (tVal (eOp cNe (eVar 2) (eLstF aNil))) (tVal (eOp cEq (eCall1 2 F__law_taken (aCons (eVar 0) (aCons (eC (.int 3)) aNil))) (eC (.int 0))))) (sRet (eOp oIx (eVar 2) (eCall1 2 F__law_taken (aCons (eVar 0) (aCons (eB bLenS (aCons (eVar 2) aNil)) aNil))))) sNil) (sRet (eOp oIx (eVar 8) (eCall1 2 F__law_taken (aCons (eVar 0) (aCons (eB bLenS (aCons (eVar 8) aNil)) aNil)))))))))))))))
end Df
namespace Df
noncomputable def C1_law : Ev := (eLcF (iKeys (eCallF 1 F__law_uses (aCons (eVar 3) aNil))) [11] (.nm 11) tYes (eOp oAdd (eTup (aCons (eC (.str "plain")) aNil)) (eVar 11)))
noncomputable def C2_law : Ev := (eLcF (iSeq (eTup (aCons (eC (.str "b")) (aCons (eC (.str "a")) (aCons (eC (.str "q")) (aCons (eC (.str "zzzzzzzz")) aNil)))))) [12] (.nm 12) tYes (eTup (aCons (eC (.str "add")) (aCons (eVar 12) aNil))))
noncomputable def C3_law : Ev := (eLcF (iKeys (eCallF 1 F__law_uses (aCons (eVar 3) aNil))) [11] (.nm 11) tYes (eOp oAdd (eTup (aCons (eC (.str "plain")) aNil)) (eVar 11)))
noncomputable def C4_law : Ev := (eLcF (iSeq (eTup (aCons (eC (.str "b")) (aCons (eC (.str "a")) (aCons (eC (.str "q")) (aCons (eC (.str "zzzzzzzz")) aNil)))))) [12] (.nm 12) tYes (eTup (aCons (eC (.str "add")) (aCons (eVar 12) aNil))))
noncomputable def B1_law : Sv := (sIf (tVal (eOp cNe (eVar 4) (eLstF aNil))) (sExpr (eM mAppend (eVar 5) (aCons (eM mPopAt (eVar 4) (aCons (eCall1 2 F__law_taken (aCons (eVar 1) (aCons (eB bLenS (aCons (eVar 4) aNil)) aNil))) aNil)) aNil))) sNil)
noncomputable def C5_law : Ev := (eLcF (iRng1 (eB bLenS (aCons (eVar 5) aNil))) [6] (.nm 6) (tVal (eOp cEq (eOp oIx (eOp oIx (eVar 5) (eVar 6)) (eC (.int 0))) (eC (.str "add")))) (eVar 6))
noncomputable def C6_law : Ev := (eLcF (iSeq (eVar 5)) [13] (.nm 13) (tVal (eOp cEq (eOp oIx (eVar 13) (eC (.int 0))) (eC (.str "plain")))) (eVar 13))
noncomputable def C7_law : Ev := (eLcF (iSeq (eVar 5)) [13] (.nm 13) (tVal (eOp cEq (eOp oIx (eVar 13) (eC (.int 0))) (eC (.str "plain")))) (eVar 13))
noncomputable def B2_law : Sv := (sSeq (sSet (.nm 3) (eCall1 1 F__law_paper (aCons (eVar 1) aNil))) (sSeq (sSet (.nm 4) (eOp oAdd C3_law C4_law)) (sSeq (sSet (.nm 5) (eLst aNil)) (sSeq (sFor (.nm 6) (iRng1 (eOp oAdd (eOp oMul (eCall1 2 F__law_taken (aCons (eVar 1) (aCons (eOp oAdd (eB bLenS (aCons (eVar 4) aNil)) (eC (.int 1))) aNil))) (eCall1 2 F__law_taken (aCons (eVar 1) (aCons (eC (.int 2)) aNil)))) (eCall1 2 F__law_taken (aCons (eVar 1) (aCons (eC (.int 4)) aNil))))) B1_law) (sSeq (sFrz 5) (sSeq (sSet (.nm 7) (eOp oSub (eC (.int 12)) (eB bLenS (aCons (eOp oIx (eVar 3) (eC (.int 0))) aNil)))) (sSeq (sSet (.nm 8) C5_law) (sSeq (sIf (tVal (eOp cGt (eB bLenS (aCons (eVar 8) aNil)) (eVar 7))) (sSeq (sIf (tVal (eOp cNe (eWordV ["BadEdit"] (eCall 2 F_mended (aCons (eVar 3) (aCons (eVar 5) aNil)))) (eTup (aCons (eC (.str "edit")) (aCons (eOp oIx (eVar 8) (eVar 7)) aNil))))) (sRet (eC (.bl false))) sNil) (sSet (.nm 5) (eFrz (eOp oAdd C7_law (eOp oMulL (eLst (aCons (eTup (aCons (eC (.str "add")) (aCons (eC (.str "b")) aNil))) aNil)) (eInt (eOp cGt (eVar 7) (eC (.int 0))))))))) sNil) (sSeq (sSet (.nm 9) (eB bListF (aCons (eVar 5) aNil))) (sSeq (sIf (tOr (tNot (tVal (eCallF 2 (F__law_alike 12) (aCons (eCallF 2 F_mended (aCons (eVar 3) (aCons (eVar 9) aNil))) (aCons (eCallA 2 F__law_edited (aCons (eVar 3) (aCons (eVar 5) aNil))) aNil))))) (tVal (eOp cNe (eVar 9) (eVar 5)))) (sRet (eC (.bl false))) sNil) (sSeq (sSet (.nm 6) (eCall1 2 F__law_taken (aCons (eVar 1) (aCons (eOp oAdd (eB bLenS (aCons (eVar 5) aNil)) (eC (.int 1))) aNil)))) (sSeq (sSet (.nm 10) (eOp oAddF (eOp oAddF (eOp oAddF (eSliceF (eVar 5) .no (.at (eVar 6))) (eLstF (aCons (eCall1 3 F__law_odd (aCons (eVar 1) (aCons (eVar 3) (aCons (eSliceF (eVar 5) .no (.at (eVar 6))) aNil)))) aNil))) (eSliceF (eVar 5) (.at (eVar 6)) .no)) (eOp oMulL (eLst (aCons (eTup aNil) aNil)) (eCall1 2 F__law_taken (aCons (eVar 1) (aCons (eC (.int 2)) aNil)))))) (sIf (tVal (eOp cNe (eWordV ["BadEdit"] (eCall 2 F_mended (aCons (eVar 3) (aCons (eVar 10) aNil)))) (eTup (aCons (eC (.str "edit")) (aCons (eVar 6) aNil))))) (sRet (eC (.bl false))) sNil)))))))))))))
noncomputable def F_law : Fn := fnOf 14 (sSeq (sSet (.nm 1) (eLst (aCons (eVar 0) (aCons (eC (.int 0)) (aCons (eC (.int 0)) (aCons (eC (.int 0)) aNil)))))) (sSeq (sFor (.nm 2) (iRng1 (eC (.int 3))) B2_law) (sRet (eC (.bl true)))))
end Df
namespace Df
open PySem PySem.Spec PyProof.Rows L2
def topS (i : Nat) : Stmt := PySem.Challenge.pw_defterms_k15_edits_done.main.body.getD i (.Pass ⟨0, 0, 0, 0⟩)
structure Top (cl : Cl) (K : PySem.W.Frag) (mg : Str → Option Value) : Prop where
  f_is_number : FnAt K mg "is_number" (topS 20) ["part", "low", "high"]
  f_is_word : FnAt K mg "is_word" (topS 21) ["part"]
  f_is_use : FnAt K mg "is_use" (topS 22) ["part"]
  f_are_words : FnAt K mg "are_words" (topS 23) ["part"]
  f_is_row : FnAt K mg "is_row" (topS 24) ["row"]
  f_need_section : FnAt K mg "need_section" (topS 25) ["part", "path"]
  f_need_paper : FnAt K mg "need_paper" (topS 26) ["paper"]
  f_section_at : FnAt K mg "section_at" (topS 27) ["paper", "path"]
  f_is_path : FnAt K mg "is_path" (topS 28) ["paper", "path"]
  f_with_rows : FnAt K mg "with_rows" (topS 29) ["paper", "path", "rows"]
  f_is_edit : FnAt K mg "is_edit" (topS 33) ["paper", "edit", "known"]
  f_plain : FnAt K mg "plain" (topS 34) ["paper", "use"]
  f_mended : FnAt K mg "mended" (topS 35) ["paper", "edits"]
  f__law_taken : FnAt K mg "_law_taken" (topS 37) ["_law_row_here", "_law_many"]
  f__law_alike : FnAt K mg "_law_alike" (topS 38) ["_law_found", "_law_due"]
  f__law_word : FnAt K mg "_law_word" (topS 39) ["_law_work"]
  f__law_term : FnAt K mg "_law_term" (topS 40) ["_law_row_here", "_law_few"]
  f__law_words : FnAt K mg "_law_words" (topS 41) ["_law_row_here", "_law_few"]
  f__law_row : FnAt K mg "_law_row" (topS 42) ["_law_row_here", "_law_few"]
  f__law_section : FnAt K mg "_law_section" (topS 43) ["_law_row_here", "_law_few", "_law_deep", "_law_most"]
  f__law_paper : FnAt K mg "_law_paper" (topS 44) ["_law_row_here"]
  f__law_at : FnAt K mg "_law_at" (topS 45) ["_law_paper_here", "_law_path"]
  f__law_paths : FnAt K mg "_law_paths" (topS 46) ["_law_paper_here"]
  f__law_places : FnAt K mg "_law_places" (topS 47) ["_law_paper_here"]
  f__law_line : FnAt K mg "_law_line" (topS 48) ["_law_paper_here", "_law_place"]
  f__law_uses : FnAt K mg "_law_uses" (topS 49) ["_law_paper_here"]
  f__law_with : FnAt K mg "_law_with" (topS 50) ["_law_paper_here", "_law_path", "_law_rows"]
  f__law_edited : FnAt K mg "_law_edited" (topS 51) ["_law_paper_here", "_law_edits"]
  f__law_odd : FnAt K mg "_law_odd" (topS 52) ["_law_row_here", "_law_paper_here", "_law_ahead"]
  c_MOST_ROWS : ∃ t, mg "MOST_ROWS" = some (.int 12 t)
  c_MOST_INNER : ∃ t, mg "MOST_INNER" = some (.int 3 t)
  c_MOST_DEEP : ∃ t, mg "MOST_DEEP" = some (.int 2 t)
  c_MOST_WORDS : ∃ t, mg "MOST_WORDS" = some (.int 8 t)
  c_MOST_LETTERS : ∃ t, mg "MOST_LETTERS" = some (.int 8 t)
  c_LETTERS : ∃ t, mg "LETTERS" = some (.str "abcdefghijklmnopqrstuvwxyz" t)
  c_DEF : ∃ t, mg "DEF" = some (.str "def" t)
  c_SAY : ∃ t, mg "SAY" = some (.str "say" t)
  c_USE : ∃ t, mg "USE" = some (.str "use" t)
  c_PLAIN : ∃ t, mg "PLAIN" = some (.str "plain" t)
  c_ADD : ∃ t, mg "ADD" = some (.str "add" t)
  b_ValueError : mg "ValueError" = none
  b_bool : mg "bool" = none
  b_enumerate : mg "enumerate" = none
  b_int : mg "int" = none
  b_isinstance : mg "isinstance" = none
  b_len : mg "len" = none
  b_list : mg "list" = none
  b_range : mg "range" = none
  b_str : mg "str" = none
  b_tuple : mg "tuple" = none
  g_BadPaper : mg "BadPaper" = some (.ref (cl.f "BadPaper"))
  g_BadEdit : mg "BadEdit" = some (.ref (cl.f "BadEdit"))
  g_BadText : mg "BadText" = some (.ref (cl.f "BadText"))
  g_BadPlace : mg "BadPlace" = some (.ref (cl.f "BadPlace"))
  g_BadRow : mg "BadRow" = some (.ref (cl.f "BadRow"))
  g_Full : mg "Full" = some (.ref (cl.f "Full"))
  g_TooLong : mg "TooLong" = some (.ref (cl.f "TooLong"))
  g_TooMany : mg "TooMany" = some (.ref (cl.f "TooMany"))
  g_TermError : mg "TermError" = some (.ref (cl.f "TermError"))
  v_BadEdit : ErrV cl K mg "BadEdit" "number"
  nf : ∀ c0 ∈ (["BadEdit"] : List String), PySem.W.findIn K (.ref (cl.f c0)) "number" = some none ∧ ("number" : Str) = fldOf c0
  hS : ∀ c0 ∈ (["BadEdit"] : List String), HoldC cl K c0
theorem ini_BadEdit {K : PySem.W.Frag} {mg : Str → Option Value} {f C C0 : Addr} {fd : FuncData} {mc : Value} (F : Fun K "__init__" "BadEdit.__init__" (mth (topS 5) 0) f fd) (T : OexC K C) (hno : PySem.W.findIn K (.ref C) "number" = some none) (hm : mg "TermError" = some (.ref C0)) (hsp : PySem.W.specialIn K (.ref C0) "__getattribute__" = some (some (.builtin "type.__getattribute__"))) (hty : PySem.W.typeIn K (.ref C0) = some mc) (hrd : PySem.W.readsIn K C0 mc = true) (hfc : PySem.W.findCls K (.ref C0) mc "__init__" = some (.val (.builtin "ValueError.__init__"))) (P : Program) (w : World) (base : Heap) : FnOk P w K mg base L2.CX0 1 f fd ["self", "number"] (spI C "number") :=
  init_ok (txt := "edit ") F ⟨rfl, rfl, rfl, by decide +kernel, rfl, by decide +kernel, by decide +kernel⟩ T rfl (by decide) hno (fun _ => rfl) rfl (Or.inl rfl) (Or.inl rfl) (by decide) (by decide) hm hsp hty hrd hfc

section
variable {cl : Cl} {P : Program} {w : World} {K : PySem.W.Frag} {mg : Str → Option Value} {base : Heap}
theorem sc_is_number : FnScope ["part", "low", "high"] ["part", "low", "high"] (defScope (topS 20)) := ⟨rfl, rfl, rfl, by decide +kernel, rfl, by decide +kernel, by decide +kernel⟩
theorem ok_is_number (T : Top cl K mg) : OkFn cl P w K mg base "is_number" ["part", "low", "high"] 1 F_is_number :=
  ok_fn (N := (["part", "low", "high"] : List Str)) 3 0 T.f_is_number sc_is_number rfl (fun f cdv A outer s H E hr =>
    have nd : (["part", "low", "high"] : List Str).Nodup := sc_is_number.nd
    (ds_one (ds_ret (de_and (de_isi .int T.b_isinstance (de_var 0) T.b_int) (de_and (de_not (de_isi .bool T.b_isinstance (de_var 0) T.b_bool)) (de_one (de_chain op_le d_le op_le d_le (de_var 1) (de_var 0) (de_var 2))))))))
theorem sc_is_word : FnScope ["part", "sign"] ["part"] (defScope (topS 21)) := ⟨rfl, rfl, rfl, by decide +kernel, rfl, by decide +kernel, by decide +kernel⟩
theorem ok_is_word (T : Top cl K mg) : OkFn cl P w K mg base "is_word" ["part"] 1 F_is_word :=
  ok_fn (N := (["part", "sign"] : List Str)) 2 0 T.f_is_word sc_is_word rfl (fun f cdv A outer s H E hr =>
    have nd : (["part", "sign"] : List Str).Nodup := sc_is_word.nd
    (ds_cons (ds_if (dt_w (dw_or (dt_not (dt_val (de_isi .str T.b_isinstance (de_var 0) T.b_str))) (dw_or1 (dt_not (dt_chain op_le d_le op_le d_le de_int (de_len T.b_len (de_var 0)) (de_gi T.c_MOST_LETTERS)))))) (ds_one (ds_ret de_bl)) ds_nil) (ds_one (ds_ret (de_cmp (op_eqP hr.units) d_eq (de_lc1F 1 rfl nd (di_str (de_var 0)) (by rfl) (fun _ _ _ _ _ => (.one (dt_cmp (op_notInP hr.units) d_notIn (de_var 1) (de_gs T.c_LETTERS) (by with_unfolding_all rfl)))) (fun _ _ _ _ _ => (de_var 1))) (de_lstF da_nil) (nomark _))))))
theorem sc_is_use : FnScope ["part"] ["part"] (defScope (topS 22)) := ⟨rfl, rfl, rfl, by decide +kernel, rfl, by decide +kernel, by decide +kernel⟩
theorem ok_is_use (T : Top cl K mg) : OkFn cl P w K mg base "is_use" ["part"] 2 F_is_use :=
  ok_fn (N := (["part"] : List Str)) 1 1 T.f_is_use sc_is_use rfl (fun f cdv A outer s H E hr =>
    have nd : (["part"] : List Str).Nodup := sc_is_use.nd
    (ds_one (ds_ret (de_and (de_isi .tuple T.b_isinstance (de_var 0) T.b_tuple) (de_and (de_cmp (op_eqP hr.units) d_eq (de_len T.b_len (de_var 0)) de_int (nomark _)) (de_and (de_cmp (op_eqP hr.units) d_eq (de_ix (de_var 0) de_int) (de_gs T.c_USE) (nomark _)) (de_one (c0F 1 ((ok_is_word T).mono (by omega)) hr (da_cons (de_ix (de_var 0) de_int) da_nil)))))))))
theorem sc_are_words : FnScope ["part", "one"] ["part"] (defScope (topS 23)) := ⟨rfl, rfl, rfl, by decide +kernel, rfl, by decide +kernel, by decide +kernel⟩
theorem ok_are_words (T : Top cl K mg) : OkFn cl P w K mg base "are_words" ["part"] 3 F_are_words :=
  ok_fn (N := (["part", "one"] : List Str)) 2 2 T.f_are_words sc_are_words rfl (fun f cdv A outer s H E hr =>
    have nd : (["part", "one"] : List Str).Nodup := sc_are_words.nd
    (ds_cons (ds_if (dt_w (dw_or (dt_not (dt_val (de_isi .tuple T.b_isinstance (de_var 0) T.b_tuple))) (dw_or1 (dt_cmp op_gt d_gt (de_len T.b_len (de_var 0)) (de_gi T.c_MOST_WORDS) (nomark _))))) (ds_one (ds_ret de_bl)) ds_nil) (ds_one (ds_ret (de_cmp (op_eqP hr.units) d_eq (de_lc1F 1 rfl nd (di_seq (de_var 0)) (by rfl) (fun _ _ _ _ _ => (.one (dt_w (dw_and (dt_not (dt_val (c0F 1 ((ok_is_word T).mono (by omega)) hr (da_cons (de_var 1) da_nil)))) (dw_and1 (dt_not (dt_val (c0F 1 ((ok_is_use T).mono (by omega)) hr (da_cons (de_var 1) da_nil))))))))) (fun _ _ _ _ _ => (de_var 1))) (de_lstF da_nil) (nomark _))))))
theorem sc_is_row : FnScope ["row"] ["row"] (defScope (topS 24)) := ⟨rfl, rfl, rfl, by decide +kernel, rfl, by decide +kernel, by decide +kernel⟩
theorem ok_is_row (T : Top cl K mg) : OkFn cl P w K mg base "is_row" ["row"] 4 F_is_row :=
  ok_fn (N := (["row"] : List Str)) 1 3 T.f_is_row sc_is_row rfl (fun f cdv A outer s H E hr =>
    have nd : (["row"] : List Str).Nodup := sc_is_row.nd
    (ds_cons (ds_if (dt_w (dw_or (dt_not (dt_val (de_isi .tuple T.b_isinstance (de_var 0) T.b_tuple))) (dw_or (dt_cmp op_lt d_lt (de_len T.b_len (de_var 0)) de_int (nomark _)) (dw_or1 (dt_not (dt_val (c0F 1 ((ok_are_words T).mono (by omega)) hr (da_cons (de_ix (de_var 0) (de_un un_neg d_neg de_int)) da_nil)))))))) (ds_one (ds_ret de_bl)) ds_nil) (ds_one (ds_ret (de_if (dt_cmp (op_eqP hr.units) d_eq (de_ix (de_var 0) de_int) (de_gs T.c_DEF) (nomark _)) (de_and (de_cmp (op_eqP hr.units) d_eq (de_len T.b_len (de_var 0)) de_int (nomark _)) (de_one (c0F 1 ((ok_is_word T).mono (by omega)) hr (da_cons (de_ix (de_var 0) de_int) da_nil)))) (de_and (de_cmp (op_eqP hr.units) d_eq (de_len T.b_len (de_var 0)) de_int (nomark _)) (de_one (de_cmp (op_eqP hr.units) d_eq (de_ix (de_var 0) de_int) (de_gs T.c_SAY) (nomark _)))))))))
theorem sc_need_section : FnScope ["part", "path", "good", "rows", "inner", "number", "row", "one"] ["part", "path"] (defScope (topS 25)) := ⟨rfl, rfl, rfl, by decide +kernel, rfl, by decide +kernel, by decide +kernel⟩
theorem ok_need_section (T : Top cl K mg) : ∀ n, OkFn cl P w K mg base "need_section" ["part", "path"] (4 + n) (F_need_section n)
  | 0 => ok_bad T.f_need_section _
  | n + 1 => ok_fn (N := (["part", "path", "good", "rows", "inner", "number", "row", "one"] : List Str)) 8 (4 + n) T.f_need_section sc_need_section rfl (fun f cdv A outer s H E hr =>
    have nd : (["part", "path", "good", "rows", "inner", "number", "row", "one"] : List Str).Nodup := sc_need_section.nd
    (ds_cons (ds_set 2 nd (de_and (de_isi .tuple T.b_isinstance (de_var 0) T.b_tuple) (de_and (de_cmp (op_eqP hr.units) d_eq (de_len T.b_len (de_var 0)) de_int (nomark _)) (de_and (de_isi .tuple T.b_isinstance (de_ix (de_var 0) de_int) T.b_tuple) (de_one (de_isi .tuple T.b_isinstance (de_ix (de_var 0) de_int) T.b_tuple)))))) (ds_cons (ds_if (dt_not (dt_val (de_var 2))) (ds_one ds_never) ds_nil) (ds_cons (ds_asg (de_var 0) (dg_tup rfl (dgs_cons 3 nd (dgs_cons 4 nd dgs_nil)))) (ds_cons (ds_if (dt_w (dw_or (dt_cmp op_gt d_gt (de_len T.b_len (de_var 3)) (de_gi T.c_MOST_ROWS) (nomark _)) (dw_or (dt_cmp op_gt d_gt (de_len T.b_len (de_var 4)) (de_gi T.c_MOST_INNER) (nomark _)) (dw_or1 (dt_cmp op_gt d_gt (de_len T.b_len (de_var 1)) (de_gi T.c_MOST_DEEP) (nomark _)))))) (ds_one ds_never) ds_nil) (ds_cons (ds_for PassesOwn.never rfl (di_enum T.b_enumerate (de_var 3)) (dg_tup rfl (dgs_cons 5 nd (dgs_cons 6 nd dgs_nil))) (ds_one (ds_if (dt_not (dt_val (c0F 1 ((ok_is_row T).mono (by omega)) hr (da_cons (de_var 6) da_nil)))) (ds_one ds_never) ds_nil))) (ds_one (ds_for PassesOwn.never rfl (di_enum T.b_enumerate (de_var 4)) (dg_tup rfl (dgs_cons 5 nd (dgs_cons 7 nd dgs_nil))) (ds_one (ds_expr (c0F 2 (ok_need_section T n) hr (da_cons (de_var 7) (da_cons (de_op op_addAll d_add (de_var 1) (de_tup (da_cons (de_var 5) da_nil))) da_nil)))))))))))))
theorem sc_need_paper : FnScope ["paper"] ["paper"] (defScope (topS 26)) := ⟨rfl, rfl, rfl, by decide +kernel, rfl, by decide +kernel, by decide +kernel⟩
theorem ok_need_paper (T : Top cl K mg) : OkFn cl P w K mg base "need_paper" ["paper"] 17 F_need_paper :=
  ok_fn (N := (["paper"] : List Str)) 1 16 T.f_need_paper sc_need_paper rfl (fun f cdv A outer s H E hr =>
    have nd : (["paper"] : List Str).Nodup := sc_need_paper.nd
    (ds_one (ds_expr (c0F 2 ((ok_need_section T 12).mono (by omega)) hr (da_cons (de_var 0) (da_cons (de_tup da_nil) da_nil))))))
theorem sc_section_at : FnScope ["paper", "path", "found", "number"] ["paper", "path"] (defScope (topS 27)) := ⟨rfl, rfl, rfl, by decide +kernel, rfl, by decide +kernel, by decide +kernel⟩
theorem ok_section_at (T : Top cl K mg) : OkFn cl P w K mg base "section_at" ["paper", "path"] 1 F_section_at :=
  ok_fn (N := (["paper", "path", "found", "number"] : List Str)) 4 0 T.f_section_at sc_section_at rfl (fun f cdv A outer s H E hr =>
    have nd : (["paper", "path", "found", "number"] : List Str).Nodup := sc_section_at.nd
    (ds_cons (ds_set 2 nd (de_var 0)) (ds_cons (ds_for PassesOwn.never rfl (di_seq (de_var 1)) (dg_name 3 nd) (ds_one (ds_set 2 nd (de_ix (de_ix (de_var 2) de_int) (de_var 3))))) (ds_one (ds_ret (de_var 2))))))
theorem sc_is_path : FnScope ["paper", "path", "found", "number"] ["paper", "path"] (defScope (topS 28)) := ⟨rfl, rfl, rfl, by decide +kernel, rfl, by decide +kernel, by decide +kernel⟩
theorem ok_is_path (T : Top cl K mg) : OkFn cl P w K mg base "is_path" ["paper", "path"] 2 F_is_path :=
  ok_fn (N := (["paper", "path", "found", "number"] : List Str)) 4 1 T.f_is_path sc_is_path rfl (fun f cdv A outer s H E hr =>
    have nd : (["paper", "path", "found", "number"] : List Str).Nodup := sc_is_path.nd
    (ds_cons (ds_if (dt_not (dt_val (de_isi .tuple T.b_isinstance (de_var 1) T.b_tuple))) (ds_one (ds_ret de_bl)) ds_nil) (ds_cons (ds_set 2 nd (de_var 0)) (ds_cons (ds_for PassesOwn.never rfl (di_seq (de_var 1)) (dg_name 3 nd) (ds_cons (ds_if (dt_not (dt_val (c0F 3 ((ok_is_number T).mono (by omega)) hr (da_cons (de_var 3) (da_cons de_int (da_cons (de_op op_sub d_sub (de_len T.b_len (de_ix (de_var 2) de_int)) de_int) da_nil)))))) (ds_one (ds_ret de_bl)) ds_nil) (ds_one (ds_set 2 nd (de_ix (de_ix (de_var 2) de_int) (de_var 3)))))) (ds_one (ds_ret de_bl))))))
theorem sc_with_rows : FnScope ["paper", "path", "rows", "inner"] ["paper", "path", "rows"] (defScope (topS 29)) := ⟨rfl, rfl, rfl, by decide +kernel, rfl, by decide +kernel, by decide +kernel⟩
theorem ok_with_rows (T : Top cl K mg) : ∀ n, OkFn cl P w K mg base "with_rows" ["paper", "path", "rows"] (0 + n) (F_with_rows n)
  | 0 => ok_bad T.f_with_rows _
  | n + 1 => ok_fn (N := (["paper", "path", "rows", "inner"] : List Str)) 4 (0 + n) T.f_with_rows sc_with_rows rfl (fun f cdv A outer s H E hr =>
    have nd : (["paper", "path", "rows", "inner"] : List Str).Nodup := sc_with_rows.nd
    (ds_cons (ds_if (dt_cmp (op_eqP hr.units) d_eq (de_var 1) (de_tup da_nil) (nomark _)) (ds_one (ds_ret (de_tup (da_cons (de_var 2) (da_cons (de_ix (de_var 0) de_int) da_nil))))) ds_nil) (ds_cons (ds_set 3 nd (de_list T.b_list (de_ix (de_var 0) de_int))) (ds_cons (ds_put (c0F 3 (ok_with_rows T n) hr (da_cons (de_ix (de_var 3) (de_ix (de_var 1) de_int)) (da_cons (de_slice (de_var 1) (do_at de_int) do_no) (da_cons (de_var 2) da_nil)))) (de_var 3) (de_ix (de_var 1) de_int) set_list d_pLst) (ds_one (ds_ret (de_tup (da_cons (de_ix (de_var 0) de_int) (da_cons (de_tuple T.b_tuple (de_var 3)) da_nil)))))))))
theorem sc_is_edit : FnScope ["paper", "edit", "known", "rows", "words"] ["paper", "edit", "known"] (defScope (topS 33)) := ⟨rfl, rfl, rfl, by decide +kernel, rfl, by decide +kernel, by decide +kernel⟩
theorem ok_is_edit (T : Top cl K mg) : OkFn cl P w K mg base "is_edit" ["paper", "edit", "known"] 3 F_is_edit :=
  ok_fn (N := (["paper", "edit", "known", "rows", "words"] : List Str)) 5 2 T.f_is_edit sc_is_edit rfl (fun f cdv A outer s H E hr =>
    have nd : (["paper", "edit", "known", "rows", "words"] : List Str).Nodup := sc_is_edit.nd
    (ds_cons (ds_if (dt_w (dw_or (dt_not (dt_val (de_isi .tuple T.b_isinstance (de_var 1) T.b_tuple))) (dw_or (dt_cmp op_lt d_lt (de_len T.b_len (de_var 1)) de_int (nomark _)) (dw_or1 (dt_cmp (op_inK hr.units) d_inD (de_var 1) (de_var 2) (by with_unfolding_all rfl)))))) (ds_one (ds_ret de_bl)) ds_nil) (ds_cons (ds_if (dt_cmp (op_eqP hr.units) d_eq (de_ix (de_var 1) de_int) (de_gs T.c_ADD) (nomark _)) (ds_one (ds_ret (de_and (de_cmp (op_eqP hr.units) d_eq (de_len T.b_len (de_var 1)) de_int (nomark _)) (de_one (c0F 1 ((ok_is_word T).mono (by omega)) hr (da_cons (de_ix (de_var 1) de_int) da_nil)))))) ds_nil) (ds_cons (ds_if (dt_w (dw_or (dt_cmp (op_neP hr.units) d_ne (de_ix (de_var 1) de_int) (de_gs T.c_PLAIN) (nomark _)) (dw_or (dt_cmp (op_neP hr.units) d_ne (de_len T.b_len (de_var 1)) de_int (nomark _)) (dw_or1 (dt_not (dt_val (c0F 2 ((ok_is_path T).mono (by omega)) hr (da_cons (de_var 0) (da_cons (de_ix (de_var 1) de_int) da_nil))))))))) (ds_one (ds_ret de_bl)) ds_nil) (ds_cons (ds_set 3 nd (de_ix (c0F 2 ((ok_section_at T).mono (by omega)) hr (da_cons (de_var 0) (da_cons (de_ix (de_var 1) de_int) da_nil))) de_int)) (ds_cons (ds_if (dt_not (dt_val (c0F 3 ((ok_is_number T).mono (by omega)) hr (da_cons (de_ix (de_var 1) de_int) (da_cons de_int (da_cons (de_op op_sub d_sub (de_len T.b_len (de_var 3)) de_int) da_nil)))))) (ds_one (ds_ret de_bl)) ds_nil) (ds_cons (ds_set 4 nd (de_ix (de_ix (de_var 3) (de_ix (de_var 1) de_int)) (de_un un_neg d_neg de_int))) (ds_one (ds_ret (de_and (c0F 3 ((ok_is_number T).mono (by omega)) hr (da_cons (de_ix (de_var 1) de_int) (da_cons de_int (da_cons (de_op op_sub d_sub (de_len T.b_len (de_var 4)) de_int) da_nil)))) (de_one (c0F 1 ((ok_is_use T).mono (by omega)) hr (da_cons (de_ix (de_var 4) (de_ix (de_var 1) de_int)) da_nil)))))))))))))
theorem sc_plain : FnScope ["paper", "use", "path", "number", "k", "rows", "words", "row"] ["paper", "use"] (defScope (topS 34)) := ⟨rfl, rfl, rfl, by decide +kernel, rfl, by decide +kernel, by decide +kernel⟩
theorem ok_plain (T : Top cl K mg) : OkFn cl P w K mg base "plain" ["paper", "use"] 13 F_plain :=
  ok_fn (N := (["paper", "use", "path", "number", "k", "rows", "words", "row"] : List Str)) 8 12 T.f_plain sc_plain rfl (fun f cdv A outer s H E hr =>
    have nd : (["paper", "use", "path", "number", "k", "rows", "words", "row"] : List Str).Nodup := sc_plain.nd
    (ds_cons (ds_asg (de_var 1) (dg_tup rfl (dgs_cons 2 nd (dgs_cons 3 nd (dgs_cons 4 nd dgs_nil))))) (ds_cons (ds_set 5 nd (de_ix (c0F 2 ((ok_section_at T).mono (by omega)) hr (da_cons (de_var 0) (da_cons (de_var 2) da_nil))) de_int)) (ds_cons (ds_set 6 nd (de_ix (de_ix (de_var 5) (de_var 3)) (de_un un_neg d_neg de_int))) (ds_cons (ds_set 7 nd (de_op op_addAll d_add (de_slice (de_ix (de_var 5) (de_var 3)) do_no (do_at (de_un un_neg d_neg de_int))) (de_tup (da_cons (de_op op_addAll d_add (de_op op_addAll d_add (de_slice (de_var 6) do_no (do_at (de_var 4))) (de_tup (da_cons (de_ix (de_ix (de_var 6) (de_var 4)) de_int) da_nil))) (de_slice (de_var 6) (do_at (de_op op_addAll d_add (de_var 4) de_int)) do_no)) da_nil)))) (ds_one (ds_ret (c0 3 ((ok_with_rows T 12).mono (by omega)) hr (da_cons (de_var 0) (da_cons (de_var 2) (da_cons (de_op op_addAll d_add (de_op op_addAll d_add (de_slice (de_var 5) do_no (do_at (de_var 3))) (de_tup (da_cons (de_var 7) da_nil))) (de_slice (de_var 5) (do_at (de_op op_addAll d_add (de_var 3) de_int)) do_no)) da_nil)))))))))))
theorem sc_mended : FnScope ["paper", "edits", "known", "rows", "found", "number", "edit"] ["paper", "edits"] (defScope (topS 35)) := ⟨rfl, rfl, rfl, by decide +kernel, rfl, by decide +kernel, by decide +kernel⟩
theorem ok_mended (T : Top cl K mg) : OkFnX cl P w K mg base "mended" ["paper", "edits"] 18 F_mended :=
  ok_fnX (N := (["paper", "edits", "known", "rows", "found", "number", "edit"] : List Str)) 7 17 T.f_mended sc_mended rfl (fun f cdv A outer s H E hr tk po =>
    have nd : (["paper", "edits", "known", "rows", "found", "number", "edit"] : List Str).Nodup := sc_mended.nd
    (ds_cons (ds_expr (de_up (c0F 1 ((ok_need_paper T).mono (by omega)) hr (da_cons (de_var 0) da_nil)))) (ds_cons (ds_set 2 nd de_dct0) (ds_cons (ds_set 3 nd (de_tup da_nil)) (ds_cons (ds_set 4 nd (de_var 0)) (ds_cons (ds_for po rfl (di_enum T.b_enumerate (de_var 1)) (dg_tup rfl (dgs_cons 5 nd (dgs_cons 6 nd dgs_nil))) (ds_cons (ds_if (dt_w (dw_or (dt_not (dt_val (de_up (cA 3 ((ok_is_edit T).mono (by omega)) hr (da_cons (de_var 0) (da_cons (de_var 6) (da_cons (de_var 2) da_nil))))))) (dw_or1 (dt_w (dw_and (dt_cmp (op_eqP hr.units) d_eq (de_ix (de_var 6) de_int) (de_gs T.c_ADD) (nomark _)) (dw_and1 (dt_cmp (op_eqP hr.units) d_eq (de_op op_addAll d_add (de_len T.b_len (de_ix (de_var 0) de_int)) (de_len T.b_len (de_var 3))) (de_gi T.c_MOST_ROWS) (nomark _)))))))) (ds_one (ds_raise1 T.v_BadEdit rfl (hr.mono (by omega)) rfl tk (de_var 5))) ds_nil) (ds_cons (ds_putD hr.units de_bl (de_var 2) (de_var 6)) (ds_one (ds_if (dt_cmp (op_eqP hr.units) d_eq (de_ix (de_var 6) de_int) (de_gs T.c_ADD) (nomark _)) (ds_one (ds_set 3 nd (de_op op_addAll d_add (de_var 3) (de_tup (da_cons (de_tup (da_cons (de_gs T.c_DEF) (da_cons (de_ix (de_var 6) de_int) (da_cons (de_tup da_nil) da_nil)))) da_nil))))) (ds_one (ds_set 4 nd (de_up (c0F 2 ((ok_plain T).mono (by omega)) hr (da_cons (de_var 4) (da_cons (de_slice (de_var 6) (do_at de_int) do_no) da_nil))))))))))) (ds_one (ds_ret (de_tup (da_cons (de_op op_addAll d_add (de_var 3) (de_ix (de_var 4) de_int)) (da_cons (de_ix (de_var 4) de_int) da_nil)))))))))))
theorem sc__law_taken : FnScope ["_law_row_here", "_law_many", "_law_found", "_law_cell"] ["_law_row_here", "_law_many"] (defScope (topS 37)) := ⟨rfl, rfl, rfl, by decide +kernel, rfl, by decide +kernel, by decide +kernel⟩
theorem ok__law_taken (T : Top cl K mg) : OkFn cl P w K mg base "_law_taken" ["_law_row_here", "_law_many"] 1 F__law_taken :=
  ok_fn (N := (["_law_row_here", "_law_many", "_law_found", "_law_cell"] : List Str)) 4 0 T.f__law_taken sc__law_taken rfl (fun f cdv A outer s H E hr =>
    have nd : (["_law_row_here", "_law_many", "_law_found", "_law_cell"] : List Str).Nodup := sc__law_taken.nd
    (ds_cons (ds_if (dt_cmp op_gt d_gt (de_ix (de_var 0) de_int) de_int (nomark _)) (ds_cons (ds_set 2 nd (de_op op_mod d_mod (de_ix (de_var 0) de_int) (de_var 1))) (ds_cons (ds_put (de_op op_fdiv d_div (de_ix (de_var 0) de_int) (de_var 1)) (de_var 0) de_int set_list d_pLst) (ds_one (ds_ret (de_var 2))))) ds_nil) (ds_cons (ds_put (de_op op_addAll d_add (de_ix (de_var 0) de_int) de_int) (de_var 0) de_int set_list d_pLst) (ds_cons (ds_if (dt_cmp op_gt d_gt (de_ix (de_var 0) de_int) (de_len T.b_len (de_ix (de_var 0) de_int)) (nomark _)) (ds_cons (ds_put (de_op op_mod d_mod (de_op op_addAll d_add (de_op op_mulAll d_mul (de_ix (de_var 0) de_int) de_int) de_int) de_int) (de_var 0) de_int set_list d_pLst) (ds_one (ds_ret (de_op op_mod d_mod (de_op op_fdiv d_div (de_ix (de_var 0) de_int) de_int) (de_var 1))))) ds_nil) (ds_cons (ds_set 3 nd (de_ix (de_ix (de_var 0) de_int) (de_op op_sub d_sub (de_ix (de_var 0) de_int) de_int))) (ds_cons (ds_put (de_op op_mod d_mod (de_op op_addAll d_add (de_op op_addAll d_add (de_op op_mulAll d_mul (de_ix (de_var 0) de_int) de_int) (de_var 3)) de_int) de_int) (de_var 0) de_int set_list d_pLst) (ds_cons (ds_if (dt_cmp op_ge d_ge (de_var 3) (de_op op_pow d_pow de_int de_int) (nomark _)) (ds_one (ds_put (de_op op_fdiv d_div (de_var 3) (de_var 1)) (de_var 0) de_int set_list d_pLst)) ds_nil) (ds_one (ds_ret (de_op op_mod d_mod (de_var 3) (de_var 1)))))))))))
theorem sc__law_alike : FnScope ["_law_found", "_law_due", "_law_k"] ["_law_found", "_law_due"] (defScope (topS 38)) := ⟨rfl, rfl, rfl, by decide +kernel, rfl, by decide +kernel, by decide +kernel⟩
theorem ok__law_alike (T : Top cl K mg) : ∀ n, OkFn cl P w K mg base "_law_alike" ["_law_found", "_law_due"] (0 + n) (F__law_alike n)
  | 0 => ok_bad T.f__law_alike _
  | n + 1 => ok_fn (N := (["_law_found", "_law_due", "_law_k"] : List Str)) 3 (0 + n) T.f__law_alike sc__law_alike rfl (fun f cdv A outer s H E hr =>
    have nd : (["_law_found", "_law_due", "_law_k"] : List Str).Nodup := sc__law_alike.nd
    (ds_cons (ds_if (dt_w (dw_or (dt_val (de_isi .tuple T.b_isinstance (de_var 1) T.b_tuple)) (dw_or1 (dt_val (de_isi .list T.b_isinstance (de_var 1) T.b_list))))) (ds_cons (ds_if (dt_w (dw_or (dt_cmp (op_neP hr.units) d_ne (de_isi .tuple T.b_isinstance (de_var 0) T.b_tuple) (de_isi .tuple T.b_isinstance (de_var 1) T.b_tuple) (nomark _)) (dw_or1 (dt_not (dt_val (de_isi2 .tuple .list T.b_isinstance (de_var 0) T.b_tuple T.b_list)))))) (ds_one (ds_ret de_bl)) ds_nil) (ds_cons (ds_if (dt_cmp (op_neP hr.units) d_ne (de_len T.b_len (de_var 0)) (de_len T.b_len (de_var 1)) (nomark _)) (ds_one (ds_ret de_bl)) ds_nil) (ds_one (ds_ret (de_cmp (op_eqP hr.units) d_eq (de_lc1F 2 rfl nd (di_rng1 T.b_range (de_len T.b_len (de_var 1))) (by rfl) (fun _ _ _ _ _ => (.one (dt_not (dt_val (c0F 2 (ok__law_alike T n) hr (da_cons (de_ix (de_var 0) (de_var 2)) (da_cons (de_ix (de_var 1) (de_var 2)) da_nil))))))) (fun _ _ _ _ _ => (de_var 2))) (de_lstF da_nil) (nomark _)))))) ds_nil) (ds_cons (ds_if (dt_w (dw_or (dt_cmp op_isN d_isN (de_var 1) de_non (nomark _)) (dw_or1 (dt_cmp op_isN d_isN (de_var 0) de_non (nomark _))))) (ds_one (ds_ret (de_and (de_cmp op_isN d_isN (de_var 1) de_non (nomark _)) (de_one (de_cmp op_isN d_isN (de_var 0) de_non (nomark _)))))) ds_nil) (ds_cons (ds_if (dt_w (dw_or (dt_val (de_isi .bool T.b_isinstance (de_var 1) T.b_bool)) (dw_or1 (dt_val (de_isi .bool T.b_isinstance (de_var 0) T.b_bool))))) (ds_one (ds_ret (de_and (de_isi .bool T.b_isinstance (de_var 1) T.b_bool) (de_and (de_isi .bool T.b_isinstance (de_var 0) T.b_bool) (de_one (de_cmp (op_eqP hr.units) d_eq (de_var 0) (de_var 1) (nomark _))))))) ds_nil) (ds_cons (ds_if (dt_val (de_isi .str T.b_isinstance (de_var 1) T.b_str)) (ds_one (ds_ret (de_and (de_isi .str T.b_isinstance (de_var 0) T.b_str) (de_one (de_cmp (op_eqP hr.units) d_eq (de_var 0) (de_var 1) (nomark _)))))) ds_nil) (ds_one (ds_ret (de_and (de_isi .int T.b_isinstance (de_var 0) T.b_int) (de_one (de_cmp (op_eqP hr.units) d_eq (de_var 0) (de_var 1) (nomark _)))))))))))
theorem sc__law_word : FnScope ["_law_work", "e", "_law_kinds", "_law_word_here"] ["_law_work"] (defScope (topS 39)) := ⟨rfl, rfl, rfl, by decide +kernel, rfl, by decide +kernel, by decide +kernel⟩
theorem ws__law_word : ∀ c0 ∈ (["BadEdit"] : List String), ∀ i : Int, ∃ w L2, wordV c0 = some w ∧ H__law_word (hSlV (["_law_work", "e", "_law_kinds", "_law_word_here"] : List Str).length 1 c0 i) [] = .ok (.rt (.tup [.str w, .int i])) L2 := by
  intro c0 h i
  simp only [List.mem_cons, List.not_mem_nil, or_false] at h
  rcases h with rfl <;> exact ⟨_, _, rfl, rfl⟩
theorem gv__law_word {X : Cx} {S : List String} {k : Nat} (T : Top cl X.K X.mg) (hS : ∀ c0 ∈ S, HoldC cl X.K c0) (hno : ∀ c0 ∈ S, PySem.W.findIn X.K (.ref (cl.f c0)) "number" = some none ∧ ("number" : Str) = fldOf c0) (hsem : ∀ c0 ∈ S, ∀ i : Int, ∃ w L2, wordV c0 = some w ∧ H__law_word (hSlV (["_law_work", "e", "_law_kinds", "_law_word_here"] : List Str).length 1 c0 i) [] = .ok (.rt (.tup [.str w, .int i])) L2) (hr : Room (k + 2) X.A) (qq : Str) (ga : Addr) (cdv : Value) : LamX.GivesTo X ["_law_work", "e", "_law_kinds", "_law_word_here"] "_law_word" (defScope (topS 39)) ga cdv (defBody (topS 39)) "_law_work" qq (TTv cl X S) :=
  word_givesV (j := 1) rfl T.g_TermError (fun _ => rfl) sc__law_word.nd rfl rfl hS hr (fun s H pn ae oe c0 dd i hc0 hz hf hu =>
    have nd : (["_law_work", "e", "_law_kinds", "_law_word_here"] : List Str).Nodup := sc__law_word.nd
    have hc := hS c0 hc0
    have hn := hno c0 hc0
    (ds_cons (ds_set 2 nd (de_lst (da_cons (de_isx2 hc hz hf T.b_isinstance T.g_BadPaper (de_var 1)) (da_cons (de_isx2 hc hz hf T.b_isinstance T.g_BadEdit (de_var 1)) (da_cons (de_isx2 hc hz hf T.b_isinstance T.g_BadText (de_var 1)) (da_cons (de_isx2 hc hz hf T.b_isinstance T.g_BadPlace (de_var 1)) da_nil)))))) (ds_cons (ds_set 2 nd (de_op op_addAll d_add (de_var 2) (de_lstF (da_cons (de_isx2 hc hz hf T.b_isinstance T.g_BadRow (de_var 1)) (da_cons (de_isx2 hc hz hf T.b_isinstance T.g_Full (de_var 1)) (da_cons (de_isx2 hc hz hf T.b_isinstance T.g_TooLong (de_var 1)) (da_cons (de_isx2 hc hz hf T.b_isinstance T.g_TooMany (de_var 1)) da_nil))))))) (ds_cons (ds_if (dt_w (dw_or (dt_cmp (op_neP hu) d_ne (de_count hu (de_var 2) (da_cons de_bl da_nil)) de_int (nomark _)) (dw_or1 (dt_not (dt_val (de_isv2 hc hz hf T.b_isinstance T.b_ValueError (de_var 1))))))) (ds_one (ds_ret de_str)) ds_nil) (ds_cons (ds_set 3 nd (de_ix (de_lstF (da_cons de_str (da_cons de_str (da_cons de_str (da_cons de_str (da_cons de_str (da_cons de_str (da_cons de_str (da_cons de_str da_nil))))))))) (de_index hu (de_var 2) (da_cons de_bl da_nil)))) (ds_cons (ds_if (dt_cmp (op_eqP hu) d_eq (de_var 3) de_str (nomark _)) (ds_one (ds_ret (de_tup (da_cons (de_var 3) (da_cons de_never da_nil))))) ds_nil) (ds_cons (ds_if (dt_cmp (op_eqP hu) d_eq (de_var 3) de_str (nomark _)) (ds_one (ds_ret (de_tup (da_cons (de_var 3) (da_cons (de_xf2 hc hn.1 hn.2 hz hf (de_var 1)) da_nil))))) ds_nil) (ds_one (ds_ret (de_if (dt_cmp (op_eqP hu) d_eq (de_var 3) de_str (nomark _)) (de_tup (da_cons (de_var 3) (da_cons de_never da_nil))) (de_var 3))))))))))) hsem
theorem sc__law_term : FnScope ["_law_row_here", "_law_few", "_law_letters", "_law_k"] ["_law_row_here", "_law_few"] (defScope (topS 40)) := ⟨rfl, rfl, rfl, by decide +kernel, rfl, by decide +kernel, by decide +kernel⟩
theorem ok__law_term (T : Top cl K mg) : OkFn cl P w K mg base "_law_term" ["_law_row_here", "_law_few"] 2 F__law_term :=
  ok_fn (N := (["_law_row_here", "_law_few", "_law_letters", "_law_k"] : List Str)) 4 1 T.f__law_term sc__law_term rfl (fun f cdv A outer s H E hr =>
    have nd : (["_law_row_here", "_law_few", "_law_letters", "_law_k"] : List Str).Nodup := sc__law_term.nd
    (ds_cons (ds_set 2 nd de_str) (ds_cons (ds_if (dt_cmp (op_eqP hr.units) d_eq (c1 2 ((ok__law_taken T).mono (by omega)) hr (da_cons (de_var 0) (da_cons de_int da_nil))) de_int (nomark _)) (ds_one (ds_ret (de_join de_str (de_lc1F 3 rfl nd (di_rng1 T.b_range (de_op op_addAll d_add de_int (c1 2 ((ok__law_taken T).mono (by omega)) hr (da_cons (de_var 0) (da_cons de_int da_nil))))) (by rfl) (fun _ _ _ _ _ => .nil) (fun _ _ _ _ _ => (de_ix (de_var 2) (c1 2 ((ok__law_taken T).mono (by omega)) hr (da_cons (de_var 0) (da_cons de_int da_nil))))))))) ds_nil) (ds_one (ds_ret (de_ix (de_var 2) (c1 2 ((ok__law_taken T).mono (by omega)) hr (da_cons (de_var 0) (da_cons (de_var 1) da_nil)))))))))
theorem sc__law_words : FnScope ["_law_row_here", "_law_few", "_law_found", "_law_k", "_law_term_here"] ["_law_row_here", "_law_few"] (defScope (topS 41)) := ⟨rfl, rfl, rfl, by decide +kernel, rfl, by decide +kernel, by decide +kernel⟩
theorem ok__law_words (T : Top cl K mg) : OkFn cl P w K mg base "_law_words" ["_law_row_here", "_law_few"] 3 F__law_words :=
  ok_fn (N := (["_law_row_here", "_law_few", "_law_found", "_law_k", "_law_term_here"] : List Str)) 5 2 T.f__law_words sc__law_words rfl (fun f cdv A outer s H E hr =>
    have nd : (["_law_row_here", "_law_few", "_law_found", "_law_k", "_law_term_here"] : List Str).Nodup := sc__law_words.nd
    (ds_cons (ds_set 2 nd (de_lst da_nil)) (ds_cons (ds_for PassesOwn.never rfl (di_rng1 T.b_range (c1 2 ((ok__law_taken T).mono (by omega)) hr (da_cons (de_var 0) (da_cons (de_ix (de_lstF (da_cons de_int (da_cons de_int (da_cons de_int da_nil)))) (c1 2 ((ok__law_taken T).mono (by omega)) hr (da_cons (de_var 0) (da_cons de_int da_nil)))) da_nil)))) (dg_name 3 nd) (ds_cons (ds_set 4 nd (c1 2 ((ok__law_term T).mono (by omega)) hr (da_cons (de_var 0) (da_cons (de_var 1) da_nil)))) (ds_one (ds_expr (de_append (de_var 2) (de_ix (de_lstF (da_cons (de_tup (da_cons de_str (da_cons (de_var 4) da_nil))) (da_cons (de_tup (da_cons de_str (da_cons (de_var 4) da_nil))) (da_cons (de_var 4) da_nil)))) (c1 2 ((ok__law_taken T).mono (by omega)) hr (da_cons (de_var 0) (da_cons de_int da_nil))))))))) (ds_one (ds_ret (de_tuple T.b_tuple (de_var 2)))))))
theorem sc__law_row : FnScope ["_law_row_here", "_law_few"] ["_law_row_here", "_law_few"] (defScope (topS 42)) := ⟨rfl, rfl, rfl, by decide +kernel, rfl, by decide +kernel, by decide +kernel⟩
theorem ok__law_row (T : Top cl K mg) : OkFn cl P w K mg base "_law_row" ["_law_row_here", "_law_few"] 4 F__law_row :=
  ok_fn (N := (["_law_row_here", "_law_few"] : List Str)) 2 3 T.f__law_row sc__law_row rfl (fun f cdv A outer s H E hr =>
    have nd : (["_law_row_here", "_law_few"] : List Str).Nodup := sc__law_row.nd
    (ds_cons (ds_if (dt_cmp (op_eqP hr.units) d_eq (c1 2 ((ok__law_taken T).mono (by omega)) hr (da_cons (de_var 0) (da_cons de_int da_nil))) de_int (nomark _)) (ds_one (ds_ret (de_tup (da_cons de_str (da_cons (c1 2 ((ok__law_words T).mono (by omega)) hr (da_cons (de_var 0) (da_cons (de_var 1) da_nil))) da_nil))))) ds_nil) (ds_one (ds_ret (de_tup (da_cons de_str (da_cons (c1 2 ((ok__law_term T).mono (by omega)) hr (da_cons (de_var 0) (da_cons (de_var 1) da_nil))) (da_cons (c1 2 ((ok__law_words T).mono (by omega)) hr (da_cons (de_var 0) (da_cons (de_var 1) da_nil))) da_nil))))))))
theorem sc__law_section : FnScope ["_law_row_here", "_law_few", "_law_deep", "_law_most", "_law_rows", "_law_many", "_law_k"] ["_law_row_here", "_law_few", "_law_deep", "_law_most"] (defScope (topS 43)) := ⟨rfl, rfl, rfl, by decide +kernel, rfl, by decide +kernel, by decide +kernel⟩
theorem ok__law_section (T : Top cl K mg) : ∀ n, OkFn cl P w K mg base "_law_section" ["_law_row_here", "_law_few", "_law_deep", "_law_most"] (4 + n) (F__law_section n)
  | 0 => ok_bad T.f__law_section _
  | n + 1 => ok_fn (N := (["_law_row_here", "_law_few", "_law_deep", "_law_most", "_law_rows", "_law_many", "_law_k"] : List Str)) 7 (4 + n) T.f__law_section sc__law_section rfl (fun f cdv A outer s H E hr =>
    have nd : (["_law_row_here", "_law_few", "_law_deep", "_law_most", "_law_rows", "_law_many", "_law_k"] : List Str).Nodup := sc__law_section.nd
    (ds_cons (ds_set 4 nd (de_tuple T.b_tuple (de_lc1F 6 rfl nd (di_rng1 T.b_range (c1 2 ((ok__law_taken T).mono (by omega)) hr (da_cons (de_var 0) (da_cons (de_op op_addAll d_add (de_var 3) de_int) da_nil)))) (by rfl) (fun _ _ _ _ _ => .nil) (fun _ _ _ _ _ => (c1 2 ((ok__law_row T).mono (by omega)) hr (da_cons (de_var 0) (da_cons (de_var 1) da_nil))))))) (ds_cons (ds_set 5 nd (de_if (dt_cmp op_gt d_gt (de_var 2) de_int (nomark _)) (de_ix (de_lstF (da_cons de_int (da_cons de_int (da_cons (c1 2 ((ok__law_taken T).mono (by omega)) hr (da_cons (de_var 0) (da_cons de_int da_nil))) da_nil)))) (c1 2 ((ok__law_taken T).mono (by omega)) hr (da_cons (de_var 0) (da_cons de_int da_nil)))) de_int)) (ds_one (ds_ret (de_tup (da_cons (de_var 4) (da_cons (de_tuple T.b_tuple (de_lc1F 6 rfl nd (di_rng1 T.b_range (de_var 5)) (by rfl) (fun _ _ _ _ _ => .nil) (fun _ _ _ _ _ => (c1 4 (ok__law_section T n) hr (da_cons (de_var 0) (da_cons (de_var 1) (da_cons (de_op op_sub d_sub (de_var 2) de_int) (da_cons (de_var 3) da_nil)))))))) da_nil))))))))
theorem sc__law_paper : FnScope ["_law_row_here", "_law_few"] ["_law_row_here"] (defScope (topS 44)) := ⟨rfl, rfl, rfl, by decide +kernel, rfl, by decide +kernel, by decide +kernel⟩
theorem ok__law_paper (T : Top cl K mg) : OkFn cl P w K mg base "_law_paper" ["_law_row_here"] 17 F__law_paper :=
  ok_fn (N := (["_law_row_here", "_law_few"] : List Str)) 2 16 T.f__law_paper sc__law_paper rfl (fun f cdv A outer s H E hr =>
    have nd : (["_law_row_here", "_law_few"] : List Str).Nodup := sc__law_paper.nd
    (ds_cons (ds_set 1 nd (de_ix (de_lstF (da_cons de_int (da_cons de_int (da_cons de_int da_nil)))) (c1 2 ((ok__law_taken T).mono (by omega)) hr (da_cons (de_var 0) (da_cons de_int da_nil))))) (ds_one (ds_ret (c1 4 ((ok__law_section T 12).mono (by omega)) hr (da_cons (de_var 0) (da_cons (de_var 1) (da_cons de_int (da_cons (de_ix (de_lstF (da_cons de_int (da_cons de_int (da_cons de_int da_nil)))) (c1 2 ((ok__law_taken T).mono (by omega)) hr (da_cons (de_var 0) (da_cons de_int da_nil)))) da_nil)))))))))
theorem sc__law_at : FnScope ["_law_paper_here", "_law_path"] ["_law_paper_here", "_law_path"] (defScope (topS 45)) := ⟨rfl, rfl, rfl, by decide +kernel, rfl, by decide +kernel, by decide +kernel⟩
theorem ok__law_at (T : Top cl K mg) : ∀ n, OkFn cl P w K mg base "_law_at" ["_law_paper_here", "_law_path"] (0 + n) (F__law_at n)
  | 0 => ok_bad T.f__law_at _
  | n + 1 => ok_fn (N := (["_law_paper_here", "_law_path"] : List Str)) 2 (0 + n) T.f__law_at sc__law_at rfl (fun f cdv A outer s H E hr =>
    have nd : (["_law_paper_here", "_law_path"] : List Str).Nodup := sc__law_at.nd
    (ds_one (ds_ret (de_if (dt_cmp (op_eqP hr.units) d_eq (de_var 1) (de_tup da_nil) (nomark _)) (de_var 0) (c0 2 (ok__law_at T n) hr (da_cons (de_ix (de_ix (de_var 0) de_int) (de_ix (de_var 1) de_int)) (da_cons (de_slice (de_var 1) (do_at de_int) do_no) da_nil)))))))
theorem sc__law_paths : FnScope ["_law_paper_here", "_law_found", "_law_k", "_law_path"] ["_law_paper_here"] (defScope (topS 46)) := ⟨rfl, rfl, rfl, by decide +kernel, rfl, by decide +kernel, by decide +kernel⟩
theorem ok__law_paths (T : Top cl K mg) : ∀ n, OkFn cl P w K mg base "_law_paths" ["_law_paper_here"] (0 + n) (F__law_paths n)
  | 0 => ok_bad T.f__law_paths _
  | n + 1 => ok_fn (N := (["_law_paper_here", "_law_found", "_law_k", "_law_path"] : List Str)) 4 (0 + n) T.f__law_paths sc__law_paths rfl (fun f cdv A outer s H E hr =>
    have nd : (["_law_paper_here", "_law_found", "_law_k", "_law_path"] : List Str).Nodup := sc__law_paths.nd
    (ds_cons (ds_set 1 nd (de_lstF (da_cons (de_tup da_nil) da_nil))) (ds_cons (ds_for PassesOwn.never rfl (di_rng1 T.b_range (de_len T.b_len (de_ix (de_var 0) de_int))) (dg_name 2 nd) (ds_one (ds_set 1 nd (de_addF (de_var 1) (de_lc1F 3 rfl nd (di_seq (c0F 1 (ok__law_paths T n) hr (da_cons (de_ix (de_ix (de_var 0) de_int) (de_var 2)) da_nil))) (by rfl) (fun _ _ _ _ _ => .nil) (fun _ _ _ _ _ => (de_op op_addAll d_add (de_tup (da_cons (de_var 2) da_nil)) (de_var 3)))))))) (ds_one (ds_ret (de_var 1))))))
theorem sc__law_places : FnScope ["_law_paper_here", "_law_found", "_law_path", "_law_number"] ["_law_paper_here"] (defScope (topS 47)) := ⟨rfl, rfl, rfl, by decide +kernel, rfl, by decide +kernel, by decide +kernel⟩
theorem ok__law_places (T : Top cl K mg) : OkFn cl P w K mg base "_law_places" ["_law_paper_here"] 13 F__law_places :=
  ok_fn (N := (["_law_paper_here", "_law_found", "_law_path", "_law_number"] : List Str)) 4 12 T.f__law_places sc__law_places rfl (fun f cdv A outer s H E hr =>
    have nd : (["_law_paper_here", "_law_found", "_law_path", "_law_number"] : List Str).Nodup := sc__law_places.nd
    (ds_cons (ds_set 1 nd (de_lst da_nil)) (ds_cons (ds_for PassesOwn.never rfl (di_seq (c0F 1 ((ok__law_paths T 12).mono (by omega)) hr (da_cons (de_var 0) da_nil))) (dg_name 2 nd) (ds_one (ds_expr (de_extend (de_var 1) (de_lc1F 3 rfl nd (di_rng1 T.b_range (de_len T.b_len (de_ix (c0F 2 ((ok__law_at T 12).mono (by omega)) hr (da_cons (de_var 0) (da_cons (de_var 2) da_nil))) de_int))) (by rfl) (fun _ _ _ _ _ => .nil) (fun _ _ _ _ _ => (de_tup (da_cons (de_var 2) (da_cons (de_var 3) da_nil))))))))) (ds_one (ds_ret (de_var 1))))))
theorem sc__law_line : FnScope ["_law_paper_here", "_law_place"] ["_law_paper_here", "_law_place"] (defScope (topS 48)) := ⟨rfl, rfl, rfl, by decide +kernel, rfl, by decide +kernel, by decide +kernel⟩
theorem ok__law_line (T : Top cl K mg) : OkFn cl P w K mg base "_law_line" ["_law_paper_here", "_law_place"] 13 F__law_line :=
  ok_fn (N := (["_law_paper_here", "_law_place"] : List Str)) 2 12 T.f__law_line sc__law_line rfl (fun f cdv A outer s H E hr =>
    have nd : (["_law_paper_here", "_law_place"] : List Str).Nodup := sc__law_line.nd
    (ds_one (ds_ret (de_ix (de_ix (c0F 2 ((ok__law_at T 12).mono (by omega)) hr (da_cons (de_var 0) (da_cons (de_ix (de_var 1) de_int) da_nil))) de_int) (de_ix (de_var 1) de_int)))))
theorem sc__law_uses : FnScope ["_law_paper_here", "_law_found", "_law_place", "_law_words_here", "_law_k"] ["_law_paper_here"] (defScope (topS 49)) := ⟨rfl, rfl, rfl, by decide +kernel, rfl, by decide +kernel, by decide +kernel⟩
theorem ok__law_uses (T : Top cl K mg) : OkFn cl P w K mg base "_law_uses" ["_law_paper_here"] 14 F__law_uses :=
  ok_fn (N := (["_law_paper_here", "_law_found", "_law_place", "_law_words_here", "_law_k"] : List Str)) 5 13 T.f__law_uses sc__law_uses rfl (fun f cdv A outer s H E hr =>
    have nd : (["_law_paper_here", "_law_found", "_law_place", "_law_words_here", "_law_k"] : List Str).Nodup := sc__law_uses.nd
    (ds_cons (ds_set 1 nd de_dct0) (ds_cons (ds_for PassesOwn.never rfl (di_seq (c0F 1 ((ok__law_places T).mono (by omega)) hr (da_cons (de_var 0) da_nil))) (dg_name 2 nd) (ds_cons (ds_set 3 nd (de_ix (c0F 2 ((ok__law_line T).mono (by omega)) hr (da_cons (de_var 0) (da_cons (de_var 2) da_nil))) (de_un un_neg d_neg de_int))) (ds_one (ds_expr (de_update rfl hr.units (de_var 1) (de_lc1F 4 rfl nd (di_rng1 T.b_range (de_len T.b_len (de_var 3))) (by rfl) (fun _ _ _ _ _ => (.one (dt_val (de_isi .tuple T.b_isinstance (de_ix (de_var 3) (de_var 4)) T.b_tuple)))) (fun _ _ _ _ _ => (de_tup (da_cons (de_op op_addAll d_add (de_var 2) (de_tup (da_cons (de_var 4) da_nil))) (da_cons (de_ix (de_ix (de_var 3) (de_var 4)) de_int) da_nil)))))))))) (ds_one (ds_ret (de_var 1))))))
theorem sc__law_with : FnScope ["_law_paper_here", "_law_path", "_law_rows", "_law_k"] ["_law_paper_here", "_law_path", "_law_rows"] (defScope (topS 50)) := ⟨rfl, rfl, rfl, by decide +kernel, rfl, by decide +kernel, by decide +kernel⟩
theorem ok__law_with (T : Top cl K mg) : ∀ n, OkFn cl P w K mg base "_law_with" ["_law_paper_here", "_law_path", "_law_rows"] (0 + n) (F__law_with n)
  | 0 => ok_bad T.f__law_with _
  | n + 1 => ok_fn (N := (["_law_paper_here", "_law_path", "_law_rows", "_law_k"] : List Str)) 4 (0 + n) T.f__law_with sc__law_with rfl (fun f cdv A outer s H E hr =>
    have nd : (["_law_paper_here", "_law_path", "_law_rows", "_law_k"] : List Str).Nodup := sc__law_with.nd
    (ds_cons (ds_if (dt_cmp (op_eqP hr.units) d_eq (de_var 1) (de_tup da_nil) (nomark _)) (ds_one (ds_ret (de_tup (da_cons (de_tuple T.b_tuple (de_var 2)) (da_cons (de_ix (de_var 0) de_int) da_nil))))) ds_nil) (ds_cons (ds_set 3 nd (de_ix (de_var 1) de_int)) (ds_one (ds_ret (de_tup (da_cons (de_ix (de_var 0) de_int) (da_cons (de_op op_addAll d_add (de_op op_addAll d_add (de_slice (de_ix (de_var 0) de_int) do_no (do_at (de_var 3))) (de_tup (da_cons (c0F 3 (ok__law_with T n) hr (da_cons (de_ix (de_ix (de_var 0) de_int) (de_var 3)) (da_cons (de_slice (de_var 1) (do_at de_int) do_no) (da_cons (de_var 2) da_nil)))) da_nil))) (de_slice (de_ix (de_var 0) de_int) (do_at (de_op op_addAll d_add (de_var 3) de_int)) do_no)) da_nil))))))))
theorem sc__law_edited : FnScope ["_law_paper_here", "_law_edits", "_law_found", "_law_edit", "_law_path", "_law_number", "_law_k", "_law_rows", "_law_words_here", "_law_line_here", "_law_more"] ["_law_paper_here", "_law_edits"] (defScope (topS 51)) := ⟨rfl, rfl, rfl, by decide +kernel, rfl, by decide +kernel, by decide +kernel⟩
theorem ok__law_edited (T : Top cl K mg) : OkFn cl P w K mg base "_law_edited" ["_law_paper_here", "_law_edits"] 13 F__law_edited :=
  ok_fn (N := (["_law_paper_here", "_law_edits", "_law_found", "_law_edit", "_law_path", "_law_number", "_law_k", "_law_rows", "_law_words_here", "_law_line_here", "_law_more"] : List Str)) 11 12 T.f__law_edited sc__law_edited rfl (fun f cdv A outer s H E hr =>
    have nd : (["_law_paper_here", "_law_edits", "_law_found", "_law_edit", "_law_path", "_law_number", "_law_k", "_law_rows", "_law_words_here", "_law_line_here", "_law_more"] : List Str).Nodup := sc__law_edited.nd
    (ds_cons (ds_set 2 nd (de_var 0)) (ds_cons (ds_for PassesOwn.never rfl (di_seq (de_var 1)) (dg_name 3 nd) (ds_one (ds_if (dt_cmp (op_eqP hr.units) d_eq (de_ix (de_var 3) de_int) de_str (nomark _)) (ds_cons (ds_asg (de_slice (de_var 3) (do_at de_int) do_no) (dg_tup rfl (dgs_cons 4 nd (dgs_cons 5 nd (dgs_cons 6 nd dgs_nil))))) (ds_cons (ds_set 7 nd (de_ix (c0F 2 ((ok__law_at T 12).mono (by omega)) hr (da_cons (de_var 2) (da_cons (de_var 4) da_nil))) de_int)) (ds_cons (ds_set 8 nd (de_ix (de_ix (de_var 7) (de_var 5)) (de_un un_neg d_neg de_int))) (ds_cons (ds_set 9 nd (de_op op_addAll d_add (de_slice (de_ix (de_var 7) (de_var 5)) do_no (do_at (de_un un_neg d_neg de_int))) (de_tup (da_cons (de_op op_addAll d_add (de_op op_addAll d_add (de_slice (de_var 8) do_no (do_at (de_var 6))) (de_tup (da_cons (de_ix (de_ix (de_var 8) (de_var 6)) de_int) da_nil))) (de_slice (de_var 8) (do_at (de_op op_addAll d_add (de_var 6) de_int)) do_no)) da_nil)))) (ds_one (ds_set 2 nd (c0F 3 ((ok__law_with T 12).mono (by omega)) hr (da_cons (de_var 2) (da_cons (de_var 4) (da_cons (de_op op_addAll d_add (de_op op_addAll d_add (de_slice (de_var 7) do_no (do_at (de_var 5))) (de_tup (da_cons (de_var 9) da_nil))) (de_slice (de_var 7) (do_at (de_op op_addAll d_add (de_var 5) de_int)) do_no)) da_nil)))))))))) ds_nil))) (ds_cons (ds_set 10 nd (de_tuple T.b_tuple (de_lc1F 3 rfl nd (di_seq (de_var 1)) (by rfl) (fun _ _ _ _ _ => (.one (dt_cmp (op_eqP hr.units) d_eq (de_ix (de_var 3) de_int) de_str (nomark _)))) (fun _ _ _ _ _ => (de_tup (da_cons de_str (da_cons (de_ix (de_var 3) de_int) (da_cons (de_tup da_nil) da_nil)))))))) (ds_one (ds_ret (de_tup (da_cons (de_op op_addAll d_add (de_var 10) (de_ix (de_var 2) de_int)) (da_cons (de_ix (de_var 2) de_int) da_nil)))))))))
theorem sc__law_odd : FnScope ["_law_row_here", "_law_paper_here", "_law_ahead", "_law_far", "_law_places_here", "_law_path", "_law_number", "_law_words_here", "_law_some", "_law_k"] ["_law_row_here", "_law_paper_here", "_law_ahead"] (defScope (topS 52)) := ⟨rfl, rfl, rfl, by decide +kernel, rfl, by decide +kernel, by decide +kernel⟩
theorem ok__law_odd (T : Top cl K mg) : OkFn cl P w K mg base "_law_odd" ["_law_row_here", "_law_paper_here", "_law_ahead"] 14 F__law_odd :=
  ok_fn (N := (["_law_row_here", "_law_paper_here", "_law_ahead", "_law_far", "_law_places_here", "_law_path", "_law_number", "_law_words_here", "_law_some", "_law_k"] : List Str)) 10 13 T.f__law_odd sc__law_odd rfl (fun f cdv A outer s H E hr =>
    have nd : (["_law_row_here", "_law_paper_here", "_law_ahead", "_law_far", "_law_places_here", "_law_path", "_law_number", "_law_words_here", "_law_some", "_law_k"] : List Str).Nodup := sc__law_odd.nd
    (ds_cons (ds_set 3 nd (de_op op_mulAll d_mul (c1 2 ((ok__law_taken T).mono (by omega)) hr (da_cons (de_var 0) (da_cons de_int da_nil))) (c1 2 ((ok__law_taken T).mono (by omega)) hr (da_cons (de_var 0) (da_cons de_int da_nil))))) (ds_cons (ds_set 4 nd (c0F 1 ((ok__law_places T).mono (by omega)) hr (da_cons (de_var 1) da_nil))) (ds_cons (ds_asg (de_if (dt_cmp (op_neP hr.units) d_ne (de_var 4) (de_lstF da_nil) (nomark _)) (de_ix (de_var 4) (c1 2 ((ok__law_taken T).mono (by omega)) hr (da_cons (de_var 0) (da_cons (de_len T.b_len (de_var 4)) da_nil)))) (de_tup (da_cons (de_tup da_nil) (da_cons de_int da_nil)))) (dg_tup rfl (dgs_cons 5 nd (dgs_cons 6 nd dgs_nil)))) (ds_cons (ds_set 7 nd (de_if (dt_cmp (op_neP hr.units) d_ne (de_var 4) (de_lstF da_nil) (nomark _)) (de_ix (c0F 2 ((ok__law_line T).mono (by omega)) hr (da_cons (de_var 1) (da_cons (de_tup (da_cons (de_var 5) (da_cons (de_var 6) da_nil))) da_nil))) (de_un un_neg d_neg de_int)) (de_tup da_nil))) (ds_cons (ds_set 8 nd (de_lst (da_cons (de_tup da_nil) (da_cons (de_tup (da_cons de_str da_nil)) (da_cons (de_tup (da_cons de_str (da_cons de_str da_nil))) (da_cons (de_tup (da_cons de_str (da_cons de_str da_nil))) (da_cons (de_tup (da_cons de_str (da_cons (de_op op_mulS d_mulS de_str (de_op op_addAll d_add de_int (de_var 3))) da_nil))) (da_cons (de_tup (da_cons de_str (da_cons (de_var 3) da_nil))) (da_cons (de_tup (da_cons de_str (da_cons de_str (da_cons de_str da_nil)))) da_nil))))))))) (ds_cons (ds_set 8 nd (de_op op_addAll d_add (de_var 8) (de_lstF (da_cons (de_tup (da_cons de_str (da_cons de_str da_nil))) (da_cons (de_tup (da_cons de_str (da_cons (de_var 5) (da_cons (de_var 6) (da_cons (de_op op_addAll d_add (de_len T.b_len (de_var 7)) (de_var 3)) da_nil))))) (da_cons (de_tup (da_cons de_str (da_cons (de_var 5) (da_cons (de_var 6) (da_cons (de_op op_sub d_sub (de_op op_sub d_sub de_int de_int) (de_var 3)) da_nil))))) da_nil)))))) (ds_cons (ds_expr (de_append (de_var 8) (de_tup (da_cons de_str (da_cons (de_var 5) (da_cons (de_var 6) da_nil)))))) (ds_cons (ds_set 8 nd (de_op op_addAll d_add (de_var 8) (de_lstF (da_cons (de_tup (da_cons de_str (da_cons (de_var 5) (da_cons (de_op op_addAll d_add de_int (de_var 3)) (da_cons de_int da_nil))))) (da_cons (de_tup (da_cons de_str (da_cons (de_var 5) (da_cons (de_op op_sub d_sub (de_op op_sub d_sub de_int de_int) (de_var 3)) (da_cons de_int da_nil))))) (da_cons (de_tup (da_cons de_str (da_cons (de_tup (da_cons (de_op op_addAll d_add de_int (de_var 3)) da_nil)) (da_cons de_int (da_cons de_int da_nil))))) da_nil)))))) (ds_cons (ds_set 8 nd (de_op op_addAll d_add (de_var 8) (de_lc1F 9 rfl nd (di_rng1 T.b_range (de_len T.b_len (de_var 7))) (by rfl) (fun _ _ _ _ _ => (.one (dt_val (de_isi .str T.b_isinstance (de_ix (de_var 7) (de_var 9)) T.b_str)))) (fun _ _ _ _ _ => (de_tup (da_cons de_str (da_cons (de_var 5) (da_cons (de_var 6) (da_cons (de_var 9) da_nil))))))))) (ds_cons (ds_if (dt_w (dw_and (dt_cmp (op_neP hr.units) d_ne (de_var 2) (de_lstF da_nil) (nomark _)) (dw_and1 (dt_cmp (op_eqP hr.units) d_eq (c1 2 ((ok__law_taken T).mono (by omega)) hr (da_cons (de_var 0) (da_cons de_int da_nil))) de_int (nomark _))))) (ds_one (ds_ret (de_ix (de_var 2) (c1 2 ((ok__law_taken T).mono (by omega)) hr (da_cons (de_var 0) (da_cons (de_len T.b_len (de_var 2)) da_nil)))))) ds_nil) (ds_one (ds_ret (de_ix (de_var 8) (c1 2 ((ok__law_taken T).mono (by omega)) hr (da_cons (de_var 0) (da_cons (de_len T.b_len (de_var 8)) da_nil)))))))))))))))))
theorem sc_law : FnScope ["_law_script", "_law_row_here", "_law_turn", "_law_paper_here", "_law_left", "_law_edits", "_law_k", "_law_at_here", "_law_adds", "_law_handed", "_law_bad", "_law_use", "_law_term_here", "_law_edit"] ["_law_script"] (defScope (topS 53)) := ⟨rfl, rfl, rfl, by decide +kernel, rfl, by decide +kernel, by decide +kernel⟩
theorem ok_law {c pT : Addr} {ff : String → Addr} (T : Top (clf ff "law.<locals>.<lambda>" pT) K mg) (A : LawAtC K mg "law" "_law_script" (topS 53) c) : LawFnT (clf ff "law.<locals>.<lambda>" pT) [(c, pT)] P w K mg "law" "_law_script" 22 F_law :=
  ok_law_ofT (N := (["_law_script", "_law_row_here", "_law_turn", "_law_paper_here", "_law_left", "_law_edits", "_law_k", "_law_at_here", "_law_adds", "_law_handed", "_law_bad", "_law_use", "_law_term_here", "_law_edit"] : List Str)) 14 21 A sc_law rfl (fun base f A outer s H E TB hr =>
    have nd : (["_law_script", "_law_row_here", "_law_turn", "_law_paper_here", "_law_left", "_law_edits", "_law_k", "_law_at_here", "_law_adds", "_law_handed", "_law_bad", "_law_use", "_law_term_here", "_law_edit"] : List Str).Nodup := sc_law.nd
    (ds_cons (ds_set 1 nd (de_lst (da_cons (de_var 0) (da_cons de_int (da_cons de_int (da_cons de_int da_nil)))))) (ds_cons (ds_for PassesOwn.never rfl (di_rng1 T.b_range de_int) (dg_name 2 nd) (ds_cons (ds_set 3 nd (c1 1 ((ok__law_paper T).mono (by omega)) hr (da_cons (de_var 1) da_nil))) (ds_cons (ds_set 4 nd (de_op op_addAll d_add (de_lc1F 11 rfl nd (di_keys (c0F 1 ((ok__law_uses T).mono (by omega)) hr (da_cons (de_var 3) da_nil))) (by rfl) (fun _ _ _ _ _ => .nil) (fun _ _ _ _ _ => (de_op op_addAll d_add (de_tup (da_cons de_str da_nil)) (de_var 11)))) (de_lc1F 12 rfl nd (di_seq (de_tup (da_cons de_str (da_cons de_str (da_cons de_str (da_cons de_str da_nil)))))) (by rfl) (fun _ _ _ _ _ => .nil) (fun _ _ _ _ _ => (de_tup (da_cons de_str (da_cons (de_var 12) da_nil))))))) (ds_cons (ds_set 5 nd (de_lst da_nil)) (ds_cons (ds_for PassesOwn.never rfl (di_rng1 T.b_range (de_op op_addAll d_add (de_op op_mulAll d_mul (c1 2 ((ok__law_taken T).mono (by omega)) hr (da_cons (de_var 1) (da_cons (de_op op_addAll d_add (de_len T.b_len (de_var 4)) de_int) da_nil))) (c1 2 ((ok__law_taken T).mono (by omega)) hr (da_cons (de_var 1) (da_cons de_int da_nil)))) (c1 2 ((ok__law_taken T).mono (by omega)) hr (da_cons (de_var 1) (da_cons de_int da_nil))))) (dg_name 6 nd) (ds_one (ds_if (dt_cmp (op_neP hr.units) d_ne (de_var 4) (de_lstF da_nil) (nomark _)) (ds_one (ds_expr (de_append (de_var 5) (de_popAt (de_var 4) (c1 2 ((ok__law_taken T).mono (by omega)) hr (da_cons (de_var 1) (da_cons (de_len T.b_len (de_var 4)) da_nil))))))) ds_nil))) (dss_frz 5 (ds_cons (ds_set 7 nd (de_op op_sub d_sub de_int (de_len T.b_len (de_ix (de_var 3) de_int)))) (ds_cons (ds_setLc1F 8 6 rfl nd (sw_true rfl rfl rfl (by decide +kernel)) (di_rng1 T.b_range (de_len T.b_len (de_var 5))) (by rfl) (fun _ _ _ _ _ => (.one (dt_cmp (op_eqP hr.units) d_eq (de_ix (de_ix (de_var 5) (de_var 6)) de_int) de_str (nomark _)))) (fun _ _ _ _ _ => (de_var 6))) (ds_cons (ds_if (dt_cmp op_gt d_gt (de_len T.b_len (de_var 8)) (de_var 7) (nomark _)) (ds_cons (ds_if (dt_cmp (op_neP hr.units) d_ne (de_wordVA (S := ["BadEdit"]) T.f__law_word (lam_at TB) sc__law_word hr (fun ga cdv => gv__law_word T T.hS T.nf ws__law_word hr _ ga cdv) (fun A2 o2 s2 H2 E2 f2 c2 hr tk => (cX 2 ((ok_mended T).mono (by omega)) hr tk (da_cons (de_var 3) (da_cons (de_var 5) da_nil))))) (de_tup (da_cons de_str (da_cons (de_ix (de_var 8) (de_var 7)) da_nil))) (nomark _)) (ds_one (ds_ret de_bl)) ds_nil) (ds_one (ds_set 5 nd (de_frz (de_op op_addAll d_add (de_lc1F 13 rfl nd (di_seq (de_var 5)) (by rfl) (fun _ _ _ _ _ => (.one (dt_cmp (op_eqP hr.units) d_eq (de_ix (de_var 13) de_int) de_str (nomark _)))) (fun _ _ _ _ _ => (de_var 13))) (de_op op_rep d_mulL (de_lst (da_cons (de_tup (da_cons de_str (da_cons de_str da_nil))) da_nil)) (de_intb T.b_int (de_cmp op_gt d_gt (de_var 7) de_int (nomark _))))))))) ds_nil) (ds_cons (ds_set 9 nd (de_listF T.b_list (de_var 5))) (ds_cons (ds_if (dt_w (dw_or (dt_not (dt_val (c0F 2 ((ok__law_alike T 12).mono (by omega)) hr (da_cons (c0F 2 ((ok_mended T).ok.mono (by omega)) hr (da_cons (de_var 3) (da_cons (de_var 9) da_nil))) (da_cons (cA 2 ((ok__law_edited T).mono (by omega)) hr (da_cons (de_var 3) (da_cons (de_var 5) da_nil))) da_nil))))) (dw_or1 (dt_cmp (op_neP hr.units) d_ne (de_var 9) (de_var 5) (nomark _))))) (ds_one (ds_ret de_bl)) ds_nil) (ds_cons (ds_set 6 nd (c1 2 ((ok__law_taken T).mono (by omega)) hr (da_cons (de_var 1) (da_cons (de_op op_addAll d_add (de_len T.b_len (de_var 5)) de_int) da_nil)))) (ds_cons (ds_set 10 nd (de_addF (de_addF (de_addF (de_sliceF (de_var 5) do_no (do_at (de_var 6))) (de_lstF (da_cons (c1 3 ((ok__law_odd T).mono (by omega)) hr (da_cons (de_var 1) (da_cons (de_var 3) (da_cons (de_sliceF (de_var 5) do_no (do_at (de_var 6))) da_nil)))) da_nil))) (de_sliceF (de_var 5) (do_at (de_var 6)) do_no)) (de_op op_rep d_mulL (de_lst (da_cons (de_tup da_nil) da_nil)) (c1 2 ((ok__law_taken T).mono (by omega)) hr (da_cons (de_var 1) (da_cons de_int da_nil)))))) (ds_one (ds_if (dt_cmp (op_neP hr.units) d_ne (de_wordVA (S := ["BadEdit"]) T.f__law_word (lam_at TB) sc__law_word hr (fun ga cdv => gv__law_word T T.hS T.nf ws__law_word hr _ ga cdv) (fun A2 o2 s2 H2 E2 f2 c2 hr tk => (cX 2 ((ok_mended T).mono (by omega)) hr tk (da_cons (de_var 3) (da_cons (de_var 10) da_nil))))) (de_tup (da_cons de_str (da_cons (de_var 6) da_nil))) (nomark _)) (ds_one (ds_ret de_bl)) ds_nil))))))))))))))) (ds_one (ds_ret de_bl)))))
end
end Df
namespace Df
open PySem (Str)
def val (F : Fn) (ds : List D) : Option D := match out (F ds []) with
  | .v d => some d
  | .o (.lst xs) => some (.lst xs)
  | .o (.dct kvs) => some (.dct kvs)
  | _ => none
theorem val_v {F : Fn} {ds : List D} {d : D} {L : Store} (h : F ds [] = .ok d L) (hr : ∀ k, d ≠ .ref k) (hf : d.flat = true) : val F ds = some d := by
  unfold val
  rw [h]
  cases d <;> simp_all [out]
theorem val_l {F : Fn} {ds : List D} {k : Nat} {xs : List D} {L : Store} (h : F ds [] = .ok (.ref k) L) (hk : L[k]? = some (.lst xs)) (hf : D.flatL xs = true) : val F ds = some (.lst xs) := by
  unfold val
  rw [h]
  simp [out, hk, MO.flat, hf]
theorem val_d {F : Fn} {ds : List D} {k : Nat} {xs : List (D × D)} {L : Store} (h : F ds [] = .ok (.ref k) L) (hk : L[k]? = some (.dct xs)) (hf : D.flatP xs = true) : val F ds = some (.dct xs) := by
  unfold val
  rw [h]
  simp [out, hk, MO.flat, hf]
theorem callF_eq {n : Nat} {F : Fn} {a : Av} {δ : Sl} {L L' : Store} {ds : List D} {d : D} (ha : a δ L = .ok ds L') (h : val F ds = some d) (hn : ds.length = n) (hf : D.flatL ds = true) : eCallF n F a δ L = .ok d L' := by
  unfold eCallF
  rw [ha]
  simp only [R.andThen, hn, hf, and_self, if_true]
  unfold val at h
  split at h
  · rename_i e; rw [e]; cases h; rfl
  · rename_i xs e
    cases h
    have : D.flatL xs = true := by
      unfold out at e
      split at e
      · split at e
        · split at e
          · rename_i hm; cases e; exact hm
          · cases e
        · cases e
      · split at e <;> cases e
      · split at e <;> cases e
      · cases e
    rw [e]; simp [frozen, this]
  · rename_i xs e
    cases h
    have : D.flatP xs = true := by
      unfold out at e
      split at e
      · split at e
        · split at e
          · rename_i hm; cases e; exact hm
          · cases e
        · cases e
      · split at e <;> cases e
      · split at e <;> cases e
      · cases e
    rw [e]; simp [frozen, this]
  · cases h
def D.leaf : D → Bool
  | .lst _ => false
  | .dct _ => false
  | .ref _ => false
  | _ => true
theorem call_eq {n : Nat} {F : Fn} {a : Av} {δ : Sl} {L L' : Store} {ds : List D} {d : D} (ha : a δ L = .ok ds L') (h : val F ds = some d) (hn : ds.length = n) (hf : D.flatL ds = true) (hd : d.leaf = true) : eCall n F a δ L = .ok d L' := by
  unfold eCall
  rw [ha]
  simp only [R.andThen, hn, hf, and_self, if_true]
  unfold val at h
  split at h
  · rename_i e; rw [e]; cases h; rfl
  · cases h; exact absurd hd Bool.false_ne_true
  · cases h; exact absurd hd Bool.false_ne_true
  · cases h
section
variable {δ : Sl} {L : Store}
@[simp] theorem eC_eq {d : D} : eC d δ L = .ok d L := rfl
@[simp] theorem aNil_eq : aNil δ L = .ok [] L := rfl
@[simp] theorem aCons_eq {e : Ev} {a : Av} : aCons e a δ L = (e δ L).andThen fun d L => (a δ L).andThen fun ds L => .ok (d :: ds) L := rfl
@[simp] theorem eOp_eq {f : D → D → Store → R D} {a b : Ev} : eOp f a b δ L = (a δ L).andThen fun x L => (b δ L).andThen fun y L => f x y L := rfl
@[simp] theorem eUn_eq {f : D → Store → R D} {a : Ev} : eUn f a δ L = (a δ L).andThen fun x L => f x L := rfl
@[simp] theorem eB_eq {f : List D → Store → R D} {a : Av} : eB f a δ L = (a δ L).andThen fun ds L => f ds L := rfl
@[simp] theorem eTup_eq {a : Av} : eTup a δ L = (a δ L).andThen fun ds L => if ds.length ≤ most then .ok (.tup ds) L else .bad := rfl
@[simp] theorem eLstF_eq {a : Av} : eLstF a δ L = (a δ L).andThen fun ds L => if ds.length ≤ most then frozen (.lst ds) L else .bad := rfl
@[simp] theorem eLst_eq {a : Av} : eLst a δ L = (a δ L).andThen fun ds L => if ds.length ≤ most then alloc (.lst ds) L else .bad := rfl
@[simp] theorem eNot_eq {a : Ev} : eNot a δ L = (a δ L).andThen fun x L => match x with
  | .bl k => .ok (.bl (!k)) L
  | _ => .bad := rfl
@[simp] theorem eAnd_eq {a b : Ev} : eAnd a b δ L = (a δ L).andThen fun x L => match x with
  | .bl true => b δ L
  | .bl false => .ok (.bl false) L
  | _ => .bad := rfl
@[simp] theorem eOr_eq {a b : Ev} : eOr a b δ L = (a δ L).andThen fun x L => match x with
  | .bl false => b δ L
  | .bl true => .ok (.bl true) L
  | _ => .bad := rfl
@[simp] theorem tVal_eq {a : Ev} : tVal a δ L = (a δ L).andThen fun x L => match x with
  | .bl k => .ok k L
  | _ => .bad := rfl
@[simp] theorem tNot_eq {a : Tv} : tNot a δ L = (a δ L).andThen fun x L => .ok (!x) L := rfl
@[simp] theorem tAnd_eq {a b : Tv} : tAnd a b δ L = (a δ L).andThen fun x L => if x = true then b δ L else .ok false L := rfl
@[simp] theorem tOr_eq {a b : Tv} : tOr a b δ L = (a δ L).andThen fun x L => if x = true then .ok true L else b δ L := rfl
@[simp] theorem eIf_eq {t : Tv} {a b : Ev} : eIf t a b δ L = (t δ L).andThen fun k L => if k = true then a δ L else b δ L := rfl
@[simp] theorem eIsi_eq {a : Ev} {ts : List Ty} : eIsi a ts δ L = (a δ L).andThen fun x L => if D.plain (look L x) then .ok (.bl (ts.any (isTy (look L x)))) L else .bad := rfl
@[simp] theorem eChain_eq {f g : D → D → Store → R D} {a b c : Ev} : eChain f g a b c δ L = (a δ L).andThen fun x L => (b δ L).andThen fun y L => (f x y L).andThen fun z L => match z with
  | .bl true => (c δ L).andThen fun w L => g y w L
  | .bl false => .ok (.bl false) L
  | _ => .bad := rfl
@[simp] theorem eM_eq {f : D → List D → Store → R D} {o : Ev} {a : Av} : eM f o a δ L = (o δ L).andThen fun x L => match lstOf L x with
  | some _ => (a δ L).andThen fun ds L => f x ds L
  | none => .bad := rfl
@[simp] theorem sSeq_eq {a b : Sv} : sSeq a b δ L = (a δ L).andThen fun f L => match f with
  | .nx δ => b δ L
  | f => .ok f L := rfl
@[simp] theorem sNil_eq : sNil δ L = .ok (.nx δ) L := rfl
@[simp] theorem sExpr_eq {e : Ev} : sExpr e δ L = (e δ L).andThen fun _ L => .ok (.nx δ) L := rfl
@[simp] theorem sRet_eq {e : Ev} : sRet e δ L = (e δ L).andThen fun d L => .ok (.rt d) L := rfl
@[simp] theorem sRetN_eq : sRetN δ L = .ok (.rt .non) L := rfl
@[simp] theorem sBreak_eq : sBreak δ L = .ok (.bk δ) L := rfl
@[simp] theorem sCont_eq : sCont δ L = .ok (.ct δ) L := rfl
@[simp] theorem sIf_eq {c : Tv} {a b : Sv} : sIf c a b δ L = (c δ L).andThen fun k L => if k = true then a δ L else b δ L := rfl
@[simp] theorem sSet_eq {tg : Tg} {e : Ev} : sSet tg e δ L = (e δ L).andThen fun d L => match tg.put d δ with
  | some δ => .ok (.nx δ) L
  | none => .bad := rfl
@[simp] theorem sPar_eq {i j : Nat} {a : Av} : sPar i j a δ L = (a δ L).andThen fun ds L => match ds with
  | [x, y] => .ok (.nx ((δ.set i (some x)).set j (some y))) L
  | _ => .bad := rfl
@[simp] theorem sPut_eq {f : D → D → D → Store → R Unit} {o i e : Ev} : sPut f o i e δ L = (e δ L).andThen fun d L => (o δ L).andThen fun x L => (i δ L).andThen fun y L => (f x y d L).andThen fun _ L => .ok (.nx δ) L := rfl
@[simp] theorem sFor_eq {tg : Tg} {it : Iv} {b : Sv} : sFor tg it b δ L = (it δ L).andThen fun xs L => forL tg b xs δ L := rfl
@[simp] theorem iSeq_eq {a : Ev} : iSeq a δ L = (a δ L).andThen fun x L => match x with
  | .tup xs => .ok xs L
  | .lst xs => .ok xs L
  | _ => .bad := rfl
@[simp] theorem iStr_eq {a : Ev} : iStr a δ L = (a δ L).andThen fun x L => match x with
  | .str s => .ok (s.cps.toList.map fun c => D.str ⟨#[c]⟩) L
  | _ => .bad := rfl
@[simp] theorem iKeys_eq {a : Ev} : iKeys a δ L = (a δ L).andThen fun x L => match x with
  | .dct kvs => .ok (kvs.map (·.1)) L
  | _ => .bad := rfl
@[simp] theorem iEnum_eq {a : Ev} : iEnum a δ L = (a δ L).andThen fun x L => match x with
  | .tup xs => .ok (number 0 xs) L
  | .lst xs => .ok (number 0 xs) L
  | _ => .bad := rfl
@[simp] theorem iRng1_eq {a : Ev} : iRng1 a δ L = (a δ L).andThen fun x L => match x with
  | .int n => if small n then .ok (rngU 0 n.toNat) L else .bad
  | _ => .bad := rfl
@[simp] theorem iRng2_eq {a b : Ev} : iRng2 a b δ L = (a δ L).andThen fun x L => (b δ L).andThen fun y L => match x, y with
  | .int m, .int n => if small m && small n then .ok (rngU m (n - m).toNat) L else .bad
  | _, _ => .bad := rfl
@[simp] theorem iRngD_eq {a b : Ev} : iRngD a b δ L = (a δ L).andThen fun x L => (b δ L).andThen fun y L => match x, y with
  | .int m, .int n => if small m && small n then .ok (rngD m (m - n).toNat) L else .bad
  | _, _ => .bad := rfl
@[simp] theorem iRevR_eq {a : Ev} : iRevR a δ L = (a δ L).andThen fun x L => match x with
  | .int n => if small n then .ok (rngD (n - 1) n.toNat) L else .bad
  | _ => .bad := rfl
@[simp] theorem oIx_t {xs : List D} {i : Int} : oIx (.tup xs) (.int i) L = match atInt xs i with
  | some d => .ok d L
  | none => .bad := rfl
@[simp] theorem oIx_l {xs : List D} {i : Int} : oIx (.lst xs) (.int i) L = match atInt xs i with
  | some d => .ok d L
  | none => .bad := rfl
@[simp] theorem oIx_s {s : Str} {i : Int} : oIx (.str s) (.int i) L = match atInt s.cps.toList i with
  | some c => if s.length ≤ most then .ok (.str ⟨#[c]⟩) L else .bad
  | none => .bad := rfl
end
@[simp] theorem plain_int {i : Int} : D.plain (.int i) = true := rfl
@[simp] theorem plain_str {i : Str} : D.plain (.str i) = true := rfl
@[simp] theorem plain_bl {i : Bool} : D.plain (.bl i) = true := rfl
@[simp] theorem plain_non : D.plain .non = true := rfl
@[simp] theorem plain_tup {xs : List D} : D.plain (.tup xs) = D.plainL xs := by rw [D.plain]
@[simp] theorem plain_lst {xs : List D} : D.plain (.lst xs) = D.plainL xs := by rw [D.plain]
@[simp] theorem plainL_nil : D.plainL [] = true := rfl
@[simp] theorem plainL_cons {x : D} {xs : List D} : D.plainL (x :: xs) = (D.plain x && D.plainL xs) := by rw [D.plainL]
@[simp] theorem flat_int {i : Int} : D.flat (.int i) = true := rfl
@[simp] theorem flat_str {i : Str} : D.flat (.str i) = true := rfl
@[simp] theorem flat_bl {i : Bool} : D.flat (.bl i) = true := rfl
@[simp] theorem flat_non : D.flat .non = true := rfl
@[simp] theorem flat_scr {ns : List Int} : D.flat (.scr ns) = true := rfl
@[simp] theorem flat_ref {i : Nat} : D.flat (.ref i) = false := rfl
@[simp] theorem flat_tup {xs : List D} : D.flat (.tup xs) = D.flatL xs := by rw [D.flat]
@[simp] theorem flat_lst {xs : List D} : D.flat (.lst xs) = D.flatL xs := by rw [D.flat]
@[simp] theorem flat_dct {xs : List (D × D)} : D.flat (.dct xs) = D.flatP xs := by rw [D.flat]
@[simp] theorem flatL_nil : D.flatL [] = true := rfl
@[simp] theorem flatL_cons {x : D} {xs : List D} : D.flatL (x :: xs) = (D.flat x && D.flatL xs) := by rw [D.flatL]
@[simp] theorem noB_int {i : Int} : D.noB (.int i) = true := rfl
@[simp] theorem noB_str {i : Str} : D.noB (.str i) = true := rfl
@[simp] theorem noB_non : D.noB .non = true := rfl
@[simp] theorem noB_tup {xs : List D} : D.noB (.tup xs) = D.noBL xs := by rw [D.noB]
@[simp] theorem noB_lst {xs : List D} : D.noB (.lst xs) = D.noBL xs := by rw [D.noB]
@[simp] theorem noBL_nil : D.noBL [] = true := rfl
@[simp] theorem noBL_cons {x : D} {xs : List D} : D.noBL (x :: xs) = (D.noB x && D.noBL xs) := by rw [D.noBL]
@[simp] theorem depth_int {i : Int} : D.depth (.int i) = 0 := rfl
@[simp] theorem depth_str {i : Str} : D.depth (.str i) = 0 := rfl
@[simp] theorem depth_bl {i : Bool} : D.depth (.bl i) = 0 := rfl
@[simp] theorem depth_non : D.depth .non = 0 := rfl
@[simp] theorem depth_tup {xs : List D} : D.depth (.tup xs) = D.depthL xs + 1 := by rw [D.depth]
@[simp] theorem depth_lst {xs : List D} : D.depth (.lst xs) = D.depthL xs + 1 := by rw [D.depth]
@[simp] theorem depthL_nil : D.depthL [] = 0 := rfl
@[simp] theorem depthL_cons {x : D} {xs : List D} : D.depthL (x :: xs) = max (D.depth x) (D.depthL xs) := by rw [D.depthL]
theorem eqv_int {a b : Int} : D.eqv (.int a) (.int b) = decide (a = b) := by rw [D.eqv_of rfl rfl]; simp
theorem eqv_str {a b : Str} : D.eqv (.str a) (.str b) = decide (a = b) := by rw [D.eqv_of rfl rfl]; simp
theorem eqv_bl {a b : Bool} : D.eqv (.bl a) (.bl b) = decide (a = b) := by cases a <;> cases b <;> rfl
@[simp] theorem look_int {L : Store} {i : Int} : look L (.int i) = .int i := rfl
@[simp] theorem look_str {L : Store} {i : Str} : look L (.str i) = .str i := rfl
@[simp] theorem look_bl {L : Store} {i : Bool} : look L (.bl i) = .bl i := rfl
@[simp] theorem look_non {L : Store} : look L .non = .non := rfl
@[simp] theorem look_tup {L : Store} {i : List D} : look L (.tup i) = .tup i := rfl
@[simp] theorem look_lst {L : Store} {i : List D} : look L (.lst i) = .lst i := rfl
@[simp] theorem cLe_eq {L : Store} {i j : Int} : cLe (.int i) (.int j) L = .ok (.bl (decide (i ≤ j))) L := rfl
@[simp] theorem cLt_eq {L : Store} {i j : Int} : cLt (.int i) (.int j) L = .ok (.bl (decide (i < j))) L := rfl
@[simp] theorem cGt_eq {L : Store} {i j : Int} : cGt (.int i) (.int j) L = .ok (.bl (decide (j < i))) L := rfl
@[simp] theorem cGe_eq {L : Store} {i j : Int} : cGe (.int i) (.int j) L = .ok (.bl (decide (j ≤ i))) L := rfl
@[simp] theorem oAdd_int {L : Store} {i j : Int} : oAdd (.int i) (.int j) L = .ok (.int (i + j)) L := rfl
@[simp] theorem oSub_int {L : Store} {i j : Int} : oSub (.int i) (.int j) L = .ok (.int (i - j)) L := rfl
@[simp] theorem uNeg_int {L : Store} {i : Int} : uNeg (.int i) L = .ok (.int (-i)) L := rfl
@[simp] theorem oAdd_tup {L : Store} {xs ys : List D} : oAdd (.tup xs) (.tup ys) L = if xs.length + ys.length ≤ most then .ok (.tup (xs ++ ys)) L else .bad := rfl
@[simp] theorem bLen_tup {L : Store} {xs : List D} : bLenS [.tup xs] L = .ok (.int xs.length) L := rfl
@[simp] theorem bLen_lst {L : Store} {xs : List D} : bLenS [.lst xs] L = .ok (.int xs.length) L := rfl
@[simp] theorem cIsN_non {L : Store} : cIsN .non .non L = .ok (.bl true) L := rfl
@[simp] theorem cIsN_tup {L : Store} {xs : List D} : cIsN (.tup xs) .non L = .ok (.bl false) L := rfl
@[simp] theorem cNotN_non {L : Store} : cNotN .non .non L = .ok (.bl false) L := rfl
@[simp] theorem cNotN_tup {L : Store} {xs : List D} : cNotN (.tup xs) .non L = .ok (.bl true) L := rfl
@[simp] theorem cNotN_int {L : Store} {i : Int} : cNotN (.int i) .non L = .ok (.bl true) L := rfl
theorem cEq_pl {L : Store} {a b : D} (ha : (look L a).plain = true) (hb : (look L b).plain = true) (hd : (look L a).depth ≤ 50 ∨ (look L b).depth ≤ 50) : cEq a b L = .ok (.bl (D.eqv (look L a) (look L b))) L := by
  unfold cEq eqOk
  rw [if_pos]
  simp [ha, hb, hd]
theorem cNe_pl {L : Store} {a b : D} (ha : (look L a).plain = true) (hb : (look L b).plain = true) (hd : (look L a).depth ≤ 50 ∨ (look L b).depth ≤ 50) : cNe a b L = .ok (.bl (!D.eqv (look L a) (look L b))) L := by
  unfold cNe eqOk
  rw [if_pos]
  simp [ha, hb, hd]
@[simp] theorem cEq_str {L : Store} {a b : Str} : cEq (.str a) (.str b) L = .ok (.bl (decide (a = b))) L := by rw [cEq_pl rfl rfl (.inl (Nat.zero_le _))]; simp [eqv_str]
@[simp] theorem cEq_int {L : Store} {a b : Int} : cEq (.int a) (.int b) L = .ok (.bl (decide (a = b))) L := by rw [cEq_pl rfl rfl (.inl (Nat.zero_le _))]; simp [eqv_int]
@[simp] theorem cNe_int {L : Store} {a b : Int} : cNe (.int a) (.int b) L = .ok (.bl (!decide (a = b))) L := by rw [cNe_pl rfl rfl (.inl (Nat.zero_le _))]; simp [eqv_int]
@[simp] theorem cNe_bl {L : Store} {a b : Bool} : cNe (.bl a) (.bl b) L = .ok (.bl (!decide (a = b))) L := by rw [cNe_pl rfl rfl (.inl (Nat.zero_le _))]; simp [eqv_bl]
theorem eqv_nil {xs : List D} : D.eqv (.lst xs) (.lst []) = xs.isEmpty := by
  unfold D.eqv
  rw [D.norm, D.norm]
  cases xs with
  | nil => rfl
  | cons x xs => rw [D.normL, D.normL]; rfl
theorem cEq_nil {L : Store} {a : D} {xs : List D} (h : look L a = .lst xs) (hp : D.plainL xs = true) : cEq a (.lst []) L = .ok (.bl xs.isEmpty) L := by
  rw [cEq_pl (by rw [h]; simpa using hp) rfl (.inr (by simp)), h]
  simp [eqv_nil]
theorem cNe_nil {L : Store} {a : D} {xs : List D} (h : look L a = .lst xs) (hp : D.plainL xs = true) : cNe a (.lst []) L = .ok (.bl (!xs.isEmpty)) L := by
  rw [cNe_pl (by rw [h]; simpa using hp) rfl (.inr (by simp)), h]
  simp [eqv_nil]
@[simp] theorem cEq_nil0 {L : Store} : cEq (.lst []) (.lst []) L = .ok (.bl true) L := cEq_nil (xs := []) rfl rfl
@[simp] theorem frozen_nil {L : Store} : frozen (.lst []) L = .ok (.lst []) L := rfl
theorem frozen_l {L : Store} {xs : List D} (h : D.flatL xs = true) : frozen (.lst xs) L = .ok (.lst xs) L := by simp [frozen, h]
@[simp] theorem atInt_0 {α : Type} {x : α} {r : List α} : atInt (x :: r) 0 = some x := by
  unfold atInt ixI
  rw [if_pos (by omega), if_pos (by simp only [List.length_cons]; omega)]; rfl
@[simp] theorem atInt_1 {α : Type} {x y : α} {r : List α} : atInt (x :: y :: r) 1 = some y := by
  unfold atInt ixI
  rw [if_pos (by omega), if_pos (by simp only [List.length_cons]; omega)]; rfl
@[simp] theorem atInt_2 {α : Type} {x y z : α} {r : List α} : atInt (x :: y :: z :: r) 2 = some z := by
  unfold atInt ixI
  rw [if_pos (by omega), if_pos (by simp only [List.length_cons]; omega)]; rfl
@[simp] theorem atInt_3 {α : Type} {x y z u : α} {r : List α} : atInt (x :: y :: z :: u :: r) 3 = some u := by
  unfold atInt ixI
  rw [if_pos (by omega), if_pos (by simp only [List.length_cons]; omega)]; rfl
@[simp] theorem atInt_m2 {α : Type} {x y : α} : atInt [x, y] (-1) = some y := by
  unfold atInt ixI
  rw [if_neg (by omega), if_pos (by simp only [List.length_cons, List.length_nil]; omega)]; rfl
@[simp] theorem atInt_m3 {α : Type} {x y z : α} : atInt [x, y, z] (-1) = some z := by
  unfold atInt ixI
  rw [if_neg (by omega), if_pos (by simp only [List.length_cons, List.length_nil]; omega)]; rfl
theorem atInt_nat {α : Type} {xs : List α} {i : Nat} (h : i < xs.length) : atInt xs (i : Int) = xs[i]? := by
  unfold atInt ixI
  rw [if_pos (by omega), if_pos (by omega)]
  simp
theorem lcL_pure {tg : Tg} {c : Tv} {e : Ev} {δ : Sl} {L : Store} {p : D → Bool} {f : D → D} : ∀ {xs acc : List D}, (∀ x ∈ xs, ∃ δ1, tg.put x δ = some δ1 ∧ c δ1 L = .ok (p x) L ∧ (p x = true → e δ1 L = .ok (f x) L)) →
    lcL tg c e δ xs acc L = .ok (acc ++ (xs.filter p).map f) L
  | [], acc, _ => by simp [lcL]
  | x :: xs, acc, h => by
    obtain ⟨δ1, h1, h2, h3⟩ := h x List.mem_cons_self
    have ih := @lcL_pure tg c e δ L p f xs
    rw [lcL]
    simp only [h1, h2]
    by_cases hp : p x = true
    · simp only [hp, R.noErr, R.andThen, if_true, h3 hp]
      rw [ih fun y hy => h y (List.mem_cons_of_mem _ hy)]
      simp [hp]
    · simp only [hp, R.noErr, R.andThen, if_false]
      rw [ih fun y hy => h y (List.mem_cons_of_mem _ hy)]
      simp [hp]
theorem lcF_eq {it : Iv} {own : List Nat} {tg : Tg} {c : Tv} {e : Ev} {δ : Sl} {L L' : Store} {xs ys : List D} {p : D → Bool} {f : D → D} (hi : it δ L = .ok xs L')
    (h : ∀ x ∈ xs, ∃ δ1, tg.put x (wipe δ own) = some δ1 ∧ c δ1 L' = .ok (p x) L' ∧ (p x = true → e δ1 L' = .ok (f x) L')) (hl : xs.length ≤ most) (hy : (xs.filter p).map f = ys) (hf : D.flatL ys = true) : eLcF it own tg c e δ L = .ok (.lst ys) L' := by
  unfold eLcF
  rw [hi]
  simp only [R.andThen, hl, if_true]
  rw [lcL_pure h, List.nil_append, hy]
  simp [frozen, hf]
theorem lcL_typed {α : Type} {tg : Tg} {c : Tv} {e : Ev} {δ : Sl} {L : Store} (enc : α → D) (q : α → Bool) (g : α → D) : ∀ {ts : List α} {acc : List D}, (∀ t ∈ ts, ∃ δ1, tg.put (enc t) δ = some δ1 ∧ c δ1 L = .ok (q t) L ∧ (q t = true → e δ1 L = .ok (g t) L)) →
    lcL tg c e δ (ts.map enc) acc L = .ok (acc ++ (ts.filter q).map g) L
  | [], acc, _ => by simp [lcL]
  | x :: xs, acc, h => by
    obtain ⟨δ1, h1, h2, h3⟩ := h x List.mem_cons_self
    have ih := @lcL_typed α tg c e δ L enc q g xs
    rw [List.map_cons, lcL]
    simp only [h1, h2]
    by_cases hp : q x = true
    · simp only [hp, R.noErr, R.andThen, if_true, h3 hp]
      rw [ih fun y hy => h y (List.mem_cons_of_mem _ hy)]
      simp [hp]
    · simp only [hp, R.noErr, R.andThen, if_false]
      rw [ih fun y hy => h y (List.mem_cons_of_mem _ hy)]
      simp [hp]
theorem lcF_t {α : Type} {it : Iv} {own : List Nat} {tg : Tg} {c : Tv} {e : Ev} {δ : Sl} {L L' : Store} {ts : List α} (enc : α → D) (q : α → Bool) (g : α → D) {ys : List D} (hi : it δ L = .ok (ts.map enc) L')
    (h : ∀ t ∈ ts, ∃ δ1, tg.put (enc t) (wipe δ own) = some δ1 ∧ c δ1 L' = .ok (q t) L' ∧ (q t = true → e δ1 L' = .ok (g t) L')) (hl : ts.length ≤ 100000) (hy : (ts.filter q).map g = ys) (hf : D.flatL ys = true) : eLcF it own tg c e δ L = .ok (.lst ys) L' := by
  unfold eLcF
  rw [hi]
  have hl' : (ts.map enc).length ≤ most := by rw [List.length_map]; exact Nat.le_trans hl (by decide)
  simp only [R.andThen, hl', if_true]
  rw [lcL_typed enc q g h, List.nil_append, hy]
  simp [frozen, hf]
theorem for_cons {tg : Tg} {b : Sv} {δ δ1 δ2 : Sl} {L L2 : Store} {x : D} {xs : List D} (h : tg.put x δ = some δ1) (hb : b δ1 L = .ok (.nx δ2) L2) : forL tg b (x :: xs) δ L = forL tg b xs δ2 L2 := by
  rw [forL]
  simp only [h, hb, R.andThen]
theorem for_ret {tg : Tg} {b : Sv} {δ δ1 : Sl} {L L2 : Store} {x d : D} {xs : List D} (h : tg.put x δ = some δ1) (hb : b δ1 L = .ok (.rt d) L2) : forL tg b (x :: xs) δ L = .ok (.rt d) L2 := by
  rw [forL]
  simp only [h, hb, R.andThen]
theorem for_acc {α : Type} {tg : Tg} {b : Sv} (enc : α → D) (I : List α → Sl → Store → Prop) : ∀ (ts done : List α) (δ : Sl) (L : Store), I done δ L →
    (∀ (d : List α) (x : α) (δ : Sl) (L : Store), x ∈ ts → (∃ r, done ++ ts = d ++ x :: r) → I d δ L → ∃ δ1 δ2 L2, tg.put (enc x) δ = some δ1 ∧ b δ1 L = .ok (.nx δ2) L2 ∧ I (d ++ [x]) δ2 L2) →
    ∃ δ' L', forL tg b (ts.map enc) δ L = .ok (.nx δ') L' ∧ I (done ++ ts) δ' L'
  | [], done, δ, L, h, _ => ⟨δ, L, rfl, by simpa using h⟩
  | x :: ts, done, δ, L, h, st => by
    obtain ⟨δ1, δ2, L2, h1, h2, h3⟩ := st done x δ L List.mem_cons_self ⟨ts, rfl⟩ h
    obtain ⟨δ', L', h4, h5⟩ := for_acc enc I ts (done ++ [x]) δ2 L2 h3 fun d y δ L hy hr hi => st d y δ L (List.mem_cons_of_mem _ hy) (by simpa using hr) hi
    refine ⟨δ', L', ?_, by simpa using h5⟩
    rw [List.map_cons, for_cons h1 h2]
    exact h4
theorem number_zip {α : Type} (f : α → D) : ∀ (ts : List α) (k : Nat), number k (ts.map f) = (ts.zipIdx k).map fun p => D.tup [.int p.2, f p.1]
  | [], _ => rfl
  | x :: ts, k => by rw [List.map_cons, number, number_zip f ts (k + 1), List.zipIdx_cons, List.map_cons]
theorem rngU_map (n : Nat) : rngU 0 n = (List.range n).map fun (i : Nat) => D.int (i : Int) := by
  unfold rngU
  simp
theorem small_nat {n : Nat} (h : n ≤ 100000) : small (n : Int) = true := by
  unfold small
  simp
  omega
theorem iRng1_nat {a : Ev} {δ : Sl} {L L' : Store} {n : Nat} (h : a δ L = .ok (.int (n : Int)) L') (hn : n ≤ 100000) : iRng1 a δ L = .ok ((List.range n).map fun (i : Nat) => D.int (i : Int)) L' := by
  rw [iRng1_eq, h]
  simp [small_nat hn, rngU_map]
end Df
namespace Df
open PySem (Str)
inductive Wd where
  | w (s : Str)
  | u (s : Str)
inductive Rw where
  | say (ws : List Wd)
  | df (t : Str) (ws : List Wd)
inductive Sec where
  | mk (rows : List Rw) (inner : List Sec)
def dWd : Wd → D
  | .w s => .str s
  | .u s => .tup [.str "use", .str s]
def Rw.ws : Rw → List Wd
  | .say ws => ws
  | .df _ ws => ws
def dWs (ws : List Wd) : D := .tup (ws.map dWd)
def dRw : Rw → D
  | .say ws => .tup [.str "say", dWs ws]
  | .df t ws => .tup [.str "def", .str t, dWs ws]
def Sec.rows : Sec → List Rw
  | .mk rows _ => rows
def Sec.inner : Sec → List Sec
  | .mk _ inner => inner
mutual
def dSec : Sec → D
  | .mk rows inner => .tup [.tup (rows.map dRw), .tup (dSecs inner)]
def dSecs : List Sec → List D
  | [] => []
  | s :: r => dSec s :: dSecs r
end
theorem dSecs_map : ∀ xs : List Sec, dSecs xs = xs.map dSec
  | [] => rfl
  | x :: xs => by rw [dSecs, List.map_cons, dSecs_map xs]
theorem dSec_eq (s : Sec) : dSec s = .tup [.tup (s.rows.map dRw), .tup (s.inner.map dSec)] := by
  cases s; rw [dSec, dSecs_map]; rfl
def letters : List Nat := ("abcdefghijklmnopqrstuvwxyz" : Str).cps.toList
structure GoodS (s : Str) : Prop where
  pos : 1 ≤ s.length
  few : s.length ≤ 8
  low : ∀ c ∈ s.cps.toList, c ∈ letters
def Wd.s : Wd → Str
  | .w s => s
  | .u s => s
def GoodW (w : Wd) : Prop := GoodS w.s
structure GoodWs (ws : List Wd) : Prop where
  few : ws.length ≤ 8
  all : ∀ w ∈ ws, GoodW w
def GoodR : Rw → Prop
  | .say ws => GoodWs ws
  | .df t ws => GoodS t ∧ GoodWs ws
def GoodSec : Nat → Sec → Prop
  | n, .mk rows inner => rows.length ≤ 12 ∧ (∀ r ∈ rows, GoodR r) ∧ inner.length ≤ 3 ∧ match n with
    | 0 => inner = []
    | n + 1 => ∀ s ∈ inner, GoodSec n s
theorem flat_map {α : Type} {f : α → D} (h : ∀ a, (f a).flat = true) : ∀ xs : List α, D.flatL (xs.map f) = true
  | [] => rfl
  | x :: xs => by rw [List.map_cons, D.flatL, h x, flat_map h xs]; rfl
theorem plain_map {α : Type} {f : α → D} (h : ∀ a, (f a).plain = true) : ∀ xs : List α, D.plainL (xs.map f) = true
  | [] => rfl
  | x :: xs => by rw [List.map_cons, D.plainL, h x, plain_map h xs]; rfl
theorem noB_map {α : Type} {f : α → D} (h : ∀ a, (f a).noB = true) : ∀ xs : List α, D.noBL (xs.map f) = true
  | [] => rfl
  | x :: xs => by rw [List.map_cons, D.noBL, h x, noB_map h xs]; rfl
theorem depth_map {α : Type} {f : α → D} {n : Nat} (h : ∀ a, (f a).depth ≤ n) : ∀ xs : List α, D.depthL (xs.map f) ≤ n
  | [] => Nat.zero_le _
  | x :: xs => by rw [List.map_cons, D.depthL]; exact Nat.max_le.mpr ⟨h x, depth_map h xs⟩
@[simp] theorem flat_dWd : ∀ w : Wd, (dWd w).flat = true
  | .w _ => rfl
  | .u _ => rfl
@[simp] theorem plain_dWd : ∀ w : Wd, (dWd w).plain = true
  | .w _ => rfl
  | .u _ => rfl
@[simp] theorem flat_dWs (ws : List Wd) : (dWs ws).flat = true := by simp [dWs, D.flat, flat_map]
@[simp] theorem plain_dWs (ws : List Wd) : (dWs ws).plain = true := by simp [dWs, D.plain, plain_map]
@[simp] theorem flat_dRw : ∀ r : Rw, (dRw r).flat = true
  | .say ws => by simp [dRw, D.flat, D.flatL]
  | .df t ws => by simp [dRw, D.flat, D.flatL]
@[simp] theorem plain_dRw : ∀ r : Rw, (dRw r).plain = true
  | .say ws => by simp [dRw, D.plain, D.plainL]
  | .df t ws => by simp [dRw, D.plain, D.plainL]
mutual
@[simp] theorem flat_dSec : ∀ s : Sec, (dSec s).flat = true
  | .mk rows inner => by simp [dSec, D.flat, D.flatL, flat_map, flat_dSecs inner]
theorem flat_dSecs : ∀ s : List Sec, D.flatL (dSecs s) = true
  | [] => rfl
  | x :: xs => by rw [dSecs, D.flatL, flat_dSec x, flat_dSecs xs]; rfl
end
mutual
@[simp] theorem plain_dSec : ∀ s : Sec, (dSec s).plain = true
  | .mk rows inner => by simp [dSec, D.plain, D.plainL, plain_map, plain_dSecs inner]
theorem plain_dSecs : ∀ s : List Sec, D.plainL (dSecs s) = true
  | [] => rfl
  | x :: xs => by rw [dSecs, D.plainL, plain_dSec x, plain_dSecs xs]; rfl
end
theorem most_of {n : Nat} (h : n ≤ 100000) : n ≤ most := Nat.le_trans h (by decide)
theorem most_of' {n : Nat} (h : n ≤ 100000) : (n ≤ most) = True := eq_true (most_of h)
theorem c1_is_word {s : Str} (h : GoodS s) : C1_is_word [some (.str s), none] [] = .ok (.lst []) [] := by
  unfold C1_is_word
  refine lcF_eq (p := fun _ => false) (f := id) (xs := s.cps.toList.map fun c => D.str ⟨#[c]⟩) (by simp [eVar]) (fun x hx => ?_) (by have := h.few; simp only [List.length_map]; exact most_of (by simpa [Str.length] using Nat.le_trans this (by decide))) (by simp) rfl
  obtain ⟨c, hc, rfl⟩ := List.mem_map.mp hx
  refine ⟨_, rfl, ?_, fun z => absurd z Bool.false_ne_true⟩
  have hl := h.low c hc
  simp [eVar, cNotIn, isIn, Str.length, wipe]
  simpa [letters] using hl
theorem val_is_word {s : Str} (h : GoodS s) : val F_is_word [.str s] = some (.bl true) := by
  refine val_v (L := []) ?_ (fun k e => by cases e) rfl
  have h1 := h.pos
  have h2 := h.few
  have h3 : s.length ≤ most := most_of (by omega)
  have e1 : (decide ((1 : Int) ≤ (s.length : Int))) = true := decide_eq_true (by omega)
  have e2 : (decide ((s.length : Int) ≤ (8 : Int))) = true := decide_eq_true (by omega)
  simp [F_is_word, fnOf, eVar, isTy, bLenS, h3, e1, e2, c1_is_word h]
theorem val_is_word_u {x y : D} (hx : x.plain = true) (hy : y.plain = true) : val F_is_word [.tup [x, y]] = some (.bl false) := by
  refine val_v (L := []) ?_ (fun k e => by cases e) rfl
  simp [F_is_word, fnOf, eVar, isTy, hx, hy]
theorem val_is_use {s : Str} (h : GoodS s) : val F_is_use [.tup [.str "use", .str s]] = some (.bl true) := by
  refine val_v (L := []) ?_ (fun k e => by cases e) rfl
  have hc := fun (δ : Sl) (L : Store) (a : Av) (ha : a δ L = .ok [.str s] L) => callF_eq (n := 1) ha (val_is_word h) rfl rfl
  have e : eCallF 1 F_is_word (aCons (eOp oIx (eVar 0) (eC (.int 1))) aNil) [some (.tup [.str "use", .str s])] [] = .ok (.bl true) [] := hc _ _ _ (by simp [eVar, atInt, ixI])
  simp [F_is_use, fnOf, eVar, isTy, atInt, ixI, e]
theorem val_is_use_w {s : Str} : val F_is_use [.str s] = some (.bl false) := by
  refine val_v (L := []) ?_ (fun k e => by cases e) rfl
  simp [F_is_use, fnOf, eVar, isTy]
theorem call1 {F : Fn} {a : Av} {δ : Sl} {L : Store} {x d : D} (h : val F [x] = some d) (ha : a δ L = .ok [x] L) (hx : x.flat = true) : eCallF 1 F a δ L = .ok d L := callF_eq ha h rfl (by simp [hx])
theorem c1_are_words {ws : List Wd} (h : GoodWs ws) : C1_are_words [some (dWs ws), none] [] = .ok (.lst []) [] := by
  unfold C1_are_words
  refine lcF_eq (p := fun _ => false) (f := id) (xs := ws.map dWd) (by simp [eVar, dWs]) (fun x hx => ?_) (by have := h.few; simp only [List.length_map]; exact most_of (by omega)) (by simp) rfl
  obtain ⟨w, hw, rfl⟩ := List.mem_map.mp hx
  refine ⟨_, rfl, ?_, fun z => absurd z Bool.false_ne_true⟩
  have hg' := h.all w hw
  cases w with
  | w s =>
    have hg : GoodS s := hg'
    have e : eCallF 1 F_is_word (aCons (eVar 1) aNil) [some (dWs ws), some (.str s)] [] = .ok (.bl true) [] := call1 (val_is_word hg) (by simp [eVar]) rfl
    simp [wipe, dWd, e]
  | u s =>
    have hg : GoodS s := hg'
    have e : eCallF 1 F_is_word (aCons (eVar 1) aNil) [some (dWs ws), some (.tup [.str "use", .str s])] [] = .ok (.bl false) [] := call1 (x := .tup [.str "use", .str s]) (val_is_word_u rfl rfl) (by simp [eVar]) rfl
    have e2 : eCallF 1 F_is_use (aCons (eVar 1) aNil) [some (dWs ws), some (.tup [.str "use", .str s])] [] = .ok (.bl true) [] := call1 (val_is_use hg) (by simp [eVar]) rfl
    simp [wipe, dWd, e, e2]
theorem val_are_words {ws : List Wd} (h : GoodWs ws) : val F_are_words [dWs ws] = some (.bl true) := by
  refine val_v (L := []) ?_ (fun k e => by cases e) rfl
  have h1 := h.few
  have e1 : (decide ((8 : Int) < (ws.length : Int))) = false := decide_eq_false (by omega)
  have e2 := c1_are_words h
  rw [dWs] at e2 ⊢
  simp [F_are_words, fnOf, eVar, isTy, plain_map, e1, e2]
theorem val_is_row {r : Rw} (h : GoodR r) : val F_is_row [dRw r] = some (.bl true) := by
  refine val_v (L := []) ?_ (fun k e => by cases e) rfl
  cases r with
  | say ws =>
    have e : eCallF 1 F_are_words (aCons (eOp oIx (eVar 0) (eUn uNeg (eC (.int 1)))) aNil) [some (.tup [.str "say", dWs ws])] [] = .ok (.bl true) [] := call1 (val_are_words h) (by simp [eVar, atInt, ixI]) (by simp)
    have n1 : ("say" : Str) ≠ "def" := by decide
    simp [F_is_row, fnOf, eVar, isTy, dRw, e, atInt, ixI, n1]
  | df t ws =>
    have e : eCallF 1 F_are_words (aCons (eOp oIx (eVar 0) (eUn uNeg (eC (.int 1)))) aNil) [some (.tup [.str "def", .str t, dWs ws])] [] = .ok (.bl true) [] := call1 (val_are_words h.2) (by simp [eVar, atInt, ixI]) (by simp)
    have e2 : eCallF 1 F_is_word (aCons (eOp oIx (eVar 0) (eC (.int 1))) aNil) [some (.tup [.str "def", .str t, dWs ws])] [] = .ok (.bl true) [] := call1 (val_is_word h.1) (by simp [eVar, atInt, ixI]) (by simp)
    simp [F_is_row, fnOf, eVar, isTy, dRw, e, e2, atInt, ixI]
def dP (p : List Nat) : D := .tup (p.map fun (n : Nat) => .int (n : Int))
@[simp] theorem flat_dP (p : List Nat) : (dP p).flat = true := by simp only [dP, flat_tup]; exact flat_map (fun _ => rfl) p
@[simp] theorem plain_dP (p : List Nat) : (dP p).plain = true := by simp only [dP, plain_tup]; exact plain_map (fun _ => rfl) p
theorem GoodSec.rows12 : ∀ {n : Nat} {s : Sec}, GoodSec n s → s.rows.length ≤ 12
  | n, .mk rows inner, h => by cases n <;> exact h.1
theorem GoodSec.rowsG : ∀ {n : Nat} {s : Sec}, GoodSec n s → ∀ r ∈ s.rows, GoodR r
  | n, .mk rows inner, h => by cases n <;> exact h.2.1
theorem GoodSec.inner3 : ∀ {n : Nat} {s : Sec}, GoodSec n s → s.inner.length ≤ 3
  | n, .mk rows inner, h => by cases n <;> exact h.2.2.1
theorem GoodSec.none : ∀ {s : Sec}, GoodSec 0 s → s.inner = []
  | .mk rows inner, h => h.2.2.2
theorem GoodSec.sub : ∀ {n : Nat} {s : Sec}, GoodSec (n + 1) s → ∀ t ∈ s.inner, GoodSec n t
  | n, .mk rows inner, h => h.2.2.2
theorem val_need_section : ∀ (n m : Nat) (s : Sec) (p : List Nat), GoodSec n s → n ≤ m → p.length + n ≤ 2 → val (F_need_section (m + 1)) [dSec s, dP p] = some .non
  | n, m, s, p, h, hm, hp => by
    have ih : ∀ t ∈ s.inner, ∀ k : Nat, ∃ m', m = m' + 1 ∧ val (F_need_section m) [dSec t, dP (p ++ [k])] = some .non := fun t ht k => by
      cases n with
      | zero => rw [h.none] at ht; cases ht
      | succ n =>
        obtain ⟨m', rfl⟩ : ∃ m', m = m' + 1 := ⟨m - 1, by omega⟩
        exact ⟨m', rfl, val_need_section n m' t (p ++ [k]) (h.sub t ht) (by omega) (by simp; omega)⟩
    have h1 := h.rows12
    have h2 := h.inner3
    have e1 : (decide ((12 : Int) < (s.rows.length : Int))) = false := decide_eq_false (by omega)
    have e2 : (decide ((3 : Int) < (s.inner.length : Int))) = false := decide_eq_false (by omega)
    have e3 : (decide ((2 : Int) < (p.length : Int))) = false := decide_eq_false (by omega)
    -- the rows
    obtain ⟨δ1, L1, f1, q1⟩ := for_acc (tg := .tp [5, 6]) (b := B1_need_section (F_need_section m)) (fun x : Rw × Nat => D.tup [.int x.2, dRw x.1])
      (fun _ δ L => L = [] ∧ ∃ x y z, δ = [some (dSec s), some (dP p), some (.bl true), some (.tup (s.rows.map dRw)), some (.tup (s.inner.map dSec)), x, y, z]) s.rows.zipIdx []
      [some (dSec s), some (dP p), some (.bl true), some (.tup (s.rows.map dRw)), some (.tup (s.inner.map dSec)), none, none, none] [] ⟨rfl, _, _, _, rfl⟩ (fun d x δ L hx _ hi => by
        obtain ⟨rfl, a, b, c, rfl⟩ := hi
        have hr : x.1 ∈ s.rows := by
          obtain ⟨_, _, hz⟩ := List.mem_zipIdx (x := x.1) (i := x.2) hx
          rw [hz]; exact List.getElem_mem _
        refine ⟨_, _, _, rfl, ?_, rfl, some (.int x.2), some (dRw x.1), c, rfl⟩
        have e : eCallF 1 F_is_row (aCons (eVar 6) aNil) [some (dSec s), some (dP p), some (.bl true), some (.tup (s.rows.map dRw)), some (.tup (s.inner.map dSec)), some (.int x.2), some (dRw x.1), c] [] = .ok (.bl true) [] := call1 (val_is_row (h.rowsG _ hr)) (by simp [eVar]) (by simp)
        simp [B1_need_section, e, setAll])
    obtain ⟨rfl, a1, a2, a3, rfl⟩ := q1
    obtain ⟨δ2, L2, f2, q2⟩ := for_acc (tg := .tp [5, 7]) (b := B2_need_section (F_need_section m)) (fun x : Sec × Nat => D.tup [.int x.2, dSec x.1])
      (fun _ δ L => L = [] ∧ ∃ x y z, δ = [some (dSec s), some (dP p), some (.bl true), some (.tup (s.rows.map dRw)), some (.tup (s.inner.map dSec)), x, y, z]) s.inner.zipIdx []
      [some (dSec s), some (dP p), some (.bl true), some (.tup (s.rows.map dRw)), some (.tup (s.inner.map dSec)), a1, a2, a3] [] ⟨rfl, _, _, _, rfl⟩ (fun d x δ L hx _ hi => by
        obtain ⟨rfl, a, b, c, rfl⟩ := hi
        have hr : x.1 ∈ s.inner := by
          obtain ⟨_, _, hz⟩ := List.mem_zipIdx (x := x.1) (i := x.2) hx
          rw [hz]; exact List.getElem_mem _
        refine ⟨_, _, _, rfl, ?_, rfl, some (.int x.2), b, some (dSec x.1), rfl⟩
        obtain ⟨m', _, hv⟩ := ih x.1 hr x.2
        have hl : p.length + 1 ≤ most := most_of (by omega)
        have e : eCallF 2 (F_need_section m) (aCons (eVar 7) (aCons (eOp oAdd (eVar 1) (eTup (aCons (eVar 5) aNil))) aNil)) [some (dSec s), some (dP p), some (.bl true), some (.tup (s.rows.map dRw)), some (.tup (s.inner.map dSec)), some (.int x.2), b, some (dSec x.1)] [] = .ok .non [] :=
          callF_eq (ds := [dSec x.1, dP (p ++ [x.2])]) (by simp [eVar, dP, most_of' (show 1 ≤ 100000 by decide), hl]) hv rfl (by simp)
        simp [B2_need_section, e, setAll])
    obtain ⟨rfl, b1, b2, b3, rfl⟩ := q2
    refine val_v (L := []) ?_ (fun k e => by cases e) rfl
    have hs := dSec_eq s
    rw [← number_zip dRw] at f1
    rw [← number_zip dSec] at f2
    rw [hs] at f1 f2 ⊢
    simp [F_need_section, fnOf, eVar, isTy, atInt, ixI, Tg.put, setAll, e1, e2, e3, plain_map, dP]
    simp [dP] at f1 f2
    rw [f1]
    simp [f2]
theorem val_need_paper {s : Sec} (h : GoodSec 2 s) : val F_need_paper [dSec s] = some .non := by
  refine val_v (L := []) ?_ (fun k e => by cases e) rfl
  have e : eCallF 2 (F_need_section 12) (aCons (eVar 0) (aCons (eTup aNil) aNil)) [some (dSec s)] [] = .ok .non [] :=
    callF_eq (ds := [dSec s, dP []]) (by simp [eVar, dP]) (val_need_section 2 11 s [] h (by omega) (by simp)) rfl (by simp)
  simp [F_need_paper, fnOf, e]
end Df
namespace Df
open PySem (Str)
theorem filter_tt {α : Type} (xs : List α) : xs.filter (fun _ => true) = xs := List.filter_eq_self.mpr fun _ _ => rfl
def dPS (x : List Nat × Sec) : D := .tup [dP x.1, dSec x.2]
@[simp] theorem flat_dPS (x : List Nat × Sec) : (dPS x).flat = true := by simp [dPS]
@[simp] theorem plain_dPS (x : List Nat × Sec) : (dPS x).plain = true := by simp [dPS]
mutual
def secs (p : List Nat) : Sec → List (List Nat × Sec)
  | .mk rows inner => (p, .mk rows inner) :: secsL p 0 inner
def secsL (p : List Nat) (k : Nat) : List Sec → List (List Nat × Sec)
  | [] => []
  | s :: r => secs (p ++ [k]) s ++ secsL p (k + 1) r
end
theorem secs_eq (p : List Nat) (s : Sec) : secs p s = (p, s) :: secsL p 0 s.inner := by cases s; rw [secs]; rfl
theorem secsL_kids (p : List Nat) : ∀ (inner : List Sec) (k : Nat), secsL p k inner = ((inner.zipIdx k).map fun x => (p ++ [x.2], x.1)).flatMap fun x => secs x.1 x.2
  | [], _ => by simp [secsL]
  | s :: r, k => by rw [secsL, secsL_kids p r (k + 1), List.zipIdx_cons, List.map_cons, List.flatMap_cons]
theorem secs_len : ∀ (n : Nat) (s : Sec) (p : List Nat), GoodSec n s → (secs p s).length ≤ 4 ^ (n + 1)
  | n, s, p, h => by
    rw [secs_eq, secsL_kids, List.length_cons, List.length_flatMap]
    have h3 := h.inner3
    have key : ∀ (l : List (List Nat × Sec)) (b : Nat), (∀ x ∈ l, (secs x.1 x.2).length ≤ b) → (l.map fun x => (secs x.1 x.2).length).sum ≤ l.length * b := by
      intro l b
      induction l with
      | nil => intro _; simp
      | cons x l ih =>
        intro hx
        have h1 := hx x List.mem_cons_self
        have h2 := ih fun y hy => hx y (List.mem_cons_of_mem _ hy)
        simp only [List.map_cons, List.sum_cons, List.length_cons]
        have : (l.length + 1) * b = l.length * b + b := by rw [Nat.add_mul, Nat.one_mul]
        omega
    cases n with
    | zero => rw [h.none]; simp
    | succ n =>
      have q := key ((s.inner.zipIdx 0).map fun x => (p ++ [x.2], x.1)) (4 ^ (n + 1)) (fun x hx => by
        obtain ⟨y, hy, rfl⟩ := List.mem_map.mp hx
        obtain ⟨_, _, hz⟩ := List.mem_zipIdx (x := y.1) (i := y.2) hy
        exact secs_len n y.1 (p ++ [y.2]) (h.sub _ (by rw [hz]; exact List.getElem_mem _)))
      rw [List.length_map, List.length_zipIdx] at q
      have e : 4 ^ (n + 1 + 1) = 4 ^ (n + 1) * 4 := Nat.pow_succ 4 (n + 1)
      have : s.inner.length * 4 ^ (n + 1) ≤ 3 * 4 ^ (n + 1) := Nat.mul_le_mul_right _ h3
      have : 0 < 4 ^ (n + 1) := Nat.pow_pos (by decide)
      omega
def secAt : Sec → List Nat → Option Sec
  | s, [] => some s
  | s, k :: r => match s.inner[k]? with
    | some t => secAt t r
    | none => none
theorem loop_section_at {a b : Option D} {L : Store} : ∀ (p : List Nat) (s t : Sec) (c : Option D), secAt s p = some t → ∃ c', forL (.nm 3) B1_section_at (p.map fun (n : Nat) => .int (n : Int)) [a, b, some (dSec s), c] L = .ok (.nx [a, b, some (dSec t), c']) L
  | [], s, t, c, h => by cases h; exact ⟨c, rfl⟩
  | k :: r, s, t, c, h => by
    rw [secAt] at h
    cases e : s.inner[k]? with
    | none => rw [e] at h; cases h
    | some u =>
      rw [e] at h
      obtain ⟨c', ih⟩ := loop_section_at r u t (some (.int k)) h
      refine ⟨c', ?_⟩
      rw [List.map_cons, for_cons (δ1 := [a, b, some (dSec s), some (.int k)]) (δ2 := [a, b, some (dSec u), some (.int k)]) (L2 := L) rfl ?_]
      · exact ih
      · have hk : k < (s.inner.map dSec).length := by simpa using (List.getElem?_eq_some_iff.mp e).1
        have e2 : atInt (s.inner.map dSec) (k : Int) = some (dSec u) := by rw [atInt_nat hk, List.getElem?_map, e]; rfl
        rw [dSec_eq s]
        simp [B1_section_at, eVar, Tg.put, e2]
theorem val_section_at {s t : Sec} {p : List Nat} (h : secAt s p = some t) : val F_section_at [dSec s, dP p] = some (dSec t) := by
  obtain ⟨c', e⟩ := loop_section_at (a := some (dSec s)) (b := some (dP p)) (L := []) p s t none h
  refine val_v (L := []) ?_ (fun k z => by rw [dSec_eq] at z; cases z) (by simp)
  simp only [F_section_at, fnOf, sSeq_eq, sSet_eq, sFor_eq, iSeq_eq, sRet_eq]
  simp [eVar, Tg.put, dP] at e ⊢
  simp [e]
end Df
namespace Df
open PySem (Str)
theorem flatMap_len {α β : Type} {f : α → List β} {b : Nat} : ∀ {l : List α}, (∀ x ∈ l, (f x).length ≤ b) → (l.flatMap f).length ≤ l.length * b
  | [], _ => by simp
  | x :: l, h => by
    have h1 := h x List.mem_cons_self
    have h2 := flatMap_len fun y hy => h y (List.mem_cons_of_mem _ hy)
    rw [List.flatMap_cons, List.length_append, List.length_cons, Nat.add_mul, Nat.one_mul]
    omega
theorem flatMap_pre {α β : Type} {f : α → List β} {l d r : List α} (h : l = d ++ r) : (d.flatMap f).length ≤ (l.flatMap f).length := by
  subst h
  rw [List.flatMap_append, List.length_append]
  omega
theorem filt_fm {α β : Type} {q : α → Bool} {g : α → D} {f : α → Option β} {h : β → D} : ∀ {xs : List α}, (∀ x ∈ xs, match f x with | some b => q x = true ∧ g x = h b | none => q x = false) → (xs.filter q).map g = (xs.filterMap f).map h
  | [], _ => rfl
  | x :: xs, hh => by
    have h1 := hh x List.mem_cons_self
    have ih := filt_fm fun y hy => hh y (List.mem_cons_of_mem _ hy)
    cases e : f x with
    | none =>
      rw [e] at h1
      have h1' : q x = false := h1
      rw [List.filterMap_cons_none e, List.filter_cons_of_neg (by rw [h1']; exact Bool.false_ne_true), ih]
    | some b =>
      rw [e] at h1
      have h1' : q x = true ∧ g x = h b := h1
      rw [List.filterMap_cons_some e, List.filter_cons_of_pos h1'.1, List.map_cons, List.map_cons, ih, h1'.2]
mutual
theorem secs_good : ∀ (n : Nat) (s : Sec) (p : List Nat), GoodSec n s → ∀ x ∈ secs p s, ∃ m q, m + q.length = n ∧ GoodSec m x.2 ∧ x.1 = p ++ q ∧ secAt s q = some x.2
  | n, .mk rows inner, p, h, x, hx => by
    rw [secs] at hx
    rcases List.mem_cons.mp hx with rfl | hx
    · exact ⟨n, [], rfl, h, by simp, rfl⟩
    · obtain ⟨k, t, m, q, h1, h2, h3, h4, h5, h6⟩ := secsL_good n inner p 0 (fun t ht => by
        cases n with
        | zero => rw [show inner = [] from h.none] at ht; cases ht
        | succ n => exact ⟨n, rfl, h.sub t ht⟩) x hx
      refine ⟨m, k :: q, by simp; omega, h3, by simpa using h4, ?_⟩
      rw [secAt]
      simp only [Sec.inner]
      rw [show inner[k]? = some t by simpa using h5]
      exact h6
theorem secsL_good : ∀ (n : Nat) (inner : List Sec) (p : List Nat) (j : Nat), (∀ t ∈ inner, ∃ m, n = m + 1 ∧ GoodSec m t) → ∀ x ∈ secsL p j inner, ∃ k t m q, m + q.length + 1 = n ∧ j ≤ k ∧ GoodSec m x.2 ∧ x.1 = p ++ (k :: q) ∧ inner[k - j]? = some t ∧ secAt t q = some x.2
  | n, [], p, j, h, x, hx => by rw [secsL] at hx; cases hx
  | n, t :: r, p, j, h, x, hx => by
    rw [secsL] at hx
    rcases List.mem_append.mp hx with hx | hx
    · obtain ⟨m, rfl, hg⟩ := h t List.mem_cons_self
      obtain ⟨m', q, h1, h2, h3, h4⟩ := secs_good m t (p ++ [j]) hg x hx
      exact ⟨j, t, m', q, by omega, Nat.le_refl _, h2, by simpa using h3, by simp, h4⟩
    · obtain ⟨k, t', m, q, h1, h2, h3, h4, h5, h6⟩ := secsL_good n r p (j + 1) (fun t ht => h t (List.mem_cons_of_mem _ ht)) x hx
      refine ⟨k, t', m, q, h1, by omega, h3, h4, ?_, h6⟩
      have : k - j = (k - (j + 1)) + 1 := by omega
      rw [this, List.getElem?_cons_succ]
      exact h5
end
def dUs (p : List Nat) (i k : Nat) : D := .tup [dP p, .int i, .int k]
abbrev Us := List Nat × Nat × Nat
def dU (u : Us) : D := dUs u.1 u.2.1 u.2.2
@[simp] theorem flat_dU (u : Us) : (dU u).flat = true := by simp [dU, dUs]
@[simp] theorem plain_dU (u : Us) : (dU u).plain = true := by simp [dU, dUs]
def dUT (x : Us × Str) : D := .tup [dU x.1, .str x.2]
@[simp] theorem flat_dUT (u : Us × Str) : (dUT u).flat = true := by simp [dUT]
def useAt (p : List Nat) (i : Nat) (ws : List Wd) (k : Nat) : Option (Us × Str) := match ws[k]? with
  | some (.u s) => some ((p, i, k), s)
  | _ => none
def usesW (p : List Nat) (i : Nat) (ws : List Wd) : List (Us × Str) := (List.range ws.length).filterMap (useAt p i ws)
def usesR (p : List Nat) (r : Rw × Nat) : List (Us × Str) := usesW p r.2 r.1.ws
def usesS (x : List Nat × Sec) : List (Us × Str) := x.2.rows.zipIdx.flatMap (usesR x.1)
def uses (s : Sec) : List (Us × Str) := (secs [] s).flatMap usesS
theorem usesW_len (p : List Nat) (i : Nat) (ws : List Wd) : (usesW p i ws).length ≤ ws.length := by
  unfold usesW
  exact Nat.le_trans (List.length_filterMap_le _ _) (by simp)
theorem GoodR.ws8 : ∀ {r : Rw}, GoodR r → r.ws.length ≤ 8
  | .say ws, h => h.few
  | .df t ws, h => h.2.few
theorem GoodR.wsG : ∀ {r : Rw}, GoodR r → ∀ w ∈ r.ws, GoodW w
  | .say ws, h => h.all
  | .df t ws, h => h.2.all
theorem mem_zip {α : Type} {l : List α} {x : α × Nat} (h : x ∈ l.zipIdx) : l[x.2]? = some x.1 ∧ x.1 ∈ l := by
  obtain ⟨_, h2, hz⟩ := List.mem_zipIdx (x := x.1) (i := x.2) h
  simp at hz
  refine ⟨?_, ?_⟩
  · rw [List.getElem?_eq_getElem (by simpa using h2), hz]
  · rw [hz]; exact List.getElem_mem _
theorem usesS_len {n : Nat} {x : List Nat × Sec} (h : GoodSec n x.2) : (usesS x).length ≤ 96 := by
  have h1 := h.rows12
  have := flatMap_len (l := x.2.rows.zipIdx) (f := usesR x.1) (b := 8) fun r hr => Nat.le_trans (usesW_len _ _ _) (h.rowsG r.1 (mem_zip hr).2).ws8
  rw [List.length_zipIdx] at this
  unfold usesS
  omega
theorem uses_len {s : Sec} (h : GoodSec 2 s) : (uses s).length ≤ 6144 := by
  have h1 := secs_len 2 s [] h
  have := flatMap_len (l := secs [] s) (f := usesS) (b := 96) fun x hx => by
    obtain ⟨m, q, _, h2, _⟩ := secs_good 2 s [] h x hx
    exact usesS_len h2
  unfold uses
  simp at h1
  omega
theorem last_dRw {L : Store} : ∀ (r : Rw), oIx (dRw r) (.int (-1)) L = .ok (dWs r.ws) L
  | .say ws => by simp [dRw, Rw.ws]
  | .df t ws => by simp [dRw, Rw.ws]
end Df
namespace Df
open PySem (Str)
def isDef (t : Str) : Rw → Bool
  | .df u _ => decide (u = t)
  | .say _ => false
def defAt (rows : List Rw) (t : Str) (n : Nat) : Bool := match rows[n]? with
  | some r => isDef t r
  | none => false
def lastDef (rows : List Rw) (t : Str) (e : Nat) : Option Nat := ((List.range e).reverse).find? (defAt rows t)
@[simp] theorem noB_dWd : ∀ w : Wd, (dWd w).noB = true
  | .w _ => rfl
  | .u _ => rfl
@[simp] theorem noB_dWs (ws : List Wd) : (dWs ws).noB = true := by simp [dWs, noB_map]
@[simp] theorem depth_dWd : ∀ w : Wd, (dWd w).depth ≤ 1
  | .w _ => Nat.zero_le _
  | .u _ => Nat.le_refl _
theorem depth_dWs (ws : List Wd) : (dWs ws).depth ≤ 2 := by
  rw [dWs, depth_tup]
  have := depth_map depth_dWd ws
  omega
def oN : Option Nat → D
  | some n => .int n
  | none => .non
end Df
namespace Df
open PySem (Str)
theorem secAt_good : ∀ {q : List Nat} {n : Nat} {s v : Sec}, GoodSec n s → secAt s q = some v → ∃ m, m + q.length = n ∧ GoodSec m v
  | [], n, s, v, h, e => by cases e; exact ⟨n, rfl, h⟩
  | k :: r, n, s, v, h, e => by
    rw [secAt] at e
    cases q : s.inner[k]? with
    | none => rw [q] at e; cases e
    | some u =>
      rw [q] at e
      have hm : u ∈ s.inner := List.mem_of_getElem? q
      cases n with
      | zero => rw [h.none] at hm; cases hm
      | succ n =>
        obtain ⟨m, h1, h2⟩ := secAt_good (h.sub u hm) e
        exact ⟨m, by simp only [List.length_cons]; omega, h2⟩
def loc (s : Sec) (q : List Nat) : List Rw := match secAt s q with
  | some u => u.rows
  | none => []
abbrev Go := Option (List Nat × Nat)
def dG : Go → D
  | some g => .tup [dP g.1, .int g.2]
  | none => .non
@[simp] theorem flat_dG : ∀ g : Go, (dG g).flat = true
  | some g => by simp [dG]
  | none => rfl
@[simp] theorem plain_dG : ∀ g : Go, (dG g).plain = true
  | some g => by simp [dG]
  | none => rfl
def arnd (s : Sec) (p : List Nat) (t : Str) (m : Nat) : Option Nat := lastDef (loc s (p.take m)) t (loc s (p.take m)).length
def hasA (s : Sec) (p : List Nat) (t : Str) (m : Nat) : Bool := (arnd s p t m).isSome
def meaning (s : Sec) (p : List Nat) (i : Nat) (t : Str) : Go × Bool := match lastDef (loc s p) t i with
  | some n => (some (p, n), false)
  | none => match ((List.range p.length).reverse).find? (hasA s p t) with
    | some m => ((arnd s p t m).map fun n => (p.take m, n), false)
    | none => match (List.range ((loc s p).length - i)).find? (fun j => defAt (loc s p) t (i + j)) with
      | some j => (some (p, i + j), true)
      | none => (none, false)
theorem call3 {F : Fn} {a : Av} {δ : Sl} {L : Store} {x y z d : D} (h : val F [x, y, z] = some d) (ha : a δ L = .ok [x, y, z] L) (hf : (x.flat && (y.flat && z.flat)) = true) : eCallF 3 F a δ L = .ok d L := callF_eq ha h rfl (by simpa using hf)
theorem call2 {F : Fn} {a : Av} {δ : Sl} {L : Store} {x y d : D} (h : val F [x, y] = some d) (ha : a δ L = .ok [x, y] L) (hf : (x.flat && y.flat) = true) : eCallF 2 F a δ L = .ok d L := callF_eq ha h rfl (by simpa using hf)
@[simp] theorem flat_oN (o : Option Nat) : (oN o).flat = true := by cases o <;> rfl
theorem aCons_ok {e : Ev} {a : Av} {δ : Sl} {L L1 L2 : Store} {d : D} {ds : List D} (h1 : e δ L = .ok d L1) (h2 : a δ L1 = .ok ds L2) : aCons e a δ L = .ok (d :: ds) L2 := by
  unfold aCons
  rw [h1]
  show R.andThen (a δ L1) _ = _
  rw [h2]; rfl
theorem eVar_of {δ : Sl} {L : Store} {i : Nat} {d : D} (h : δ[i]? = some (some d)) : eVar i δ L = .ok d L := by unfold eVar; rw [h]
end Df
namespace Df
open PySem (Str)
theorem useAt_mem {p : List Nat} {i : Nat} {ws : List Wd} {x : Us × Str} (h : x ∈ usesW p i ws) : x.1.1 = p ∧ x.1.2.1 = i ∧ ws[x.1.2.2]? = some (.u x.2) := by
  unfold usesW at h
  obtain ⟨k, _, hk⟩ := List.mem_filterMap.mp h
  unfold useAt at hk
  split at hk
  · rename_i s e
    cases hk
    exact ⟨rfl, rfl, e⟩
  · cases hk
theorem uses_mem {s : Sec} (h : GoodSec 2 s) {x : Us × Str} (hx : x ∈ uses s) : ∃ v r, secAt s x.1.1 = some v ∧ v.rows[x.1.2.1]? = some r ∧ r.ws[x.1.2.2]? = some (.u x.2) := by
  unfold uses at hx
  obtain ⟨y, hy, hx⟩ := List.mem_flatMap.mp hx
  obtain ⟨m, q, _, _, h3, h4⟩ := secs_good 2 s [] h y hy
  unfold usesS at hx
  obtain ⟨z, hz, hx⟩ := List.mem_flatMap.mp hx
  obtain ⟨e1, e2, e3⟩ := useAt_mem hx
  refine ⟨y.2, z.1, ?_, ?_, e3⟩
  · rw [e1, h3]; exact h4
  · rw [e2]; exact (mem_zip hz).1
def dAM (s : Sec) (x : Us × Str) : D := .tup [dU x.1, dG (meaning s x.1.1 x.1.2.1 x.2).1, .bl (meaning s x.1.1 x.1.2.1 x.2).2]
@[simp] theorem flat_dAM (s : Sec) (x : Us × Str) : (dAM s x).flat = true := by simp [dAM]
def dUG (s : Sec) (x : Us × Str) : D := .tup [dU x.1, dG (meaning s x.1.1 x.1.2.1 x.2).1]
@[simp] theorem flat_dUG (s : Sec) (x : Us × Str) : (dUG s x).flat = true := by simp [dUG]
@[simp] theorem noB_dP (p : List Nat) : (dP p).noB = true := by simp only [dP, noB_tup]; exact noB_map (fun _ => rfl) p
theorem val_at : ∀ (n : Nat) (p : List Nat) (s v : Sec), secAt s p = some v → p.length ≤ n → n ≤ 50 → val (F__law_at (n + 1)) [dSec s, dP p] = some (dSec v)
  | n, [], s, v, h, _, _ => by
    cases h
    have e : F__law_at (n + 1) [dSec s, dP []] [] = .ok (dSec s) [] := by
      have e2 : cEq (dP []) (.tup []) [] = .ok (.bl true) [] := by rw [cEq_pl (by simp [dP]) (by simp) (.inr (by simp))]; simp [dP, D.eqv]
      simp [F__law_at, fnOf, eVar, most_of' (show 0 ≤ 100000 by decide), e2]
    exact val_v e (fun k z => by rw [dSec_eq] at z; cases z) (by simp)
  | 0, k :: r, s, v, _, h, _ => absurd h (by simp)
  | n + 1, k :: r, s, v, h, hl, hn => by
    rw [secAt] at h
    cases e : s.inner[k]? with
    | none => rw [e] at h; cases h
    | some u =>
      rw [e] at h
      have ih := val_at n r u v h (by simpa using hl) (by omega)
      have hk : k < (s.inner.map dSec).length := by simpa using (List.getElem?_eq_some_iff.mp e).1
      have e2 : atInt (s.inner.map dSec) (k : Int) = some (dSec u) := by rw [atInt_nat hk, List.getElem?_map, e]; rfl
      have e3 : cEq (dP (k :: r)) (.tup []) [] = .ok (.bl false) [] := by
        rw [cEq_pl (show (look [] (dP (k :: r))).plain = true from plain_dP _) (by simp) (.inr (by simp))]
        show R.ok (D.bl (D.eqv (dP (k :: r)) (.tup []))) [] = _
        rw [D.eqv_of (noB_dP _) (by simp)]
        simp [dP]
      have x1 : eOp oIx (eOp oIx (eVar 0) (eC (.int 1))) (eOp oIx (eVar 1) (eC (.int 0))) [some (dSec s), some (dP (k :: r))] [] = .ok (dSec u) [] := by rw [dSec_eq s]; simp [eVar, dP, e2]
      have x2 : eSlice (eVar 1) (.at (eC (.int 1))) .no [some (dSec s), some (dP (k :: r))] [] = .ok (dP r) [] := by
        unfold eSlice
        simp [eVar, Pt.run, dP, cutL, ixOf]
        exact List.take_of_length_le (by simp)
      have x3 : eCall 2 (F__law_at (n + 1)) (aCons (eOp oIx (eOp oIx (eVar 0) (eC (.int 1))) (eOp oIx (eVar 1) (eC (.int 0)))) (aCons (eSlice (eVar 1) (.at (eC (.int 1))) .no) aNil)) [some (dSec s), some (dP (k :: r))] [] = .ok (dSec v) [] :=
        call_eq (aCons_ok x1 (aCons_ok x2 (aNil_eq (L := [])))) ih rfl (by simp) (by rw [dSec_eq]; rfl)
      have e4 : F__law_at (n + 1 + 1) [dSec s, dP (k :: r)] [] = .ok (dSec v) [] := by
        rw [F__law_at]
        simp only [fnOf]
        simp only [List.map_cons, List.map_nil, List.length_cons, List.length_nil, Nat.reduceAdd, Nat.reduceSub, Nat.sub_self, List.replicate_zero, List.append_nil]
        have t1 : tVal (eOp cEq (eVar 1) (eTup aNil)) [some (dSec s), some (dP (k :: r))] [] = .ok false [] := by simp [eVar, most_of' (show 0 ≤ 100000 by decide), e3]
        rw [sRet_eq, eIf_eq, t1]
        simp only [R.andThen, Bool.false_eq_true, if_false]
        rw [x3]
      exact val_v e4 (fun k z => by rw [dSec_eq] at z; cases z) (by simp)
end Df
namespace Df
open PySem (Str)
def paths (s : Sec) : List (List Nat) := (secs [] s).map (·.1)
mutual
theorem secs_shift : ∀ (s : Sec) (a p : List Nat), secs (a ++ p) s = (secs p s).map fun x => (a ++ x.1, x.2)
  | .mk rows inner, a, p => by rw [secs, secs, List.map_cons, secsL_shift inner a p 0]
theorem secsL_shift : ∀ (l : List Sec) (a p : List Nat) (k : Nat), secsL (a ++ p) k l = (secsL p k l).map fun x => (a ++ x.1, x.2)
  | [], a, p, k => rfl
  | s :: r, a, p, k => by rw [secsL, secsL, List.map_append, ← secsL_shift r a p (k + 1), List.append_assoc, secs_shift s a (p ++ [k])]
end
theorem paths_eq (s : Sec) : paths s = [] :: s.inner.zipIdx.flatMap fun x => (paths x.1).map (x.2 :: ·) := by
  unfold paths
  rw [secs_eq, secsL_kids, List.map_cons]
  congr 1
  rw [List.map_flatMap]
  simp only [List.flatMap_map]
  congr 1
  funext x
  have e := secs_shift x.1 [x.2] []
  simp only [List.append_nil, List.nil_append] at e ⊢
  rw [e, List.map_map, List.map_map]
  rfl
theorem paths_len {n : Nat} {s : Sec} (h : GoodSec n s) : (paths s).length ≤ 4 ^ (n + 1) := by
  unfold paths
  rw [List.length_map]
  exact secs_len n s [] h
theorem range_zip {α : Type} (l : List α) : ((List.range l.length).map fun (i : Nat) => D.int (i : Int)) = l.zipIdx.map fun x => D.int x.2 := by
  apply List.ext_getElem
  · simp
  · intro i h1 h2
    simp
theorem paths_short {n : Nat} {s : Sec} (h : GoodSec n s) {q : List Nat} (hq : q ∈ paths s) : q.length ≤ n := by
  unfold paths at hq
  obtain ⟨x, hx, rfl⟩ := List.mem_map.mp hq
  obtain ⟨m, q, h1, _, h3, _⟩ := secs_good n s [] h x hx
  rw [h3]
  simp
  omega
theorem val_paths : ∀ (n m : Nat) (s : Sec), GoodSec n s → n ≤ m → n ≤ 2 → val (F__law_paths (m + 1)) [dSec s] = some (.lst ((paths s).map dP))
  | n, m, s, h, hm, h2 => by
    have h3 := h.inner3
    have ih : ∀ t ∈ s.inner, ∃ n', n = n' + 1 ∧ GoodSec n' t ∧ val (F__law_paths m) [dSec t] = some (.lst ((paths t).map dP)) := fun t ht => by
      cases n with
      | zero => rw [h.none] at ht; cases ht
      | succ n =>
        obtain ⟨m', rfl⟩ : ∃ m', m = m' + 1 := ⟨m - 1, by omega⟩
        exact ⟨n, rfl, h.sub t ht, val_paths n m' t (h.sub t ht) (by omega) (by omega)⟩
    have hp := paths_len h
    have hp64 : (paths s).length ≤ 64 := by
      have : 4 ^ (n + 1) ≤ 4 ^ 3 := Nat.pow_le_pow_right (by decide) (by omega)
      omega
    rw [paths_eq] at hp64
    simp only [List.length_cons] at hp64
    obtain ⟨δ1, L1, f1, q1⟩ := for_acc (tg := .nm 2) (b := B1__law_paths (F__law_paths m)) (fun x : Sec × Nat => D.int x.2)
      (fun d δ L => L = [] ∧ ∃ y z, δ = [some (dSec s), some (.lst (([] :: d.flatMap fun x => (paths x.1).map (x.2 :: ·)).map dP)), y, z]) s.inner.zipIdx []
      [some (dSec s), some (.lst [dP []]), none, none] [] ⟨rfl, _, _, rfl⟩ (fun d x δ L hx hpre hi => by
        obtain ⟨rfl, y, z, rfl⟩ := hi
        obtain ⟨r0, hr0⟩ := hpre
        obtain ⟨hz, hmem⟩ := mem_zip hx
        obtain ⟨n', _, hgt, hv⟩ := ih x.1 hmem
        have hb := flatMap_pre (f := fun x : Sec × Nat => (paths x.1).map (x.2 :: ·)) (l := s.inner.zipIdx) (d := d ++ [x]) (r := r0) (by simpa using hr0)
        have hk : x.2 < (s.inner.map dSec).length := by simpa using (List.getElem?_eq_some_iff.mp hz).1
        have e2 : atInt (s.inner.map dSec) (x.2 : Int) = some (dSec x.1) := by rw [atInt_nat hk, List.getElem?_map, hz]; rfl
        let δ1 (z : Option D) : Sl := [some (dSec s), some (.lst (([] :: d.flatMap fun x => (paths x.1).map (x.2 :: ·)).map dP)), some (.int x.2), z]
        have e3 : eCallF 1 (F__law_paths m) (aCons (eOp oIx (eOp oIx (eVar 0) (eC (.int 1))) (eVar 2)) aNil) (δ1 z) [] = .ok (.lst ((paths x.1).map dP)) [] := by
          refine call1 hv ?_ (by simp)
          simp only [δ1]
          rw [dSec_eq s]
          simp [eVar, e2]
        have hl1 : (paths x.1).length ≤ 64 := by
          have := paths_len hgt
          have : 4 ^ (n' + 1) ≤ 4 ^ 3 := Nat.pow_le_pow_right (by decide) (by omega)
          omega
        have c1 : C1__law_paths (F__law_paths m) (δ1 z) [] = .ok (.lst (((paths x.1).map (x.2 :: ·)).map dP)) [] := by
          unfold C1__law_paths
          refine lcF_t (ts := paths x.1) dP (fun _ => true) (fun q => dP (x.2 :: q)) (by rw [iSeq_eq, e3]; rfl) (fun q hq => ?_) (by omega) (by rw [filter_tt, List.map_map]; rfl) (flat_map flat_dP _)
          refine ⟨_, rfl, rfl, fun _ => ?_⟩
          have hq2 := paths_short hgt hq
          have hq3 : q.length + 1 ≤ most := most_of (by omega)
          simp only [δ1, wipe, Tg.put]
          simp [eVar, dP, most_of' (show 1 ≤ 100000 by decide), Nat.add_comm 1 q.length, hq3]
        refine ⟨δ1 z, [some (dSec s), some (.lst (([] :: (d ++ [x]).flatMap fun x => (paths x.1).map (x.2 :: ·)).map dP)), some (.int x.2), z], [], rfl, ?_, rfl, _, _, rfl⟩
        unfold B1__law_paths
        rw [sSet_eq, eOp_eq, eVar_of (d := .lst (([] :: d.flatMap fun x => (paths x.1).map (x.2 :: ·)).map dP)) rfl]
        simp only [R.andThen, c1]
        have hlen : (([] :: d.flatMap fun x => (paths x.1).map (x.2 :: ·)).map dP).length + (((paths x.1).map (x.2 :: ·)).map dP).length ≤ most := by
          refine most_of ?_
          rw [List.flatMap_append] at hb
          simp only [List.length_map, List.length_cons, List.length_append, List.flatMap_cons, List.flatMap_nil, List.append_nil] at hb ⊢
          omega
        unfold oAddF
        simp only [lstOf]
        rw [if_pos hlen, frozen_l (by rw [← List.map_append]; exact flat_map flat_dP _)]
        simp only [Tg.put, δ1, List.set_cons_succ, List.set_cons_zero]
        rw [← List.map_append, List.cons_append, List.flatMap_append]
        simp)
    obtain ⟨rfl, y, z, rfl⟩ := q1
    have e : F__law_paths (m + 1) [dSec s] [] = .ok (.lst ((paths s).map dP)) [] := by
      rw [F__law_paths]
      simp only [fnOf]
      simp only [List.map_cons, List.map_nil, List.length_cons, List.length_nil, Nat.reduceAdd, Nat.reduceSub, List.replicate_succ, List.replicate_zero, List.cons_append, List.nil_append]
      rw [sSeq_eq, sSet_eq]
      have e1 : eLstF (aCons (eTup aNil) aNil) [some (dSec s), none, none, none] [] = .ok (.lst [dP []]) [] := by simp [most_of' (show 0 ≤ 100000 by decide), most_of' (show 1 ≤ 100000 by decide), frozen, dP]
      rw [e1]
      simp only [R.andThen, Tg.put, List.set_cons_succ, List.set_cons_zero]
      rw [sSeq_eq, sFor_eq]
      have e2 : iRng1 (eB bLenS (aCons (eOp oIx (eVar 0) (eC (.int 1))) aNil)) [some (dSec s), some (.lst [dP []]), none, none] [] = .ok (s.inner.zipIdx.map fun x => D.int x.2) [] := by
        rw [← range_zip]
        refine iRng1_nat ?_ (by omega)
        rw [dSec_eq s]; simp [eVar]
      rw [e2]
      simp only [R.andThen]
      rw [f1]
      simp [eVar, ← paths_eq]
    exact val_v e (fun k z => by cases z) (by simp only [flat_lst]; exact flat_map flat_dP _)
end Df
namespace Df
open PySem (Str)
def ltP : List Nat → List Nat → Bool
  | [], [] => false
  | [], _ :: _ => true
  | _ :: _, [] => false
  | a :: p, b :: q => if a = b then ltP p q else decide (a < b)
theorem ltP_pre : ∀ (p a b : List Nat), ltP (p ++ a) (p ++ b) = ltP a b
  | [], _, _ => rfl
  | x :: p, a, b => by rw [List.cons_append, List.cons_append, ltP, if_pos rfl, ltP_pre p a b]
theorem ltP_irr : ∀ p : List Nat, ltP p p = false
  | [] => rfl
  | x :: p => by rw [ltP, if_pos rfl, ltP_irr p]
theorem ltP_ext (p : List Nat) (k : Nat) (q : List Nat) : ltP p (p ++ k :: q) = true := by
  have := ltP_pre p [] (k :: q)
  rw [List.append_nil] at this
  rw [this]; rfl
theorem dP_inj {p q : List Nat} (h : dP p = dP q) : p = q := by
  simp only [dP, D.tup.injEq] at h
  exact (List.map_inj_right fun x y e => by have := D.int.inj e; omega).mp h
mutual
theorem secs_shape : ∀ (s : Sec) (p : List Nat), ∀ x ∈ secs p s, ∃ q, x.1 = p ++ q
  | .mk rows inner, p, x, hx => by
    rw [secs] at hx
    rcases List.mem_cons.mp hx with rfl | hx
    · exact ⟨[], by simp⟩
    · obtain ⟨j, q, _, h⟩ := secsL_shape inner p 0 x hx
      exact ⟨_, h⟩
theorem secsL_shape : ∀ (l : List Sec) (p : List Nat) (k : Nat), ∀ x ∈ secsL p k l, ∃ j q, k ≤ j ∧ x.1 = p ++ j :: q
  | [], p, k, x, hx => by rw [secsL] at hx; cases hx
  | s :: r, p, k, x, hx => by
    rw [secsL] at hx
    rcases List.mem_append.mp hx with hx | hx
    · obtain ⟨q, h⟩ := secs_shape s (p ++ [k]) x hx
      exact ⟨k, q, Nat.le_refl _, by rw [h]; simp⟩
    · obtain ⟨j, q, h1, h2⟩ := secsL_shape r p (k + 1) x hx
      exact ⟨j, q, by omega, h2⟩
end
mutual
theorem secs_lt : ∀ (s : Sec) (p : List Nat), (secs p s).Pairwise fun x y => ltP x.1 y.1 = true
  | .mk rows inner, p => by
    rw [secs, List.pairwise_cons]
    refine ⟨fun y hy => ?_, secsL_lt inner p 0⟩
    obtain ⟨j, q, _, h⟩ := secsL_shape inner p 0 y hy
    rw [h]
    exact ltP_ext p j q
theorem secsL_lt : ∀ (l : List Sec) (p : List Nat) (k : Nat), (secsL p k l).Pairwise fun x y => ltP x.1 y.1 = true
  | [], p, k => by rw [secsL]; exact List.Pairwise.nil
  | s :: r, p, k => by
    rw [secsL, List.pairwise_append]
    refine ⟨secs_lt s (p ++ [k]), secsL_lt r p (k + 1), fun x hx y hy => ?_⟩
    obtain ⟨q, h1⟩ := secs_shape s (p ++ [k]) x hx
    obtain ⟨j, q', hj, h2⟩ := secsL_shape r p (k + 1) y hy
    rw [h1, h2, List.append_assoc, ltP_pre]
    show ltP (k :: q) (j :: q') = true
    rw [ltP, if_neg (by omega)]
    exact decide_eq_true (by omega)
end
abbrev Pl := List Nat × Nat
def dPl (x : Pl) : D := .tup [dP x.1, .int x.2]
@[simp] theorem flat_dPl (x : Pl) : (dPl x).flat = true := by simp [dPl]
@[simp] theorem plain_dPl (x : Pl) : (dPl x).plain = true := by simp [dPl]
@[simp] theorem noB_dPl (x : Pl) : (dPl x).noB = true := by simp [dPl]
def rowsS (x : List Nat × Sec) : List (Pl × Rw) := x.2.rows.zipIdx.map fun r => ((x.1, r.2), r.1)
def rowsOf (s : Sec) : List (Pl × Rw) := (secs [] s).flatMap rowsS
theorem rowsOf_mem {s : Sec} (h : GoodSec 2 s) {y : Pl × Rw} (hy : y ∈ rowsOf s) : ∃ v, secAt s y.1.1 = some v ∧ v.rows[y.1.2]? = some y.2 ∧ y.1.1.length ≤ 2 ∧ GoodR y.2 := by
  obtain ⟨x, hx, hy⟩ := List.mem_flatMap.mp hy
  obtain ⟨r, hr, rfl⟩ := List.mem_map.mp hy
  obtain ⟨m, q, h1, h2, h3, h4⟩ := secs_good 2 s [] h x hx
  refine ⟨x.2, by rw [h3]; exact h4, (mem_zip hr).1, by rw [h3]; simp; omega, h2.rowsG r.1 (mem_zip hr).2⟩
theorem rowsOf_len {s : Sec} (h : GoodSec 2 s) : (rowsOf s).length ≤ 768 := by
  have h1 := secs_len 2 s [] h
  have := flatMap_len (l := secs [] s) (f := rowsS) (b := 12) fun x hx => by
    obtain ⟨m, q, _, h2, _⟩ := secs_good 2 s [] h x hx
    have := h2.rows12
    unfold rowsS
    simpa using this
  unfold rowsOf
  simp at h1
  omega
def ltPl (a b : Pl) : Bool := if a.1 = b.1 then decide (a.2 < b.2) else ltP a.1 b.1
theorem zip_lt {α : Type} (l : List α) (k : Nat) : (l.zipIdx k).Pairwise fun x y => x.2 < y.2 := by
  induction l generalizing k with
  | nil => exact List.Pairwise.nil
  | cons x l ih =>
    rw [List.zipIdx_cons, List.pairwise_cons]
    refine ⟨fun y hy => ?_, ih (k + 1)⟩
    obtain ⟨h1, _, _⟩ := List.mem_zipIdx (x := y.1) (i := y.2) hy
    show k < y.2
    omega
theorem rowsOf_lt (s : Sec) : (rowsOf s).Pairwise fun x y => ltPl x.1 y.1 = true := by
  unfold rowsOf
  rw [List.pairwise_flatMap]
  refine ⟨fun x _ => ?_, (secs_lt s []).imp fun {a b} hab x hx y hy => ?_⟩
  · unfold rowsS
    rw [List.pairwise_map]
    exact (zip_lt _ 0).imp fun {a b} h => by simp [ltPl, h]
  · obtain ⟨r, _, rfl⟩ := List.mem_map.mp hx
    obtain ⟨r', _, rfl⟩ := List.mem_map.mp hy
    have hne : a.1 ≠ b.1 := fun e => by rw [e, ltP_irr] at hab; cases hab
    simp [ltPl, hne, hab]
theorem val_places {s : Sec} (h : GoodSec 2 s) : val F__law_places [dSec s] = some (.lst ((rowsOf s).map fun y => dPl y.1)) := by
  have e0 : eCallF 1 (F__law_paths 12) (aCons (eVar 0) aNil) [some (dSec s), some (.ref 0), none, none] [.lst []] = .ok (.lst ((paths s).map dP)) [.lst []] := call1 (val_paths 2 11 s h (by omega) (by omega)) (by simp [eVar]) (by simp)
  have ep : (paths s).map dP = (secs [] s).map fun x => dP x.1 := by unfold paths; rw [List.map_map]; rfl
  have hL := rowsOf_len h
  obtain ⟨δ', L', f1, q1⟩ := for_acc (tg := .nm 2) (b := B1__law_places) (fun x : List Nat × Sec => dP x.1)
    (fun d δ L => (∃ y z, δ = [some (dSec s), some (.ref 0), y, z]) ∧ L = [.lst ((d.flatMap rowsS).map fun y => dPl y.1)]) (secs [] s) []
    [some (dSec s), some (.ref 0), none, none] [.lst []] ⟨⟨_, _, rfl⟩, rfl⟩ (fun d x δ L hx hpre hi => by
      obtain ⟨⟨y, z, rfl⟩, rfl⟩ := hi
      obtain ⟨r0, hr0⟩ := hpre
      obtain ⟨m, q, hm, hg, h3, h4⟩ := secs_good 2 s [] h x hx
      have hs : secAt s x.1 = some x.2 := by rw [h3]; exact h4
      have hl2 : x.1.length ≤ 11 := by rw [h3]; simp; omega
      have h12 := hg.rows12
      have hb := flatMap_pre (f := rowsS) (l := secs [] s) (d := d) (r := x :: r0) (by simpa using hr0)
      have hb2 : (d.flatMap rowsS).length ≤ 768 := Nat.le_trans hb hL
      have c1 : C1__law_places [some (dSec s), some (.ref 0), some (dP x.1), z] [.lst ((d.flatMap rowsS).map fun y => dPl y.1)] = .ok (.lst ((rowsS x).map fun y => dPl y.1)) [.lst ((d.flatMap rowsS).map fun y => dPl y.1)] := by
        unfold C1__law_places
        have e1 : eCallF 2 (F__law_at 12) (aCons (eVar 0) (aCons (eVar 2) aNil)) [some (dSec s), some (.ref 0), some (dP x.1), z] [.lst ((d.flatMap rowsS).map fun y => dPl y.1)] = .ok (dSec x.2) [.lst ((d.flatMap rowsS).map fun y => dPl y.1)] := call2 (val_at 11 x.1 s x.2 hs hl2 (by omega)) (by simp [eVar]) (by simp)
        refine lcF_t (ts := x.2.rows.zipIdx) (fun r => D.int r.2) (fun _ => true) (fun r => dPl (x.1, r.2)) ?_ (fun r hr => ⟨_, rfl, rfl, fun _ => ?_⟩) (by simp; omega) (by rw [filter_tt]; simp [rowsS]) (flat_map (fun (y : Pl × Rw) => flat_dPl y.1) _)
        · rw [← range_zip]
          refine iRng1_nat ?_ (by omega)
          simp only [eB_eq, aCons_eq, eOp_eq, e1, R.andThen]
          rw [dSec_eq x.2]
          simp
        · simp [wipe, eVar, dPl, most_of' (show 2 ≤ 100000 by decide)]
      refine ⟨_, [some (dSec s), some (.ref 0), some (dP x.1), z], [.lst (((d ++ [x]).flatMap rowsS).map fun y => dPl y.1)], rfl, ?_, ⟨_, _, rfl⟩, rfl⟩
      unfold B1__law_places
      have hq : (d.flatMap rowsS).length + (rowsS x).length ≤ most := most_of (by
        have : (rowsS x).length = x.2.rows.length := by simp [rowsS]
        omega)
      simp only [sExpr_eq, eM_eq]
      rw [eVar_of (d := .ref 0) rfl]
      show R.andThen (R.andThen (R.andThen (C1__law_places [some (dSec s), some (.ref 0), some (dP x.1), z] [.lst ((d.flatMap rowsS).map fun y => dPl y.1)]) _) _) _ = _
      rw [c1]
      rw [List.length_flatMap] at hq
      simp [mExtend, lstOf, hq])
  obtain ⟨⟨y, z, rfl⟩, rfl⟩ := q1
  refine val_l (k := 0) (L := [.lst ((rowsOf s).map fun y => dPl y.1)]) ?_ rfl (flat_map (fun (y : Pl × Rw) => flat_dPl y.1) _)
  rw [ep] at e0
  simp [F__law_places, fnOf, eVar, alloc, Tg.put, most_of' (show 0 ≤ 100000 by decide), e0, f1, rowsOf]
theorem val_line {s : Sec} (h : GoodSec 2 s) {y : Pl × Rw} (hy : y ∈ rowsOf s) : val F__law_line [dSec s, dPl y.1] = some (dRw y.2) := by
  obtain ⟨v, h1, h2, h3, _⟩ := rowsOf_mem h hy
  have hk : y.1.2 < (v.rows.map dRw).length := by simpa using (List.getElem?_eq_some_iff.mp h2).1
  have e2 : atInt (v.rows.map dRw) (y.1.2 : Int) = some (dRw y.2) := by rw [atInt_nat hk, List.getElem?_map, h2]; rfl
  have e1 : eCallF 2 (F__law_at 12) (aCons (eVar 0) (aCons (eOp oIx (eVar 1) (eC (.int 0))) aNil)) [some (dSec s), some (dPl y.1)] [] = .ok (dSec v) [] := call2 (val_at 11 y.1.1 s v h1 (by omega) (by omega)) (by simp [eVar, dPl]) (by simp)
  refine val_v (L := []) ?_ (fun k z => by cases hr : y.2 <;> rw [hr] at z <;> cases z) (by simp)
  simp only [F__law_line, fnOf]
  simp only [List.map_cons, List.map_nil, List.length_cons, List.length_nil, Nat.reduceAdd, Nat.reduceSub, Nat.sub_self, List.replicate_zero, List.append_nil]
  simp only [sRet_eq, eOp_eq, e1, R.andThen]
  rw [dSec_eq v]
  simp [eVar, dPl, e2]
end Df
namespace Df
open PySem (Str)
theorem put_new {k v : D} : ∀ {kvs : List (D × D)}, (∀ p ∈ kvs, D.eqv p.1 k = false) → dput kvs k v = kvs ++ [(k, v)]
  | [], _ => rfl
  | (a, x) :: r, h => by
    rw [dput, h (a, x) List.mem_cons_self, put_new fun p hp => h p (List.mem_cons_of_mem _ hp)]
    rfl
theorem mkD_new : ∀ {ps kvs : List (D × D)}, (∀ p ∈ kvs, ∀ q ∈ ps, D.eqv p.1 q.1 = false) → ps.Pairwise (fun a b => D.eqv a.1 b.1 = false) → mkD ps kvs = kvs ++ ps
  | [], kvs, _, _ => by simp [mkD]
  | (k, v) :: r, kvs, h, hp => by
    rw [List.pairwise_cons] at hp
    show mkD r (dput kvs k v) = _
    rw [put_new fun p hq => h p hq (k, v) List.mem_cons_self]
    rw [mkD_new (fun p hq q hr => ?_) hp.2]
    · simp
    · rcases List.mem_append.mp hq with hq | hq
      · exact h p hq q (List.mem_cons_of_mem _ hr)
      · rw [List.mem_singleton.mp hq]; exact hp.1 q hr
theorem pairsOf_map {α : Type} (f g : α → D) (hk : ∀ a, isKey (f a) = true) : ∀ xs : List α, pairsOf (xs.map fun a => .tup [f a, g a]) = some (xs.map fun a => (f a, g a))
  | [] => rfl
  | x :: xs => by
    rw [List.map_cons]
    show (if isKey (f x) = true then (pairsOf (xs.map fun a => .tup [f a, g a])).map ((f x, g x) :: ·) else none) = _
    rw [if_pos (hk x), pairsOf_map f g hk xs]
    rfl
theorem keyish_ints (p : List Nat) : keyishL (p.map fun (n : Nat) => .int (n : Int)) = true := by
  induction p with
  | nil => rfl
  | cons x p ih => rw [List.map_cons, keyishL, ih]; rfl
theorem depth_dP (p : List Nat) : (dP p).depth ≤ 1 := by
  rw [dP, depth_tup]
  have := depth_map (f := fun (n : Nat) => D.int (n : Int)) (n := 0) (fun _ => Nat.le_refl _) p
  omega
theorem key_dU (x : Us) : isKey (dU x) = true := by
  have := depth_dP x.1
  simp [isKey, dU, dUs, keyishL, keyish, dP, keyish_ints]
  simp [dP] at this
  omega
def defOf (y : Pl × Rw) : Option (Pl × Str) := match y.2 with
  | .df t _ => some (y.1, t)
  | .say _ => none
def defs (s : Sec) : List (Pl × Str) := (rowsOf s).filterMap defOf
end Df
namespace Df
open PySem (Str)
def usesY (y : Pl × Rw) : List (Us × Str) := usesW y.1.1 y.1.2 y.2.ws
theorem uses_rows (s : Sec) : uses s = (rowsOf s).flatMap usesY := by
  unfold uses rowsOf
  rw [List.flatMap_assoc]
  congr 1
  funext x
  unfold usesS rowsS
  rw [List.flatMap_map]
  rfl
def ltU (a b : Us) : Bool := if a.1 = b.1 then (if a.2.1 = b.2.1 then decide (a.2.2 < b.2.2) else decide (a.2.1 < b.2.1)) else ltP a.1 b.1
theorem dU_inj {a b : Us} (h : dU a = dU b) : a = b := by
  simp only [dU, dUs, D.tup.injEq, List.cons.injEq, D.int.injEq, and_true] at h
  have h1 := dP_inj h.1
  have h2 : a.2.1 = b.2.1 := by omega
  have h3 : a.2.2 = b.2.2 := by omega
  exact Prod.ext h1 (Prod.ext h2 h3)
@[simp] theorem noB_dU (x : Us) : (dU x).noB = true := by simp [dU, dUs]
theorem eqv_dU (a b : Us) : D.eqv (dU a) (dU b) = decide (a = b) := by
  rw [D.eqv_of (noB_dU a) (noB_dU b)]
  by_cases h : a = b
  · rw [h, decide_eq_true rfl, decide_eq_true rfl]
  · rw [decide_eq_false h, decide_eq_false fun e => h (dU_inj e)]
theorem ltU_ne {a b : Us} (h : ltU a b = true) : a ≠ b := fun e => by
  subst e
  simp [ltU] at h
theorem uses_lt (s : Sec) : (uses s).Pairwise fun x y => ltU x.1 y.1 = true := by
  rw [uses_rows, List.pairwise_flatMap]
  refine ⟨fun y _ => ?_, (rowsOf_lt s).imp fun {a b} hab x hx y hy => ?_⟩
  · unfold usesY usesW
    rw [List.pairwise_filterMap]
    refine List.pairwise_lt_range.imp fun {a b} hab x hx z hz => ?_
    have key : ∀ {k : Nat} {w : Us × Str}, useAt y.1.1 y.1.2 y.2.ws k = some w → w.1 = (y.1.1, y.1.2, k) := fun {k w} e => by
      unfold useAt at e
      split at e
      · cases e; rfl
      · cases e
    rw [key hx, key hz]
    simp [ltU, hab]
  · obtain ⟨e1, e2, _⟩ := useAt_mem hx
    obtain ⟨g1, g2, _⟩ := useAt_mem hy
    unfold ltPl at hab
    unfold ltU
    rw [e1, e2, g1, g2]
    by_cases h : a.1.1 = b.1.1
    · rw [if_pos h] at hab ⊢
      have h2 : a.1.2 < b.1.2 := by simpa using hab
      rw [if_neg (by omega)]
      exact hab
    · rw [if_neg h] at hab ⊢
      exact hab
def dUses (xs : List (Us × Str)) : List (D × D) := xs.map fun x => (dU x.1, D.str x.2)
theorem flatP_uses (xs : List (Us × Str)) : D.flatP (dUses xs) = true := by
  unfold dUses
  induction xs with
  | nil => rfl
  | cons x xs ih => rw [List.map_cons, D.flatP, ih]; simp
theorem val_uses {s : Sec} (h : GoodSec 2 s) : val F__law_uses [dSec s] = some (.dct (dUses (uses s))) := by
  have hU := uses_len h
  have hlt := uses_lt s
  rw [uses_rows] at hU hlt
  have e0 : eCallF 1 F__law_places (aCons (eVar 0) aNil) [some (dSec s), some (.ref 0), none, none, none] [.dct []] = .ok (.lst ((rowsOf s).map fun y => dPl y.1)) [.dct []] := call1 (val_places h) (by simp [eVar]) (by simp)
  obtain ⟨δ', L', f1, q1⟩ := for_acc (tg := .nm 2) (b := B1__law_uses) (fun y : Pl × Rw => dPl y.1)
    (fun d δ L => (∃ y z w, δ = [some (dSec s), some (.ref 0), y, z, w]) ∧ L = [.dct (dUses (d.flatMap usesY))]) (rowsOf s) []
    [some (dSec s), some (.ref 0), none, none, none] [.dct []] ⟨⟨_, _, _, rfl⟩, rfl⟩ (fun d y δ L hy hpre hi => by
      obtain ⟨⟨a, b, c, rfl⟩, rfl⟩ := hi
      obtain ⟨r0, hr0⟩ := hpre
      obtain ⟨v, h1, h2, h3, hg⟩ := rowsOf_mem h hy
      have h8 := hg.ws8
      have er : rowsOf s = d ++ y :: r0 := by simpa using hr0
      have hb : (d.flatMap usesY).length ≤ 6144 := Nat.le_trans (flatMap_pre er) hU
      rw [er, List.flatMap_append, List.flatMap_cons, List.pairwise_append] at hlt
      obtain ⟨_, hl2, hl3⟩ := hlt
      rw [List.pairwise_append] at hl2
      have e1 : eCallF 2 F__law_line (aCons (eVar 0) (aCons (eVar 2) aNil)) [some (dSec s), some (.ref 0), some (dPl y.1), b, c] [.dct (dUses (d.flatMap usesY))] = .ok (dRw y.2) [.dct (dUses (d.flatMap usesY))] := call2 (val_line h hy) (by simp [eVar]) (by simp)
      have c1 : C1__law_uses [some (dSec s), some (.ref 0), some (dPl y.1), some (dWs y.2.ws), c] [.dct (dUses (d.flatMap usesY))] = .ok (.lst ((usesY y).map fun x => .tup [dU x.1, .str x.2])) [.dct (dUses (d.flatMap usesY))] := by
        unfold C1__law_uses
        refine lcF_t (ts := List.range y.2.ws.length) (fun (i : Nat) => D.int (i : Int)) (fun k => (useAt y.1.1 y.1.2 y.2.ws k).isSome) (fun k => match useAt y.1.1 y.1.2 y.2.ws k with | some x => .tup [dU x.1, .str x.2] | none => .non) (iRng1_nat (by simp [eVar, dWs]) (by omega)) (fun k hk => ?_) (by simp; omega) ?_ (flat_map (fun x => by simp) _)
        · have hlt' : k < y.2.ws.length := by simpa using hk
          have e0 : y.2.ws[k]? = some y.2.ws[k] := List.getElem?_eq_getElem hlt'
          have e2 : atInt (y.2.ws.map dWd) (k : Int) = some (dWd y.2.ws[k]) := by rw [atInt_nat (by simpa using hlt')]; simp [hlt']
          refine ⟨_, rfl, ?_, fun hq => ?_⟩
          · unfold useAt
            rw [e0]
            cases ew : y.2.ws[k] with
            | w z => rw [ew] at e2; simp [wipe, eVar, dWs, e2, dWd, isTy]
            | u z => rw [ew] at e2; simp [wipe, eVar, dWs, e2, dWd, isTy]
          · unfold useAt at hq ⊢
            rw [e0] at hq ⊢
            cases ew : y.2.ws[k] with
            | w z => rw [ew] at hq; exact absurd hq Bool.false_ne_true
            | u z =>
              rw [ew] at e2
              simp [wipe, eVar, dWs, e2, dWd, dPl, dU, dUs, most_of' (show 2 + 1 ≤ 100000 by decide), most_of' (show 1 ≤ 100000 by decide), most_of' (show 2 ≤ 100000 by decide), most_of' (show 3 ≤ 100000 by decide)]
        · unfold usesY usesW
          refine filt_fm fun k _ => ?_
          cases hd : useAt y.1.1 y.1.2 y.2.ws k <;> simp [hd]
      have hn : (usesY y).length ≤ 8 := Nat.le_trans (usesW_len _ _ _) h8
      have ep : pairsOf ((usesY y).map fun x => .tup [dU x.1, .str x.2]) = some (dUses (usesY y)) := pairsOf_map (fun x : Us × Str => dU x.1) (fun x => .str x.2) (fun x => key_dU x.1) (usesY y)
      have em : mkD (dUses (usesY y)) (dUses (d.flatMap usesY)) = dUses ((d ++ [y]).flatMap usesY) := by
        rw [mkD_new]
        · unfold dUses
          rw [← List.map_append, List.flatMap_append]; simp
        · intro p hp q hq
          obtain ⟨x, hx, rfl⟩ := List.mem_map.mp hp
          obtain ⟨z, hz, rfl⟩ := List.mem_map.mp hq
          show D.eqv (dU x.1) (dU z.1) = false
          rw [eqv_dU]
          exact decide_eq_false (ltU_ne (hl3 x hx z (List.mem_append_left _ hz)))
        · unfold dUses
          rw [List.pairwise_map]
          exact hl2.1.imp fun {a b} hh => by
            show D.eqv (dU a.1) (dU b.1) = false
            rw [eqv_dU]
            exact decide_eq_false (ltU_ne hh)
      have hlen : (dUses (d.flatMap usesY)).length + ((usesY y).map fun x => D.tup [dU x.1, .str x.2]).length ≤ most := by
        refine most_of ?_
        simp only [dUses, List.length_map]
        omega
      refine ⟨_, [some (dSec s), some (.ref 0), some (dPl y.1), some (dWs y.2.ws), c], [.dct (dUses ((d ++ [y]).flatMap usesY))], rfl, ?_, ⟨_, _, _, rfl⟩, rfl⟩
      unfold B1__law_uses
      have s1 : eOp oIx (eCallF 2 F__law_line (aCons (eVar 0) (aCons (eVar 2) aNil))) (eUn uNeg (eC (.int 1))) [some (dSec s), some (.ref 0), some (dPl y.1), b, c] [.dct (dUses (d.flatMap usesY))] = .ok (dWs y.2.ws) [.dct (dUses (d.flatMap usesY))] := by
        rw [eOp_eq, e1]
        simp only [R.andThen, eUn_eq, eC_eq, uNeg_int, last_dRw]
      rw [sSeq_eq, sSet_eq]
      show R.andThen (R.andThen (eOp oIx (eCallF 2 F__law_line (aCons (eVar 0) (aCons (eVar 2) aNil))) (eUn uNeg (eC (.int 1))) [some (dSec s), some (.ref 0), some (dPl y.1), b, c] [.dct (dUses (d.flatMap usesY))]) _) _ = _
      rw [s1]
      simp only [R.andThen, Tg.put, List.set_cons_succ, List.set_cons_zero]
      rw [sExpr_eq]
      unfold eMD
      rw [eVar_of (d := .ref 0) rfl]
      simp only [R.andThen, dctOf, List.getElem?_cons_zero]
      rw [aCons_ok c1 (aNil_eq (L := [.dct (dUses (d.flatMap usesY))]))]
      simp only [mUpdate, List.getElem?_cons_zero, lstOf, ep, hlen, if_true, em]
      rfl)
  obtain ⟨⟨a, b, c, rfl⟩, rfl⟩ := q1
  refine val_d (k := 0) (xs := dUses (uses s)) (L := [.dct (dUses (uses s))]) ?_ rfl (flatP_uses _)
  rw [uses_rows]
  simp only [F__law_uses, fnOf]
  simp only [List.map_cons, List.map_nil, List.length_cons, List.length_nil, Nat.reduceAdd, Nat.reduceSub, List.replicate_succ, List.replicate_zero, List.cons_append, List.nil_append]
  rw [sSeq_eq, sSet_eq]
  simp only [eDct0, alloc, R.andThen, Tg.put, List.set_cons_succ, List.set_cons_zero, List.nil_append, List.length_nil]
  rw [sSeq_eq, sFor_eq, iSeq_eq, e0]
  simp only [R.andThen]
  rw [f1]
  rfl
end Df
namespace Df
open PySem (Str)
def mineP (s : Sec) (t : Str) : List Pl := ((defs s).filter fun x => decide (x.2 = t)).map (·.1)
def ownP (s : Sec) (p : List Nat) (t : Str) : List Pl := (mineP s t).filter fun x => decide (x.1 = p)
def aheadP (s : Sec) (p : List Nat) (i : Nat) (t : Str) : List Pl := (ownP s p t).filter fun x => decide (x.2 < i)
def arP (s : Sec) (p : List Nat) (t : Str) : List Pl := (mineP s t).filter fun x => decide (x.1.length < p.length) && decide (p.take x.1.length = x.1)
def lawGo (s : Sec) (p : List Nat) (i : Nat) (t : Str) : Option Pl := if aheadP s p i t ≠ [] then (aheadP s p i t).getLast? else if arP s p t ≠ [] then (arP s p t).getLast? else (ownP s p t).head?
theorem cEq_dP {p q : List Nat} {L : Store} : cEq (dP p) (dP q) L = .ok (.bl (decide (p = q))) L := by
  rw [cEq_pl (show (look L (dP p)).plain = true from plain_dP p) (show (look L (dP q)).plain = true from plain_dP q) (.inl (show (dP p).depth ≤ 50 from Nat.le_trans (depth_dP p) (by decide)))]
  show R.ok (D.bl (D.eqv (dP p) (dP q))) L = _
  rw [D.eqv_of (noB_dP p) (noB_dP q)]
  by_cases h : p = q
  · rw [h, decide_eq_true rfl, decide_eq_true rfl]
  · rw [decide_eq_false h, decide_eq_false fun e => h (dP_inj e)]
end Df
namespace Df
open PySem (Str)
def dUL (s : Sec) (x : Us × Str) : D := .tup [dU x.1, dG (lawGo s x.1.1 x.1.2.1 x.2)]
@[simp] theorem flat_dUL (s : Sec) (x : Us × Str) : (dUL s x).flat = true := by simp [dUL]
theorem keyishL_at : ∀ {xs : List D} {i : Nat} {d : D}, keyishL xs = true → xs[i]? = some d → keyish d = true
  | [], i, d, _, h => by simp at h
  | x :: xs, 0, d, hk, h => by rw [keyishL, Bool.and_eq_true] at hk; cases h; exact hk.1
  | x :: xs, i + 1, d, hk, h => by rw [keyishL, Bool.and_eq_true] at hk; exact keyishL_at hk.2 (by simpa using h)
theorem depthL_el : ∀ {xs : List D} {i : Nat} {d : D}, xs[i]? = some d → d.depth ≤ D.depthL xs
  | [], i, d, h => by simp at h
  | x :: xs, 0, d, h => by cases h; rw [D.depthL]; exact Nat.le_max_left _ _
  | x :: xs, i + 1, d, h => by rw [D.depthL]; exact Nat.le_trans (depthL_el (by simpa using h)) (Nat.le_max_right _ _)
mutual
theorem keyish_flat : ∀ d : D, keyish d = true → d.flat = true ∧ d.plain = true
  | .non, _ => ⟨rfl, rfl⟩
  | .int _, _ => ⟨rfl, rfl⟩
  | .str _, _ => ⟨rfl, rfl⟩
  | .tup xs, h => by simpa using keyishL_flat xs (by simpa [keyish] using h)
  | .bl _, h => absurd h Bool.false_ne_true
  | .lst _, h => absurd h Bool.false_ne_true
  | .dct _, h => absurd h Bool.false_ne_true
  | .ref _, h => absurd h Bool.false_ne_true
  | .scr _, h => absurd h Bool.false_ne_true
  | .xc _ _, h => absurd h Bool.false_ne_true
  | .clo _ _, h => absurd h Bool.false_ne_true
theorem keyishL_flat : ∀ xs : List D, keyishL xs = true → D.flatL xs = true ∧ D.plainL xs = true
  | [], _ => ⟨rfl, rfl⟩
  | x :: xs, h => by
    rw [keyishL, Bool.and_eq_true] at h
    have h1 := keyish_flat x h.1
    have h2 := keyishL_flat xs h.2
    exact ⟨by rw [D.flatL, h1.1, h2.1]; rfl, by rw [D.plainL, h1.2, h2.2]; rfl⟩
end
theorem c1_alike {n : Nat} {xs : List D} {a b c : D} {L : Store} (hk : keyishL xs = true) (hl : xs.length ≤ 10000) (ha : ∀ k, k < xs.length → oIx a (.int (k : Int)) L = .ok (xs.getD k .non) L) (hb : ∀ k, k < xs.length → oIx b (.int (k : Int)) L = .ok (xs.getD k .non) L) (hlen : bLenS [b] L = .ok (.int xs.length) L)
    (ih : ∀ d ∈ xs, val (F__law_alike n) [d, d] = some (.bl true)) : C1__law_alike (F__law_alike n) [some a, some b, none] L = .ok (.lst []) L := by
  unfold C1__law_alike
  refine lcF_t (ts := List.range xs.length) (fun (i : Nat) => D.int (i : Int)) (fun _ => false) (fun _ => .non) (iRng1_nat (by simp [eVar, hlen]) (by omega)) (fun k hk' => ?_) (by simp; omega) (by simp) rfl
  have hlt : k < xs.length := by simpa using hk'
  have hm : xs.getD k .non ∈ xs := by rw [List.getD_eq_getElem?_getD, List.getElem?_eq_getElem hlt]; exact List.getElem_mem hlt
  have hf := (keyish_flat (xs.getD k .non) (keyishL_at (i := k) hk (by rw [List.getD_eq_getElem?_getD, List.getElem?_eq_getElem hlt]; rfl))).1
  refine ⟨_, rfl, ?_, fun z => absurd z Bool.false_ne_true⟩
  have x1 : eOp oIx (eVar 0) (eVar 2) [some a, some b, some (.int (k : Int))] L = .ok (xs.getD k .non) L := by rw [eOp_eq, eVar_of (d := a) rfl]; simp only [R.andThen]; rw [eVar_of (d := .int (k : Int)) rfl]; simp only [ha k hlt]
  have x2 : eOp oIx (eVar 1) (eVar 2) [some a, some b, some (.int (k : Int))] L = .ok (xs.getD k .non) L := by rw [eOp_eq, eVar_of (d := b) rfl]; simp only [R.andThen]; rw [eVar_of (d := .int (k : Int)) rfl]; simp only [hb k hlt]
  have x3 : eCallF 2 (F__law_alike n) (aCons (eOp oIx (eVar 0) (eVar 2)) (aCons (eOp oIx (eVar 1) (eVar 2)) aNil)) [some a, some b, some (.int (k : Int))] L = .ok (.bl true) L := call2 (ih _ hm) (aCons_ok x1 (aCons_ok x2 (aNil_eq (L := L)))) (by rw [hf]; rfl)
  show tNot (tVal (eCallF 2 (F__law_alike n) (aCons (eOp oIx (eVar 0) (eVar 2)) (aCons (eOp oIx (eVar 1) (eVar 2)) aNil)))) [some a, some b, some (.int (k : Int))] L = _
  rw [tNot_eq, tVal_eq, x3]
  rfl
mutual
/-- no tuple too long -/
def short : D → Bool
  | .tup xs => decide (xs.length ≤ 10000) && shortL xs
  | _ => true
def shortL : List D → Bool
  | [] => true
  | x :: xs => short x && shortL xs
end
theorem shortL_at : ∀ {xs : List D}, shortL xs = true → ∀ d ∈ xs, short d = true
  | x :: xs, h, d, hd => by
    rw [shortL, Bool.and_eq_true] at h
    rcases List.mem_cons.mp hd with rfl | hd
    · exact h.1
    · exact shortL_at h.2 d hd
theorem val_alike : ∀ (n : Nat) (d : D), keyish d = true → short d = true → d.depth ≤ n → val (F__law_alike (n + 1)) [d, d] = some (.bl true)
  | n, .non, _, _, _ => by
    refine val_v (L := []) ?_ (fun k e => by cases e) rfl
    rw [F__law_alike]
    simp [fnOf, eVar, isTy]
  | n, .int i, _, _, _ => by
    refine val_v (L := []) ?_ (fun k e => by cases e) rfl
    rw [F__law_alike]
    simp [fnOf, eVar, isTy, cIsN, isNon]
  | n, .str i, _, _, _ => by
    refine val_v (L := []) ?_ (fun k e => by cases e) rfl
    rw [F__law_alike]
    simp [fnOf, eVar, isTy, cIsN, isNon]
  | n, .tup xs, hk, hs, hd => by
    obtain ⟨n, rfl⟩ : ∃ n', n = n' + 1 := ⟨n - 1, by rw [depth_tup] at hd; omega⟩
    have hk' : keyishL xs = true := by simpa [keyish] using hk
    rw [short, Bool.and_eq_true, decide_eq_true_eq] at hs
    have hp := (keyishL_flat xs hk').2
    have ih : ∀ d ∈ xs, val (F__law_alike (n + 1)) [d, d] = some (.bl true) := fun d hd' => by
      obtain ⟨i, hi⟩ := List.mem_iff_getElem?.mp hd'
      exact val_alike n d (keyishL_at hk' hi) (shortL_at hs.2 d hd') (by have := depthL_el hi; rw [depth_tup] at hd; omega)
    have gt : ∀ k, k < xs.length → oIx (.tup xs) (.int (k : Int)) [] = .ok (xs.getD k .non) [] := fun k hk2 => by
      rw [oIx_t, atInt_nat hk2, List.getD_eq_getElem?_getD, List.getElem?_eq_getElem hk2]; rfl
    have c1 := c1_alike (n := n + 1) (a := .tup xs) (b := .tup xs) (c := .non) (L := []) hk' hs.1 gt gt rfl ih
    refine val_v (L := []) ?_ (fun k e => by cases e) rfl
    rw [F__law_alike]
    simp [fnOf, eVar, isTy, hp, c1]
  | _, .bl _, h, _, _ => absurd h Bool.false_ne_true
  | _, .lst _, h, _, _ => absurd h Bool.false_ne_true
  | _, .dct _, h, _, _ => absurd h Bool.false_ne_true
  | _, .ref _, h, _, _ => absurd h Bool.false_ne_true
  | _, .scr _, h, _, _ => absurd h Bool.false_ne_true
  | _, .xc _ _, h, _, _ => absurd h Bool.false_ne_true
  | _, .clo _ _, h, _, _ => absurd h Bool.false_ne_true
end Df
namespace Df
open PySem (Str)
mutual
theorem secs_all : ∀ (s : Sec) (p q : List Nat) (v : Sec), secAt s q = some v → (p ++ q, v) ∈ secs p s
  | .mk rows inner, p, [], v, h => by cases h; rw [secs]; simp
  | .mk rows inner, p, k :: r, v, h => by
    rw [secAt] at h
    cases e : inner[k]? with
    | none => simp only [Sec.inner, e] at h; cases h
    | some u =>
      simp only [Sec.inner, e] at h
      rw [secs]
      refine List.mem_cons_of_mem _ ?_
      have := secsL_all inner p 0 k r u v e h
      simpa using this
theorem secsL_all : ∀ (l : List Sec) (p : List Nat) (j k : Nat) (r : List Nat) (u v : Sec), l[k]? = some u → secAt u r = some v → (p ++ (j + k) :: r, v) ∈ secsL p j l
  | [], p, j, k, r, u, v, e, h => by simp at e
  | s :: l, p, j, 0, r, u, v, e, h => by
    cases e
    rw [secsL]
    have := secs_all s (p ++ [j]) r v h
    exact List.mem_append_left _ (by simpa using this)
  | s :: l, p, j, k + 1, r, u, v, e, h => by
    rw [secsL]
    have := secsL_all l p (j + 1) k r u v (by simpa using e) h
    rw [show j + 1 + k = j + (k + 1) by omega] at this
    exact List.mem_append_right _ this
end
end Df
namespace Df
open PySem (Str)
def Vm (m : MO) : Prop := ∃ (ns : List Int) (a b c : Int), m = .lst [.scr ns, .int a, .int b, .int c] ∧ 0 ≤ a ∧ 0 ≤ b ∧ 0 ≤ c ∧ ns.length ≤ 63
theorem Vm.flat {m : MO} (h : Vm m) : m.flat = true := by
  obtain ⟨ns, a, b, c, rfl, _⟩ := h
  simp [MO.flat]
theorem call1_eq {n : Nat} {F : Fn} {a : Av} {δ : Sl} {r : List D} {m m' : MO} {L L' : Store} {d : D} (ha : a δ L = .ok (.ref 0 :: r) (m :: L')) (h : run1 F r m = .v d m') (hn : r.length + 1 = n) (hr : D.flatL r = true) (hm : m.flat = true) : eCall1 n F a δ L = .ok d (m' :: L') := by
  unfold eCall1
  rw [ha]
  simp only [R.andThen, List.getElem?_cons_zero, hn, hr, hm, and_self, if_true, h, List.set_cons_zero]
theorem run1_of {F : Fn} {r : List D} {m m' : MO} {L : Store} {d : D} (h : F (.ref 0 :: r) [m] = .ok d (m' :: L)) (hd : d.flat = true) (hm : m'.flat = true) : run1 F r m = .v d m' := by
  unfold run1
  rw [h]
  simp [out1, hd, hm]
theorem oMul_k {i : Int} {L : Store} : oMul (.int i) (.int 48271) L = .ok (.int (i * 48271)) L := by
  show (if -(2 ^ 64 : Int) < 48271 ∧ (48271 : Int) < 2 ^ 64 then R.ok (D.int (i * 48271)) L else .bad) = _
  rw [if_pos (by decide)]
theorem oMod_k {i j : Int} {L : Store} (h : 0 < j) : oMod (.int i) (.int j) L = .ok (.int (i % j)) L := by
  exact if_pos h
theorem oDiv_k {i j : Int} {L : Store} (h : 0 < j ∧ j < 1073741824) : oDiv (.int i) (.int j) L = .ok (.int (i / j)) L := by
  exact if_pos h
theorem oPow_k {L : Store} : oPow (.int 10) (.int 18) L = .ok (.int (10 ^ 18)) L := by
  show (if (0 : Int) ≤ 18 ∧ (18 : Int) ≤ 1000 ∧ (10 : Int).natAbs < 2 ^ 64 then R.ok (D.int (10 ^ (18 : Int).toNat)) L else .bad) = _
  rw [if_pos (by decide)]
  rfl
theorem taken {m : MO} (h : Vm m) {n : Int} (h1 : 1 ≤ n) (h2 : n < 1073741824) : ∃ k m', run1 F__law_taken [.int n] m = .v (.int k) m' ∧ 0 ≤ k ∧ k < n ∧ Vm m' := by
  obtain ⟨ns, a, b, c, rfl, ha, hb, hc, hns⟩ := h
  have x3 : ∀ (δ : Sl) (d0 d1 d2 d3 : D) (L : Store), δ[0]? = some (some (.ref 0)) → L = [.lst [d0, d1, d2, d3]] → eOp oIx (eVar 0) (eC (.int 3)) δ L = .ok d3 L ∧ eOp oIx (eVar 0) (eC (.int 2)) δ L = .ok d2 L ∧ eOp oIx (eVar 0) (eC (.int 1)) δ L = .ok d1 L ∧ eOp oIx (eVar 0) (eC (.int 0)) δ L = .ok d0 L := fun δ d0 d1 d2 d3 L hδ hL => by
    subst hL
    refine ⟨?_, ?_, ?_, ?_⟩ <;> simp [eVar_of hδ, oIx, seqOf]
  have hn : 0 < n := by omega
  by_cases hc0 : 0 < c
  · refine ⟨c % n, .lst [.scr ns, .int a, .int b, .int (c / n)], run1_of (L := []) ?_ rfl (by simp [MO.flat]), Int.emod_nonneg _ (by omega), Int.emod_lt_of_pos _ hn, ns, a, b, c / n, rfl, ha, hb, Int.ediv_nonneg hc (by omega), hns⟩
    simp [F__law_taken, fnOf, eVar, oIx, seqOf, hc0, oMod_k hn, oDiv_k (show 0 < n ∧ n < 1073741824 from ⟨hn, h2⟩), Tg.put, pLst, ixI]
  · have hc0' : ¬ (0 < c) := hc0
    have hc1 : c = 0 := by omega
    by_cases hlen : (ns.length : Int) < a + 1
    · refine ⟨((b * 48271 + 11) % 2147483647) / 7 % n, .lst [.scr ns, .int (a + 1), .int ((b * 48271 + 11) % 2147483647), .int c], run1_of (L := []) ?_ rfl (by simp [MO.flat]), Int.emod_nonneg _ (by omega), Int.emod_lt_of_pos _ hn, ns, a + 1, _, c, rfl, by omega, Int.emod_nonneg _ (by decide), hc, hns⟩
      simp [F__law_taken, fnOf, eVar, oIx, seqOf, hc0', oMod_k hn, oMul_k, oMod_k (show (0 : Int) < 2147483647 by decide), oDiv_k (show (0 : Int) < 7 ∧ (7 : Int) < 1073741824 by decide), Tg.put, pLst, ixI, bLenS, hlen]
    · have hi : a.toNat < ns.length := by omega
      have hat : atInt (ns.map D.int) (a + 1 - 1) = some (.int ns[a.toNat]) := by
        rw [show a + 1 - 1 = ((a.toNat : Nat) : Int) by omega, atInt_nat (by simpa using hi)]
        simp [hi]
      have hat2 : atInt (ns.map D.int) a = some (.int ns[a.toNat]) := by rw [← hat]; congr 1; omega
      generalize hcell : ns[a.toNat] = cell at hat hat2
      have e18 : (10 : Int) ^ 18 = 1000000000000000000 := by decide
      by_cases hbig : (1000000000000000000 : Int) ≤ cell
      · refine ⟨cell % n, .lst [.scr ns, .int (a + 1), .int ((b * 48271 + cell + 11) % 2147483647), .int (cell / n)], run1_of (L := []) ?_ rfl (by simp [MO.flat]), Int.emod_nonneg _ (by omega), Int.emod_lt_of_pos _ hn, ns, a + 1, _, _, rfl, by omega, Int.emod_nonneg _ (by decide), Int.ediv_nonneg (by omega) (by omega), hns⟩
        simp [F__law_taken, fnOf, eVar, oIx, seqOf, hc0', oMod_k hn, oMul_k, oMod_k (show (0 : Int) < 2147483647 by decide), oDiv_k (show 0 < n ∧ n < 1073741824 from ⟨hn, h2⟩), oPow_k, Tg.put, pLst, ixI, bLenS, hlen, hat, hat2, hbig]
      · refine ⟨cell % n, .lst [.scr ns, .int (a + 1), .int ((b * 48271 + cell + 11) % 2147483647), .int c], run1_of (L := []) ?_ rfl (by simp [MO.flat]), Int.emod_nonneg _ (by omega), Int.emod_lt_of_pos _ hn, ns, a + 1, _, _, rfl, by omega, Int.emod_nonneg _ (by decide), hc, hns⟩
        simp [F__law_taken, fnOf, eVar, oIx, seqOf, hc0', oMod_k hn, oMul_k, oMod_k (show (0 : Int) < 2147483647 by decide), oDiv_k (show 0 < n ∧ n < 1073741824 from ⟨hn, h2⟩), oPow_k, Tg.put, pLst, ixI, bLenS, hlen, hat, hat2, hbig]
end Df
namespace Df
open PySem (Str)
theorem lcL_draw {tg : Tg} {e : Ev} {δ : Sl} {tl : Store} (Q : D → Prop) : ∀ (xs acc : List D) (m : MO), Vm m → (∀ x ∈ xs, ∀ m, Vm m → ∃ δ1, tg.put x δ = some δ1 ∧ ∃ d m', e δ1 (m :: tl) = .ok d (m' :: tl) ∧ Q d ∧ Vm m') →
    ∃ ys m', lcL tg tYes e δ xs acc (m :: tl) = .ok (acc ++ ys) (m' :: tl) ∧ ys.length = xs.length ∧ (∀ y ∈ ys, Q y) ∧ Vm m'
  | [], acc, m, hm, _ => ⟨[], m, by simp [lcL], rfl, (fun y hy => nomatch hy), hm⟩
  | x :: xs, acc, m, hm, h => by
    obtain ⟨δ1, h1, d, m1, h2, h3, h4⟩ := h x List.mem_cons_self m hm
    obtain ⟨ys, m', k1, k2, k3, k4⟩ := lcL_draw Q xs (acc ++ [d]) m1 h4 fun y hy => h y (List.mem_cons_of_mem _ hy)
    refine ⟨d :: ys, m', ?_, by simp [k2], fun y hy => ?_, k4⟩
    · rw [lcL]
      simp only [h1, tYes, R.noErr, R.andThen, if_true, h2]
      rw [k1]
      simp
    · rcases List.mem_cons.mp hy with rfl | hy
      · exact h3
      · exact k3 y hy
theorem lcF_draw {it : Iv} {own : List Nat} {tg : Tg} {e : Ev} {δ : Sl} {L tl : Store} {m : MO} {xs : List D} (Q : D → Prop) (hi : it δ L = .ok xs (m :: tl)) (hm : Vm m) (hl : xs.length ≤ 100000) (hQ : ∀ d, Q d → d.flat = true)
    (h : ∀ x ∈ xs, ∀ m, Vm m → ∃ δ1, tg.put x (wipe δ own) = some δ1 ∧ ∃ d m', e δ1 (m :: tl) = .ok d (m' :: tl) ∧ Q d ∧ Vm m') : ∃ ys m', eLcF it own tg tYes e δ L = .ok (.lst ys) (m' :: tl) ∧ ys.length = xs.length ∧ (∀ y ∈ ys, Q y) ∧ Vm m' := by
  obtain ⟨ys, m', k1, k2, k3, k4⟩ := lcL_draw Q xs [] m hm h
  refine ⟨ys, m', ?_, k2, k3, k4⟩
  unfold eLcF
  rw [hi]
  have hl' : xs.length ≤ most := Nat.le_trans hl (by decide)
  simp only [R.andThen, hl', if_true]
  rw [k1]
  have hf : D.flatL ys = true := by
    clear k1 k2
    induction ys with
    | nil => rfl
    | cons y ys ih => rw [D.flatL, hQ y (k3 y List.mem_cons_self), ih fun z hz => k3 z (List.mem_cons_of_mem _ hz)]; rfl
  simp [frozen, hf]
theorem typed {α : Type} {enc : α → D} {G : α → Prop} : ∀ {ys : List D}, (∀ y ∈ ys, ∃ t, G t ∧ y = enc t) → ∃ ts : List α, ys = ts.map enc ∧ ∀ t ∈ ts, G t
  | [], _ => ⟨[], rfl, fun t h => nomatch h⟩
  | y :: ys, h => by
    obtain ⟨t, h1, rfl⟩ := h y List.mem_cons_self
    obtain ⟨ts, h2, h3⟩ := typed fun z hz => h z (List.mem_cons_of_mem _ hz)
    refine ⟨t :: ts, by rw [h2]; rfl, fun u hu => ?_⟩
    rcases List.mem_cons.mp hu with rfl | hu
    · exact h1
    · exact h3 u hu
theorem atInt_in {α : Type} {xs : List α} {i : Int} (h0 : 0 ≤ i) (h1 : i < xs.length) : ∃ x, atInt xs i = some x ∧ x ∈ xs := by
  have hi : i.toNat < xs.length := by omega
  refine ⟨xs[i.toNat], ?_, List.getElem_mem hi⟩
  have e : ((i.toNat : Nat) : Int) = i := by omega
  have q := atInt_nat hi
  rw [e] at q
  rw [q]
  simp
theorem draw {δ : Sl} {a : Ev} {n : Int} {m : MO} {tl : Store} (h0 : δ[0]? = some (some (.ref 0))) (ha : ∀ L, a δ L = .ok (.int n) L) (hm : Vm m) (h1 : 1 ≤ n) (h2 : n < 1073741824) : ∃ k m', eCall1 2 F__law_taken (aCons (eVar 0) (aCons a aNil)) δ (m :: tl) = .ok (.int k) (m' :: tl) ∧ 0 ≤ k ∧ k < n ∧ Vm m' := by
  obtain ⟨k, m', e1, e2, e3, e4⟩ := taken hm h1 h2
  exact ⟨k, m', call1_eq (r := [.int n]) (aCons_ok (eVar_of h0) (aCons_ok (ha _) (aNil_eq (L := m :: tl)))) e1 rfl rfl hm.flat, e2, e3, e4⟩
theorem run1_ex {F : Fn} {r : List D} {m : MO} {Q : D → Prop} (h : ∃ d m' L, F (.ref 0 :: r) [m] = .ok d (m' :: L) ∧ Q d ∧ Vm m') (hQ : ∀ d, Q d → d.flat = true) : ∃ d m', run1 F r m = .v d m' ∧ Q d ∧ Vm m' := by
  obtain ⟨d, m', L, h1, h2, h3⟩ := h
  exact ⟨d, m', run1_of h1 (hQ d h2) h3.flat, h2, h3⟩
def QS (d : D) : Prop := ∃ s, GoodS s ∧ d = .str s
theorem QS.flat {d : D} (h : QS d) : d.flat = true := by obtain ⟨s, _, rfl⟩ := h; rfl
theorem good1 {c : Nat} (h : c ∈ letters) : GoodS ⟨#[c]⟩ := ⟨by simp [Str.length], by simp [Str.length], fun x hx => by
  have : x = c := by simpa using hx
  rw [this]; exact h⟩
theorem join_signs : ∀ cs : List Nat, joinLn [] ((cs.map fun c => (⟨#[c]⟩ : Str)).map fun s => s.cps.toList) = cs
  | [] => rfl
  | [c] => rfl
  | c :: d :: r => by
    have ih := join_signs (d :: r)
    simp only [List.map_cons] at ih ⊢
    rw [joinLn, ih]
    rfl
theorem strs_signs : ∀ cs : List Nat, strsOf (cs.map fun c => D.str ⟨#[c]⟩) = some (cs.map fun c => (⟨#[c]⟩ : Str))
  | [] => rfl
  | c :: r => by
    rw [List.map_cons]
    show (strsOf (r.map fun c => D.str ⟨#[c]⟩)).map _ = _
    rw [strs_signs r]; rfl
theorem sum_signs : ∀ cs : List Nat, ((cs.map fun c => (⟨#[c]⟩ : Str)).map fun s => s.length).sum = cs.length
  | [] => rfl
  | c :: r => by
    have ih := sum_signs r
    simp only [List.map_cons, List.sum_cons, List.length_cons] at ih ⊢
    rw [ih]
    show 1 + r.length = _
    omega
theorem drawn_term {m : MO} (hm : Vm m) {few : Int} (h1 : 1 ≤ few) (h2 : few ≤ 26) : ∃ d m', run1 F__law_term [.int few] m = .v d m' ∧ QS d ∧ Vm m' := by
  refine run1_ex ?_ fun d h => h.flat
  have h26 : letters.length = 26 := by decide
  let lt : D := .str "abcdefghijklmnopqrstuvwxyz"
  have hix : ∀ (k : Int) (L : Store), 0 ≤ k → k < 26 → ∃ c, c ∈ letters ∧ oIx lt (.int k) L = .ok (.str ⟨#[c]⟩) L := fun k L g1 g2 => by
    obtain ⟨c, e1, e2⟩ := atInt_in (xs := letters) g1 (by rw [h26]; exact g2)
    refine ⟨c, e2, ?_⟩
    simp only [lt, oIx_s]
    rw [show atInt (("abcdefghijklmnopqrstuvwxyz" : Str)).cps.toList k = some c from e1]
    simp only
    rw [if_pos (by decide)]
  obtain ⟨k0, m0, e0, _, _, hm0⟩ := draw (δ := [some (.ref 0), some (.int few), some lt, none]) (a := eC (.int 12)) (n := 12) (tl := []) rfl (fun L => rfl) hm (by decide) (by decide)
  simp only [F__law_term, fnOf]
  simp only [List.map_cons, List.map_nil, List.length_cons, List.length_nil, Nat.reduceAdd, Nat.reduceSub, List.replicate_succ, List.replicate_zero, List.cons_append, List.nil_append]
  rw [sSeq_eq, sSet_eq, eC_eq]
  simp only [R.andThen, Tg.put, List.set_cons_succ, List.set_cons_zero]
  have hi : tVal (eOp cEq (eCall1 2 F__law_taken (aCons (eVar 0) (aCons (eC (.int 12)) aNil))) (eC (.int 0))) [some (.ref 0), some (.int few), some lt, none] [m] = .ok (decide (k0 = 0)) [m0] := by
    rw [tVal_eq, eOp_eq, e0]
    simp
  rw [sSeq_eq, sIf_eq, hi]
  by_cases hk : k0 = 0
  · obtain ⟨k1, m1, e1, g1, g2, hm1⟩ := draw (δ := [some (.ref 0), some (.int few), some lt, none]) (a := eC (.int 8)) (n := 8) (tl := []) rfl (fun L => rfl) hm0 (by decide) (by decide)
    obtain ⟨ys, m2, c1, c2, c3, hm2⟩ := lcF_draw (it := iRng1 (eOp oAdd (eC (.int 1)) (eCall1 2 F__law_taken (aCons (eVar 0) (aCons (eC (.int 8)) aNil))))) (own := [3]) (tg := .nm 3) (e := eOp oIx (eVar 2) (eCall1 2 F__law_taken (aCons (eVar 0) (aCons (eC (.int 26)) aNil)))) (δ := [some (.ref 0), some (.int few), some lt, none]) (L := [m0]) (tl := []) (m := m1) (xs := (List.range (1 + k1).toNat).map fun (i : Nat) => D.int (i : Int)) (fun d => ∃ c, c ∈ letters ∧ d = .str ⟨#[c]⟩)
      (by
        have hs : small (1 + k1) = true := by unfold small; simp; omega
        rw [iRng1_eq, eOp_eq, eC_eq]
        simp only [R.andThen, e1, oAdd_int, hs, if_true, rngU_map]) hm1 (by simp; omega) (fun d ⟨c, _, e⟩ => by rw [e]; rfl) (fun x hx m hm => by
        obtain ⟨j, _, rfl⟩ := List.mem_map.mp hx
        obtain ⟨k2, m2, e2, g3, g4, hm2⟩ := draw (δ := [some (.ref 0), some (.int few), some lt, some (.int (j : Int))]) (a := eC (.int 26)) (n := 26) (tl := []) rfl (fun L => rfl) hm (by decide) (by decide)
        obtain ⟨c, hc, hx2⟩ := hix k2 [m2] g3 g4
        refine ⟨_, rfl, .str ⟨#[c]⟩, m2, ?_, ⟨c, hc, rfl⟩, hm2⟩
        show eOp oIx (eVar 2) (eCall1 2 F__law_taken (aCons (eVar 0) (aCons (eC (.int 26)) aNil))) [some (.ref 0), some (.int few), some lt, some (.int (j : Int))] [m] = _
        rw [eOp_eq, eVar_of (d := lt) rfl]
        simp only [R.andThen, e2, hx2])
    obtain ⟨cs, rfl, hcs⟩ := typed (enc := fun c => D.str ⟨#[c]⟩) (G := fun c => c ∈ letters) (ys := ys) c3
    have hlen : cs.length = (1 + k1).toNat := by simpa using c2
    have hj : eMS mJoin (eC (.str "")) (aCons C1__law_term aNil) [some (.ref 0), some (.int few), some lt, none] [m0] = .ok (.str (joinS "" (cs.map fun c => ⟨#[c]⟩))) [m2] := by
      unfold eMS
      rw [eC_eq]
      simp only [R.andThen]
      have cc : C1__law_term [some (.ref 0), some (.int few), some lt, none] [m0] = .ok (.lst (cs.map fun c => D.str ⟨#[c]⟩)) [m2] := c1
      rw [aCons_ok cc (aNil_eq (L := [m2]))]
      simp only [mJoin, seqOf, strs_signs, sum_signs, List.length_map]
      rw [if_pos (by
        show cs.length + cs.length * 0 ≤ most
        exact most_of (by omega))]
    have hgood : GoodS (joinS "" (cs.map fun c => ⟨#[c]⟩)) := by
      have ej : (joinS "" (cs.map fun c => (⟨#[c]⟩ : Str))).cps = cs.toArray := by
        unfold joinS
        rw [show ("" : Str).cps.toList = [] from rfl, join_signs]
      refine ⟨?_, ?_, fun c hc => ?_⟩
      · show 1 ≤ (joinS "" (cs.map fun c => (⟨#[c]⟩ : Str))).cps.size
        rw [ej]; simp; omega
      · show (joinS "" (cs.map fun c => (⟨#[c]⟩ : Str))).cps.size ≤ 8
        rw [ej]; simp; omega
      · rw [ej] at hc
        exact hcs c (by simpa using hc)
    refine ⟨_, m2, [], ?_, ⟨_, hgood, rfl⟩, hm2⟩
    simp only [R.andThen, hk, decide_true, if_true, sRet_eq]
    rw [hj]
  · obtain ⟨k2, m2, e2, g3, g4, hm2⟩ := draw (δ := [some (.ref 0), some (.int few), some lt, none]) (a := eVar 1) (n := few) (tl := []) rfl (fun L => rfl) hm0 h1 (by omega)
    obtain ⟨c, hc, hx2⟩ := hix k2 [m2] g3 (by omega)
    refine ⟨_, m2, [], ?_, ⟨_, good1 hc, rfl⟩, hm2⟩
    have hk2 : decide (k0 = 0) = false := decide_eq_false hk
    simp only [R.andThen, hk2, Bool.false_eq_true, if_false, sNil_eq, sRet_eq, eOp_eq]
    rw [eVar_of (d := lt) rfl]
    simp only [R.andThen]
    rw [show eCall1 2 F__law_taken (aCons (eVar 0) (aCons (eVar 1) aNil)) [some (.ref 0), some (.int few), some (.str "abcdefghijklmnopqrstuvwxyz"), none] [m0] = _ from e2]
    simp only [hx2]
end Df
namespace Df
open PySem (Str)
theorem pick3 {δ : Sl} {a : Av} {x y z : D} {m m1 : MO} {tl : Store} (h0 : δ[0]? = some (some (.ref 0))) (ha : a δ (m :: tl) = .ok [x, y, z] (m1 :: tl)) (hf : D.flatL [x, y, z] = true) (hm : Vm m1) :
    ∃ d m', eOp oIx (eLstF a) (eCall1 2 F__law_taken (aCons (eVar 0) (aCons (eC (.int 3)) aNil))) δ (m :: tl) = .ok d (m' :: tl) ∧ (d = x ∨ d = y ∨ d = z) ∧ Vm m' := by
  obtain ⟨k, m2, e1, g1, g2, hm2⟩ := draw (a := eC (.int 3)) (n := 3) (tl := tl) h0 (fun L => rfl) hm (by decide) (by decide)
  rw [eOp_eq, eLstF_eq, ha]
  simp only [R.andThen, List.length_cons, List.length_nil, Nat.reduceAdd, most_of' (show 3 ≤ 100000 by decide), if_true]
  rw [frozen_l hf]
  simp only [e1]
  have hk : k = 0 ∨ k = 1 ∨ k = 2 := by omega
  rcases hk with rfl | rfl | rfl
  · exact ⟨x, m2, by simp, .inl rfl, hm2⟩
  · exact ⟨y, m2, by simp, .inr (.inl rfl), hm2⟩
  · exact ⟨z, m2, by simp, .inr (.inr rfl), hm2⟩
theorem draw3 {δ : Sl} {x y z b : Int} {m : MO} {tl : Store} (h0 : δ[0]? = some (some (.ref 0))) (hm : Vm m) (hx : 1 ≤ x ∧ x ≤ b) (hy : 1 ≤ y ∧ y ≤ b) (hz : 1 ≤ z ∧ z ≤ b) (hb : b < 1073741824) :
    ∃ k m', eCall1 2 F__law_taken (aCons (eVar 0) (aCons (eOp oIx (eLstF (aCons (eC (.int x)) (aCons (eC (.int y)) (aCons (eC (.int z)) aNil)))) (eCall1 2 F__law_taken (aCons (eVar 0) (aCons (eC (.int 3)) aNil)))) aNil)) δ (m :: tl) = .ok (.int k) (m' :: tl) ∧ 0 ≤ k ∧ k < b ∧ Vm m' := by
  obtain ⟨d, m1, e1, hd, hm1⟩ := pick3 (a := aCons (eC (.int x)) (aCons (eC (.int y)) (aCons (eC (.int z)) aNil))) (x := .int x) (y := .int y) (z := .int z) (tl := tl) h0 rfl rfl hm
  obtain ⟨n, rfl, hn⟩ : ∃ n, d = .int n ∧ 1 ≤ n ∧ n ≤ b := by
    rcases hd with rfl | rfl | rfl
    · exact ⟨x, rfl, hx⟩
    · exact ⟨y, rfl, hy⟩
    · exact ⟨z, rfl, hz⟩
  obtain ⟨k, m2, e2, g1, g2, hm2⟩ := taken hm1 hn.1 (by omega)
  exact ⟨k, m2, call1_eq (r := [.int n]) (aCons_ok (eVar_of h0) (aCons_ok e1 (aNil_eq (L := m1 :: tl)))) e2 rfl rfl hm1.flat, g1, by omega, hm2⟩
def QWs (d : D) : Prop := ∃ ws, GoodWs ws ∧ d = dWs ws
theorem QWs.flat {d : D} (h : QWs d) : d.flat = true := by obtain ⟨s, _, rfl⟩ := h; simp
theorem iRng1_int {a : Ev} {δ : Sl} {L L' : Store} {k : Int} (h : a δ L = .ok (.int k) L') (h0 : 0 ≤ k) (h1 : k ≤ 1000) : iRng1 a δ L = .ok ((List.range k.toNat).map fun (i : Nat) => D.int (i : Int)) L' := by
  have hs : small k = true := by unfold small; simp; omega
  rw [iRng1_eq, h]
  simp only [R.andThen, hs, if_true, rngU_map]
theorem drawn_words {m : MO} (hm : Vm m) {few : Int} (h1 : 1 ≤ few) (h2 : few ≤ 26) : ∃ d m', run1 F__law_words [.int few] m = .v d m' ∧ QWs d ∧ Vm m' := by
  refine run1_ex ?_ fun d h => h.flat
  obtain ⟨k0, m0, e0, g1, g2, hm0⟩ := draw3 (δ := [some (.ref 0), some (.int few), some (.ref 1), none, none]) (x := 3) (y := 5) (z := 9) (b := 9) (tl := [.lst []]) rfl hm (by decide) (by decide) (by decide) (by decide)
  obtain ⟨δ', L', f1, q1⟩ := for_acc (tg := .nm 3) (b := B1__law_words) (fun (i : Nat) => D.int (i : Int))
    (fun d δ L => (∃ y z, δ = [some (.ref 0), some (.int few), some (.ref 1), y, z]) ∧ ∃ m ws, L = [m, .lst (ws.map dWd)] ∧ Vm m ∧ ws.length = d.length ∧ ∀ w ∈ ws, GoodW w) (List.range k0.toNat) []
    [some (.ref 0), some (.int few), some (.ref 1), none, none] [m0, .lst []] ⟨⟨_, _, rfl⟩, m0, [], rfl, hm0, rfl, fun w h => nomatch h⟩ (fun d x δ L hx hpre hi => by
      obtain ⟨⟨y, z, rfl⟩, m, ws, rfl, hm, hlen, hws⟩ := hi
      obtain ⟨r0, hr0⟩ := hpre
      have hd : d.length < 9 := by
        have := congrArg List.length hr0
        simp at this
        omega
      obtain ⟨t, m1, e1, ⟨s, hs, rfl⟩, hm1⟩ := drawn_term hm h1 h2
      have c1 : eCall1 2 F__law_term (aCons (eVar 0) (aCons (eVar 1) aNil)) [some (.ref 0), some (.int few), some (.ref 1), some (.int (x : Int)), z] [m, .lst (ws.map dWd)] = .ok (.str s) [m1, .lst (ws.map dWd)] :=
        call1_eq (r := [.int few]) (aCons_ok (eVar_of rfl) (aCons_ok (eVar_of (d := .int few) rfl) (aNil_eq (L := [m, .lst (ws.map dWd)])))) e1 rfl rfl hm.flat
      obtain ⟨w, m2, e2, hw, hm2⟩ := pick3 (δ := [some (.ref 0), some (.int few), some (.ref 1), some (.int (x : Int)), some (.str s)]) (a := aCons (eTup (aCons (eC (.str "use")) (aCons (eVar 4) aNil))) (aCons (eTup (aCons (eC (.str "use")) (aCons (eVar 4) aNil))) (aCons (eVar 4) aNil))) (x := dWd (.u s)) (y := dWd (.u s)) (z := dWd (.w s)) (m := m1) (tl := [.lst (ws.map dWd)]) rfl (by simp [eVar, dWd, most_of' (show 2 ≤ 100000 by decide)]) (by simp) hm1
      obtain ⟨v, rfl, hv⟩ : ∃ v, w = dWd v ∧ GoodW v := by
        rcases hw with rfl | rfl | rfl
        · exact ⟨_, rfl, hs⟩
        · exact ⟨_, rfl, hs⟩
        · exact ⟨_, rfl, hs⟩
      refine ⟨_, [some (.ref 0), some (.int few), some (.ref 1), some (.int (x : Int)), some (.str s)], [m2, .lst ((ws ++ [v]).map dWd)], rfl, ?_, ⟨_, _, rfl⟩, m2, ws ++ [v], rfl, hm2, by simp [hlen], fun u hu => ?_⟩
      · unfold B1__law_words
        rw [sSeq_eq, sSet_eq]
        simp only [List.set_cons_succ, List.set_cons_zero]
        rw [c1]
        simp only [R.andThen, Tg.put, List.set_cons_succ, List.set_cons_zero]
        rw [sExpr_eq]
        unfold eM
        rw [eVar_of (d := .ref 1) rfl]
        simp only [R.andThen, lstOf, List.getElem?_cons_succ, List.getElem?_cons_zero]
        rw [aCons_ok e2 (aNil_eq (L := [m2, .lst (ws.map dWd)]))]
        have hl : ws.length < most := Nat.lt_of_lt_of_le (show ws.length < 1000 by omega) (by decide)
        simp [mAppend, hl]
      · rcases List.mem_append.mp hu with hu | hu
        · exact hws u hu
        · rw [List.mem_singleton.mp hu]; exact hv)
  obtain ⟨⟨y, z, rfl⟩, m', ws, rfl, hm', hlen, hws⟩ := q1
  refine ⟨dWs ws, m', [.lst (ws.map dWd)], ?_, ⟨ws, ⟨by have : ws.length = k0.toNat := by simpa using hlen
                                                        omega, hws⟩, rfl⟩, hm'⟩
  simp only [F__law_words, fnOf]
  simp only [List.map_cons, List.map_nil, List.length_cons, List.length_nil, Nat.reduceAdd, Nat.reduceSub, List.replicate_succ, List.replicate_zero, List.cons_append, List.nil_append]
  rw [sSeq_eq, sSet_eq]
  have eL : eLst aNil [some (.ref 0), some (.int few), none, none, none] [m] = .ok (.ref 1) [m, .lst []] := by simp [most_of' (show 0 ≤ 100000 by decide), alloc]
  rw [eL]
  simp only [R.andThen, Tg.put, List.set_cons_succ, List.set_cons_zero]
  rw [sSeq_eq, sFor_eq, iRng1_int e0 g1 (by omega)]
  simp only [R.andThen]
  rw [f1]
  simp [eVar, bTuple, seqOf, dWs]
def QRw (d : D) : Prop := ∃ r, GoodR r ∧ d = dRw r
theorem QRw.flat {d : D} (h : QRw d) : d.flat = true := by obtain ⟨s, _, rfl⟩ := h; simp
theorem drawn_row {m : MO} (hm : Vm m) {few : Int} (h1 : 1 ≤ few) (h2 : few ≤ 26) : ∃ d m', run1 F__law_row [.int few] m = .v d m' ∧ QRw d ∧ Vm m' := by
  refine run1_ex ?_ fun d h => h.flat
  obtain ⟨k0, m0, e0, _, _, hm0⟩ := draw (δ := [some (.ref 0), some (.int few)]) (a := eC (.int 2)) (n := 2) (tl := []) rfl (fun L => rfl) hm (by decide) (by decide)
  have hi : tVal (eOp cEq (eCall1 2 F__law_taken (aCons (eVar 0) (aCons (eC (.int 2)) aNil))) (eC (.int 0))) [some (.ref 0), some (.int few)] [m] = .ok (decide (k0 = 0)) [m0] := by
    rw [tVal_eq, eOp_eq, e0]
    simp
  have callW : ∀ m, Vm m → ∃ ws m', eCall1 2 F__law_words (aCons (eVar 0) (aCons (eVar 1) aNil)) [some (.ref 0), some (.int few)] [m] = .ok (dWs ws) [m'] ∧ GoodWs ws ∧ Vm m' := fun m hm => by
    obtain ⟨d, m', e, ⟨ws, hw, rfl⟩, hm'⟩ := drawn_words hm h1 h2
    exact ⟨ws, m', call1_eq (r := [.int few]) (aCons_ok (eVar_of rfl) (aCons_ok (eVar_of (d := .int few) rfl) (aNil_eq (L := [m])))) e rfl rfl hm.flat, hw, hm'⟩
  simp only [F__law_row, fnOf]
  simp only [List.map_cons, List.map_nil, List.length_cons, List.length_nil, Nat.reduceAdd, Nat.reduceSub, Nat.sub_self, List.replicate_zero, List.append_nil]
  rw [sSeq_eq, sIf_eq, hi]
  by_cases hk : k0 = 0
  · obtain ⟨ws, m1, e1, hw, hm1⟩ := callW m0 hm0
    refine ⟨dRw (.say ws), m1, [], ?_, ⟨.say ws, hw, rfl⟩, hm1⟩
    simp only [R.andThen, hk, decide_true, if_true, sRet_eq, eTup_eq]
    rw [aCons_ok (eC_eq (L := [m0])) (aCons_ok e1 (aNil_eq (L := [m1])))]
    simp [most_of' (show 2 ≤ 100000 by decide), dRw]
  · obtain ⟨t, m1, e1, ⟨s, hs, rfl⟩, hm1⟩ := drawn_term hm0 h1 h2
    have c1 : eCall1 2 F__law_term (aCons (eVar 0) (aCons (eVar 1) aNil)) [some (.ref 0), some (.int few)] [m0] = .ok (.str s) [m1] :=
      call1_eq (r := [.int few]) (aCons_ok (eVar_of rfl) (aCons_ok (eVar_of (d := .int few) rfl) (aNil_eq (L := [m0])))) e1 rfl rfl hm0.flat
    obtain ⟨ws, m2, e2, hw, hm2⟩ := callW m1 hm1
    refine ⟨dRw (.df s ws), m2, [], ?_, ⟨.df s ws, ⟨hs, hw⟩, rfl⟩, hm2⟩
    have hk2 : decide (k0 = 0) = false := decide_eq_false hk
    simp only [R.andThen, hk2, Bool.false_eq_true, if_false, sNil_eq, sRet_eq, eTup_eq]
    rw [aCons_ok (eC_eq (L := [m0])) (aCons_ok c1 (aCons_ok e2 (aNil_eq (L := [m2]))))]
    simp [most_of' (show 3 ≤ 100000 by decide), dRw]
def QSec (n : Nat) (d : D) : Prop := ∃ s, GoodSec n s ∧ d = dSec s
theorem QSec.flat {n : Nat} {d : D} (h : QSec n d) : d.flat = true := by obtain ⟨s, _, rfl⟩ := h; simp
theorem drawn_section : ∀ (n k : Nat) {m : MO} (_ : Vm m) {few mo : Int} (_ : 1 ≤ few) (_ : few ≤ 26) (_ : 1 ≤ mo) (_ : mo ≤ 12) (_ : k ≤ n) (_ : n ≤ 50), ∃ d m', run1 (F__law_section (n + 1)) [.int few, .int k, .int mo] m = .v d m' ∧ QSec k d ∧ Vm m'
  | n, k, m, hm, few, mo, h1, h2, h3, h4, hkn, hn => by
    refine run1_ex ?_ fun d h => h.flat
    -- the rows
    obtain ⟨k0, m0, e0, g1, g2, hm0⟩ := draw (δ := [some (.ref 0), some (.int few), some (.int k), some (.int mo), none, none, none]) (a := eOp oAdd (eVar 3) (eC (.int 1))) (n := mo + 1) (tl := []) rfl (fun L => by simp [eVar]) hm (by omega) (by omega)
    obtain ⟨ys, m1, c1, hy1, hy2, hm1⟩ := lcF_draw (it := iRng1 (eCall1 2 F__law_taken (aCons (eVar 0) (aCons (eOp oAdd (eVar 3) (eC (.int 1))) aNil)))) (own := [6]) (tg := .nm 6) (e := eCall1 2 F__law_row (aCons (eVar 0) (aCons (eVar 1) aNil))) (δ := [some (.ref 0), some (.int few), some (.int k), some (.int mo), none, none, none]) (L := [m]) (tl := []) (m := m0) (xs := (List.range k0.toNat).map fun (i : Nat) => D.int (i : Int)) QRw
      (iRng1_int e0 g1 (by omega)) hm0 (by simp; omega) (fun d h => h.flat) (fun x hx m hm => by
        obtain ⟨d, m', e, hq, hm'⟩ := drawn_row hm h1 h2
        exact ⟨_, rfl, d, m', call1_eq (r := [.int few]) (aCons_ok (eVar_of rfl) (aCons_ok (eVar_of (d := .int few) rfl) (aNil_eq (L := [m])))) e rfl rfl hm.flat, hq, hm'⟩)
    obtain ⟨rows, rfl, hrows⟩ := typed (enc := dRw) (G := GoodR) hy2
    have hrl : rows.length ≤ 12 := by
      have : rows.length = k0.toNat := by simpa using hy1
      omega
    have r1 : eB bTuple (aCons (C1__law_section (F__law_section n)) aNil) [some (.ref 0), some (.int few), some (.int k), some (.int mo), none, none, none] [m] = .ok (.tup (rows.map dRw)) [m1] := by
      have cc : C1__law_section (F__law_section n) [some (.ref 0), some (.int few), some (.int k), some (.int mo), none, none, none] [m] = .ok (.lst (rows.map dRw)) [m1] := c1
      rw [eB_eq, aCons_ok cc (aNil_eq (L := [m1]))]
      rfl
    -- how many inner ones
    have hmany : ∃ (j : Nat) (m2 : MO), j ≤ 3 ∧ (k = 0 → j = 0) ∧ Vm m2 ∧ eIf (tVal (eOp cGt (eVar 2) (eC (.int 0)))) (eOp oIx (eLstF (aCons (eC (.int 0)) (aCons (eC (.int 1)) (aCons (eCall1 2 F__law_taken (aCons (eVar 0) (aCons (eC (.int 4)) aNil))) aNil)))) (eCall1 2 F__law_taken (aCons (eVar 0) (aCons (eC (.int 3)) aNil)))) (eC (.int 0)) [some (.ref 0), some (.int few), some (.int k), some (.int mo), some (.tup (rows.map dRw)), none, none] [m1] = .ok (.int (j : Int)) [m2] := by
      have ht : tVal (eOp cGt (eVar 2) (eC (.int 0))) [some (.ref 0), some (.int few), some (.int k), some (.int mo), some (.tup (rows.map dRw)), none, none] [m1] = .ok (decide (0 < (k : Int))) [m1] := by simp [eVar]
      rw [eIf_eq, ht]
      by_cases hk : k = 0
      · refine ⟨0, m1, by omega, fun _ => rfl, hm1, ?_⟩
        have hk2 : decide (0 < (k : Int)) = false := decide_eq_false (by omega)
        simp only [R.andThen, hk2, Bool.false_eq_true, if_false]
        rfl
      · have hk2 : decide (0 < (k : Int)) = true := decide_eq_true (by omega)
        obtain ⟨q, m2, e2, g3, g4, hm2⟩ := draw (δ := [some (.ref 0), some (.int few), some (.int k), some (.int mo), some (.tup (rows.map dRw)), none, none]) (a := eC (.int 4)) (n := 4) (tl := []) rfl (fun L => rfl) hm1 (by decide) (by decide)
        obtain ⟨d, m3, e3, hd, hm3⟩ := pick3 (δ := [some (.ref 0), some (.int few), some (.int k), some (.int mo), some (.tup (rows.map dRw)), none, none]) (a := aCons (eC (.int 0)) (aCons (eC (.int 1)) (aCons (eCall1 2 F__law_taken (aCons (eVar 0) (aCons (eC (.int 4)) aNil))) aNil))) (x := .int 0) (y := .int 1) (z := .int q) (m := m1) (tl := []) rfl (aCons_ok (eC_eq (L := [m1])) (aCons_ok (eC_eq (L := [m1])) (aCons_ok e2 (aNil_eq (L := [m2]))))) rfl hm2
        obtain ⟨j, rfl, hj⟩ : ∃ j : Nat, d = .int (j : Int) ∧ j ≤ 3 := by
          rcases hd with rfl | rfl | rfl
          · exact ⟨0, rfl, by omega⟩
          · exact ⟨1, rfl, by omega⟩
          · exact ⟨q.toNat, by rw [show ((q.toNat : Nat) : Int) = q by omega], by omega⟩
        refine ⟨j, m3, hj, fun z => absurd z hk, hm3, ?_⟩
        simp only [R.andThen, hk2, if_true]
        exact e3
    obtain ⟨j, m2, hj, hj0, hm2, e2⟩ := hmany
    -- the inner ones
    obtain ⟨zs, m3, c2, hz1, hz2, hm3⟩ := lcF_draw (it := iRng1 (eVar 5)) (own := [6]) (tg := .nm 6) (e := eCall1 4 (F__law_section n) (aCons (eVar 0) (aCons (eVar 1) (aCons (eOp oSub (eVar 2) (eC (.int 1))) (aCons (eVar 3) aNil))))) (δ := [some (.ref 0), some (.int few), some (.int k), some (.int mo), some (.tup (rows.map dRw)), some (.int (j : Int)), none]) (L := [m2]) (tl := []) (m := m2) (xs := (List.range (j : Int).toNat).map fun (i : Nat) => D.int (i : Int)) (QSec (k - 1))
      (iRng1_int (k := (j : Int)) (eVar_of rfl) (by omega) (by omega)) hm2 (by simp; omega) (fun d h => h.flat) (fun x hx m hm => by
        obtain ⟨i, hi, rfl⟩ := List.mem_map.mp hx
        have hjp : 0 < j := by have : i < j := by simpa using hi
                               omega
        have hk : 1 ≤ k := by
          by_cases z : k = 0
          · have := hj0 z; omega
          · omega
        obtain ⟨n', rfl⟩ : ∃ n', n = n' + 1 := ⟨n - 1, by omega⟩
        obtain ⟨d, m', e, hq, hm'⟩ := drawn_section n' (k - 1) hm h1 h2 h3 h4 (by omega) (by omega)
        refine ⟨_, rfl, d, m', call1_eq (r := [.int few, .int ((k - 1 : Nat) : Int), .int mo]) ?_ e rfl rfl hm.flat, hq, hm'⟩
        have hsub : ((k : Int) - 1) = ((k - 1 : Nat) : Int) := by omega
        simp [eVar, wipe, hsub])
    obtain ⟨inner, rfl, hin⟩ := typed (enc := dSec) (G := GoodSec (k - 1)) hz2
    have hil : inner.length = j := by simpa using hz1
    have hg : GoodSec k (.mk rows inner) := by
      cases k with
      | zero => exact ⟨hrl, hrows, by omega, List.length_eq_zero_iff.mp (by rw [hil, hj0 rfl])⟩
      | succ k => exact ⟨hrl, hrows, by omega, hin⟩
    have r2 : eB bTuple (aCons (C2__law_section (F__law_section n)) aNil) [some (.ref 0), some (.int few), some (.int k), some (.int mo), some (.tup (rows.map dRw)), some (.int (j : Int)), none] [m2] = .ok (.tup (inner.map dSec)) [m3] := by
      have cc : C2__law_section (F__law_section n) [some (.ref 0), some (.int few), some (.int k), some (.int mo), some (.tup (rows.map dRw)), some (.int (j : Int)), none] [m2] = .ok (.lst (inner.map dSec)) [m3] := c2
      rw [eB_eq, aCons_ok cc (aNil_eq (L := [m3]))]
      rfl
    refine ⟨dSec (.mk rows inner), m3, [], ?_, ⟨_, hg, rfl⟩, hm3⟩
    rw [F__law_section]
    simp only [fnOf]
    simp only [List.map_cons, List.map_nil, List.length_cons, List.length_nil, Nat.reduceAdd, Nat.reduceSub, List.replicate_succ, List.replicate_zero, List.cons_append, List.nil_append]
    rw [sSeq_eq, sSet_eq, r1]
    simp only [R.andThen, Tg.put, List.set_cons_succ, List.set_cons_zero]
    rw [sSeq_eq, sSet_eq, e2]
    simp only [R.andThen, Tg.put, List.set_cons_succ, List.set_cons_zero]
    rw [sRet_eq, eTup_eq, aCons_ok (eVar_of (d := .tup (rows.map dRw)) rfl) (aCons_ok r2 (aNil_eq (L := [m3])))]
    rw [dSec_eq]
    simp [most_of' (show 2 ≤ 100000 by decide), Sec.rows, Sec.inner]
theorem drawn_paper {m : MO} (hm : Vm m) : ∃ d m', run1 F__law_paper [] m = .v d m' ∧ QSec 2 d ∧ Vm m' := by
  refine run1_ex ?_ fun d h => h.flat
  obtain ⟨d, m1, e1, hd, hm1⟩ := pick3 (δ := [some (.ref 0), none]) (a := aCons (eC (.int 2)) (aCons (eC (.int 4)) (aCons (eC (.int 9)) aNil))) (x := .int 2) (y := .int 4) (z := .int 9) (m := m) (tl := []) rfl rfl rfl hm
  obtain ⟨few, rfl, hf⟩ : ∃ n, d = .int n ∧ 1 ≤ n ∧ n ≤ 26 := by
    rcases hd with rfl | rfl | rfl <;> exact ⟨_, rfl, by decide, by decide⟩
  obtain ⟨d, m2, e2, hd, hm2⟩ := pick3 (δ := [some (.ref 0), some (.int few)]) (a := aCons (eC (.int 3)) (aCons (eC (.int 5)) (aCons (eC (.int 12)) aNil))) (x := .int 3) (y := .int 5) (z := .int 12) (m := m1) (tl := []) rfl rfl rfl hm1
  obtain ⟨mo, rfl, hmo⟩ : ∃ n, d = .int n ∧ 1 ≤ n ∧ n ≤ 12 := by
    rcases hd with rfl | rfl | rfl <;> exact ⟨_, rfl, by decide, by decide⟩
  obtain ⟨d, m3, e3, hq, hm3⟩ := drawn_section 11 2 hm2 hf.1 hf.2 hmo.1 hmo.2 (by omega) (by omega)
  refine ⟨d, m3, [], ?_, hq, hm3⟩
  simp only [F__law_paper, fnOf]
  simp only [List.map_cons, List.map_nil, List.length_cons, List.length_nil, Nat.reduceAdd, Nat.reduceSub, List.replicate_succ, List.replicate_zero, List.cons_append, List.nil_append]
  rw [sSeq_eq, sSet_eq, e1]
  simp only [R.andThen, Tg.put, List.set_cons_succ, List.set_cons_zero]
  have e4 : eCall1 4 (F__law_section 12) (aCons (eVar 0) (aCons (eVar 1) (aCons (eC (.int 2)) (aCons (eOp oIx (eLstF (aCons (eC (.int 3)) (aCons (eC (.int 5)) (aCons (eC (.int 12)) aNil)))) (eCall1 2 F__law_taken (aCons (eVar 0) (aCons (eC (.int 3)) aNil)))) aNil)))) [some (.ref 0), some (.int few)] [m1] = .ok d [m3] :=
    call1_eq (r := [.int few, .int 2, .int mo]) (aCons_ok (eVar_of rfl) (aCons_ok (eVar_of (d := .int few) rfl) (aCons_ok (eC_eq (L := [m1])) (aCons_ok e2 (aNil_eq (L := [m2])))))) e3 rfl rfl hm2.flat
  rw [sRet_eq, e4]
  rfl
end Df
namespace Df
open PySem (Str)
end Df
namespace Df
open PySem (Str)
section
variable {δ δ' : Sl} {L L' L1 L2 : Store} {d x y : D} {e a b : Ev} {u v : Sv} {c : Tv}
theorem seq_set {i : Nat} (h : e δ L = .ok d L') : sSeq (sSet (.nm i) e) v δ L = v (δ.set i (some d)) L' := by rw [sSeq_eq, sSet_eq, h]; rfl
theorem set_of {i : Nat} (h : e δ L = .ok d L') : sSet (.nm i) e δ L = .ok (.nx (δ.set i (some d))) L' := by rw [sSet_eq, h]; rfl
theorem seq_nx (h : u δ L = .ok (.nx δ') L') : sSeq u v δ L = v δ' L' := by rw [sSeq_eq, h]; rfl
theorem seq_rt (h : u δ L = .ok (.rt d) L') : sSeq u v δ L = .ok (.rt d) L' := by rw [sSeq_eq, h]; rfl
theorem if_t (h : c δ L = .ok true L') : sIf c u v δ L = u δ L' := by rw [sIf_eq, h]; rfl
theorem if_f (h : c δ L = .ok false L') : sIf c u v δ L = v δ L' := by rw [sIf_eq, h]; rfl
theorem seq_if_f (h : c δ L = .ok false L') : sSeq (sIf c u sNil) v δ L = v δ L' := seq_nx (by rw [if_f h]; rfl)
theorem ret_of (h : e δ L = .ok d L') : sRet e δ L = .ok (.rt d) L' := by rw [sRet_eq, h]; rfl
theorem expr_of (h : e δ L = .ok d L') : sExpr e δ L = .ok (.nx δ) L' := by rw [sExpr_eq, h]; rfl
theorem seq_expr (h : e δ L = .ok d L') : sSeq (sExpr e) v δ L = v δ L' := seq_nx (expr_of h)
theorem tval_of {k : Bool} (h : e δ L = .ok (.bl k) L') : tVal e δ L = .ok k L' := by rw [tVal_eq, h]; rfl
theorem tnot_of {k : Bool} (h : c δ L = .ok k L') : tNot c δ L = .ok (!k) L' := by rw [tNot_eq, h]; rfl
theorem tand_f {c2 : Tv} (h : c δ L = .ok false L') : tAnd c c2 δ L = .ok false L' := by rw [tAnd_eq, h]; rfl
theorem tand_t {c2 : Tv} (h : c δ L = .ok true L') : tAnd c c2 δ L = c2 δ L' := by rw [tAnd_eq, h]; rfl
theorem tor_t {c2 : Tv} (h : c δ L = .ok true L') : tOr c c2 δ L = .ok true L' := by rw [tOr_eq, h]; rfl
theorem tor_f {c2 : Tv} (h : c δ L = .ok false L') : tOr c c2 δ L = c2 δ L' := by rw [tOr_eq, h]; rfl
theorem eif_t (h : c δ L = .ok true L') : eIf c a b δ L = a δ L' := by rw [eIf_eq, h]; rfl
theorem eif_f (h : c δ L = .ok false L') : eIf c a b δ L = b δ L' := by rw [eIf_eq, h]; rfl
theorem eand_f (h : a δ L = .ok (.bl false) L') : eAnd a b δ L = .ok (.bl false) L' := by rw [eAnd_eq, h]; rfl
theorem eand_t (h : a δ L = .ok (.bl true) L') : eAnd a b δ L = b δ L' := by rw [eAnd_eq, h]; rfl
theorem op_of {f : D → D → Store → R D} (ha : a δ L = .ok x L1) (hb : b δ L1 = .ok y L2) : eOp f a b δ L = f x y L2 := by
  rw [eOp_eq, ha]; show R.andThen (b δ L1) _ = _; rw [hb]; rfl
theorem b1_of {f : List D → Store → R D} (ha : a δ L = .ok x L1) : eB f (aCons a aNil) δ L = f [x] L1 := by
  rw [eB_eq, aCons_ok ha (aNil_eq (L := L1))]; rfl
theorem tup_of {as : Av} {ds : List D} (h : as δ L = .ok ds L') (hl : ds.length ≤ 100000) : eTup as δ L = .ok (.tup ds) L' := by
  rw [eTup_eq, h]; simp only [R.andThen, most_of hl, if_true]
theorem lstF_of {as : Av} {ds : List D} (h : as δ L = .ok ds L') (hl : ds.length ≤ 100000) (hf : D.flatL ds = true) : eLstF as δ L = .ok (.lst ds) L' := by
  rw [eLstF_eq, h]; simp only [R.andThen, most_of hl, if_true, frozen_l hf]
theorem var_of {i : Nat} (h : δ[i]? = some (some d)) : eVar i δ L = .ok d L := eVar_of h
theorem slice_hi {xs : List D} {m : Nat} (ha : a δ L = .ok (.tup xs) L1) (hb : b δ L1 = .ok (.int (m : Int)) L2) (hm : m ≤ 100000) : eSlice a .no (.at b) δ L = .ok (.tup (xs.take m)) L2 := by
  unfold eSlice
  rw [ha]
  have h1 : -(2 ^ 62 : Int) < (m : Int) ∧ (m : Int) < 2 ^ 62 := by omega
  simp only [R.andThen, Pt.run, hb, h1, and_self, if_true]
  have h2 : ¬ ((m : Int) < 0) := by omega
  simp only [cutL, ixOf, h2, if_false, Int.toNat_natCast, List.drop_zero, Nat.sub_zero]
  rw [List.take_eq_take_iff.mpr (show min (min m xs.length) xs.length = min m xs.length by omega)]
theorem slice_lo {xs : List D} {m : Nat} (ha : a δ L = .ok (.tup xs) L1) (hb : b δ L1 = .ok (.int (m : Int)) L2) (hm : m ≤ 100000) : eSlice a (.at b) .no δ L = .ok (.tup (xs.drop m)) L2 := by
  unfold eSlice
  rw [ha]
  have h1 : -(2 ^ 62 : Int) < (m : Int) ∧ (m : Int) < 2 ^ 62 := by omega
  simp only [R.andThen, Pt.run, hb, h1, and_self, if_true]
  have h2 : ¬ ((m : Int) < 0) := by omega
  simp only [cutL, ixOf, h2, if_false, Int.toNat_natCast]
  by_cases h : m ≤ xs.length
  · rw [Nat.min_eq_left h, List.take_of_length_le (by simp)]
  · rw [List.drop_of_length_le (by omega), List.drop_of_length_le (by omega)]; simp
theorem oadd_tup {xs ys : List D} (h : xs.length + ys.length ≤ 100000) : oAdd (.tup xs) (.tup ys) L = .ok (.tup (xs ++ ys)) L := by
  rw [oAdd_tup, if_pos (most_of h)]
theorem oix_nat {xs : List D} {i : Nat} (h : xs[i]? = some d) : oIx (.tup xs) (.int (i : Int)) L = .ok d L := by
  rw [oIx_t, atInt_nat (List.getElem?_eq_some_iff.mp h).1, h]
end
theorem slice_dP_lo {a b : Ev} {δ : Sl} {L L1 L2 : Store} {p : List Nat} {m : Nat} (ha : a δ L = .ok (dP p) L1) (hb : b δ L1 = .ok (.int (m : Int)) L2) (hm : m ≤ 100000) : eSlice a (.at b) .no δ L = .ok (dP (p.drop m)) L2 := by
  rw [slice_lo ha hb hm, dP, List.map_drop]
theorem fnOf_rt {n : Nat} {b : Sv} {ds : List D} {L L' : Store} {d : D} (h : b (ds.map some ++ List.replicate (n - ds.length) none) L = .ok (.rt d) L') : fnOf n b ds L = .ok d L' := by
  unfold fnOf; rw [h]
def putIn : Sec → List Nat → Sec → Sec
  | _, [], v => v
  | s, k :: r, v => match s.inner[k]? with
    | some u => .mk s.rows (s.inner.set k (putIn u r v))
    | none => s
theorem secAt_app : ∀ (p q : List Nat) (s : Sec), secAt s (p ++ q) = (secAt s p).bind fun u => secAt u q
  | [], q, s => by simp [secAt]
  | k :: r, q, s => by
    rw [List.cons_append, secAt, secAt]
    cases s.inner[k]? with
    | none => rfl
    | some u => exact secAt_app r q u
theorem loc_nil (s : Sec) : loc s [] = s.rows := by cases s; rfl
theorem loc_cons (s : Sec) (k : Nat) (q : List Nat) : loc s (k :: q) = match s.inner[k]? with
    | some u => loc u q
    | none => [] := by
  unfold loc
  rw [secAt]
  cases s.inner[k]? <;> rfl
theorem loc_app {s u : Sec} {p : List Nat} (h : secAt s p = some u) (q : List Nat) : loc s (p ++ q) = loc u q := by
  unfold loc
  rw [secAt_app, h]; rfl
theorem loc_of {s u : Sec} {p : List Nat} (h : secAt s p = some u) : loc s p = u.rows := by unfold loc; rw [h]
theorem loc_putIn {v : Sec} : ∀ (p : List Nat) (s u : Sec), secAt s p = some u → ∀ q, loc (putIn s p v) q = if q.take p.length = p then loc v (q.drop p.length) else loc s q
  | [], s, u, _, q => by simp [putIn]
  | k :: r, s, u, h, q => by
    rw [secAt] at h
    cases e : s.inner[k]? with
    | none => rw [e] at h; cases h
    | some t =>
      rw [e] at h
      have hlt := (List.getElem?_eq_some_iff.mp e).1
      rw [putIn, e]
      simp only
      cases q with
      | nil => rw [loc_nil, loc_nil]; simp [Sec.rows]
      | cons j q =>
        rw [loc_cons, loc_cons]
        simp only [List.length_cons, List.take_succ_cons, List.drop_succ_cons]
        have hin : (Sec.mk s.rows (s.inner.set k (putIn t r v))).inner = s.inner.set k (putIn t r v) := rfl
        rw [hin]
        by_cases hj : k = j
        · subst hj
          rw [List.getElem?_set_self hlt, e]
          simp only
          rw [loc_putIn r t u h q]
          simp
        · rw [List.getElem?_set_ne hj]
          have : ¬ (j :: q.take r.length = k :: r) := fun z => hj (List.cons.inj z).1.symm
          rw [if_neg this]
theorem good_mk {n : Nat} {rows : List Rw} {inner : List Sec} (h1 : rows.length ≤ 12) (h2 : ∀ r ∈ rows, GoodR r) (h3 : inner.length ≤ 3) (h4 : n = 0 → inner = []) (h5 : ∀ m, n = m + 1 → ∀ s ∈ inner, GoodSec m s) : GoodSec n (.mk rows inner) := by
  cases n with
  | zero => exact ⟨h1, h2, h3, h4 rfl⟩
  | succ n => exact ⟨h1, h2, h3, h5 n rfl⟩
theorem good_putIn {v : Sec} : ∀ (p : List Nat) (n : Nat) (s u : Sec), GoodSec n s → secAt s p = some u → (∀ m, m + p.length = n → GoodSec m v) → GoodSec n (putIn s p v)
  | [], n, s, u, _, _, hv => hv n rfl
  | k :: r, n, s, u, hs, h, hv => by
    rw [secAt] at h
    cases e : s.inner[k]? with
    | none => rw [e] at h; cases h
    | some t =>
      rw [e] at h
      rw [putIn, e]
      have hm : t ∈ s.inner := List.mem_of_getElem? e
      refine good_mk hs.rows12 hs.rowsG (by rw [List.length_set]; exact hs.inner3) (fun z => ?_) (fun m z x hx => ?_)
      · subst z; rw [hs.none] at hm; cases hm
      · subst z
        rcases List.mem_or_eq_of_mem_set hx with hx | rfl
        · exact hs.sub x hx
        · exact good_putIn r m t u (hs.sub t hm) h fun j hj => hv j (by simp only [List.length_cons]; omega)
theorem mem_uses {s : Sec} (h : GoodSec 2 s) {u : Us} {t : Str} : (u, t) ∈ uses s ↔ ∃ r, (loc s u.1)[u.2.1]? = some r ∧ r.ws[u.2.2]? = some (.u t) := by
  constructor
  · intro hx
    obtain ⟨v, r, h1, h2, h3⟩ := uses_mem h hx
    exact ⟨r, by rw [loc_of h1]; exact h2, h3⟩
  · rintro ⟨r, h1, h2⟩
    cases e : secAt s u.1 with
    | none => unfold loc at h1; rw [e] at h1; simp at h1
    | some v =>
      rw [loc_of e] at h1
      have h3 := secs_all s [] u.1 v e
      unfold uses
      refine List.mem_flatMap.mpr ⟨_, h3, ?_⟩
      unfold usesS
      refine List.mem_flatMap.mpr ⟨(r, u.2.1), ?_, ?_⟩
      · rw [List.mem_iff_getElem?]
        refine ⟨u.2.1, ?_⟩
        rw [List.getElem?_zipIdx]
        simp only [List.nil_append]
        rw [h1]; simp
      · unfold usesR usesW
        refine List.mem_filterMap.mpr ⟨u.2.2, List.mem_range.mpr (List.getElem?_eq_some_iff.mp h2).1, ?_⟩
        unfold useAt
        rw [h2]; simp
end Df
namespace Df
open PySem (Str)
theorem cEq_dP0 {p : List Nat} {L : Store} : cEq (dP p) (.tup []) L = .ok (.bl (decide (p = []))) L := by
  have := cEq_dP (p := p) (q := []) (L := L)
  exact this
theorem etup0 {δ : Sl} {L : Store} : eTup aNil δ L = .ok (.tup []) L := tup_of (aNil_eq (L := L)) (by simp)
theorem sec0 {s : Sec} {L : Store} : oIx (dSec s) (.int 0) L = .ok (.tup (s.rows.map dRw)) L := by rw [dSec_eq]; rfl
theorem sec1 {s : Sec} {L : Store} : oIx (dSec s) (.int 1) L = .ok (.tup (s.inner.map dSec)) L := by rw [dSec_eq]; rfl
theorem dP_cons0 {k : Nat} {r : List Nat} {L : Store} : oIx (dP (k :: r)) (.int 0) L = .ok (.int (k : Int)) L := by rw [dP, List.map_cons, oIx_t, atInt_0]
theorem keyishL_map {α : Type} {f : α → D} (h : ∀ a, keyish (f a) = true) : ∀ xs : List α, keyishL (xs.map f) = true
  | [] => rfl
  | x :: xs => by rw [List.map_cons, keyishL, h x, keyishL_map h xs]; rfl
end Df
namespace Df
open PySem (Str)
theorem app_of {o : Ev} {a : Ev} {δ : Sl} {L L' : Store} {i : Nat} {xs ys : List D} {d : D} (ho : o δ L = .ok (.ref i) L) (hi : L[i]? = some (.lst xs)) (ha : a δ L = .ok d L') (hi' : L'[i]? = some (.lst ys)) (hl : ys.length ≤ 100000) :
    sExpr (eM mAppend o (aCons a aNil)) δ L = .ok (.nx δ) (L'.set i (.lst (ys ++ [d]))) := by
  refine expr_of (d := .non) ?_
  unfold eM
  rw [ho]
  simp only [R.andThen, lstOf, hi, aCons_ok ha (aNil_eq (L := L'))]
  have : ys.length < most := Nat.lt_of_le_of_lt hl (by decide)
  simp only [mAppend, hi', if_pos this]
theorem len_tup {a : Ev} {δ : Sl} {L L1 : Store} {xs : List D} {n : Nat} (ha : a δ L = .ok (.tup xs) L1) (hn : xs.length = n) : eB bLenS (aCons a aNil) δ L = .ok (.int (n : Int)) L1 := by
  rw [b1_of ha, bLen_tup, hn]
theorem len_lst {a : Ev} {δ : Sl} {L L1 : Store} {xs : List D} {n : Nat} (ha : a δ L = .ok (.lst xs) L1) (hn : xs.length = n) : eB bLenS (aCons a aNil) δ L = .ok (.int (n : Int)) L1 := by
  rw [b1_of ha, bLen_lst, hn]
theorem val_is_number {i lo hi : Int} : val F_is_number [.int i, .int lo, .int hi] = some (.bl (decide (lo ≤ i) && decide (i ≤ hi))) := by
  refine val_v (L := []) ?_ (fun k e => by cases e) rfl
  by_cases h : lo ≤ i
  · simp [F_is_number, fnOf, eVar, isTy, h]
  · simp [F_is_number, fnOf, eVar, isTy, h]
theorem is_num {i lo hi : Int} {a : Av} {δ : Sl} {L : Store} (ha : a δ L = .ok [.int i, .int lo, .int hi] L) : eCallF 3 F_is_number a δ L = .ok (.bl (decide (lo ≤ i) && decide (i ≤ hi))) L := call3 val_is_number ha rfl
theorem path_loop {a b : Option D} : ∀ (p : List Nat) (s u : Sec) (c : Option D), secAt s p = some u → ∃ c', forL (.nm 3) B1_is_path (p.map fun (n : Nat) => .int (n : Int)) [a, b, some (dSec s), c] [] = .ok (.nx [a, b, some (dSec u), c']) []
  | [], s, u, c, h => by cases h; exact ⟨c, rfl⟩
  | k :: r, s, u, c, h => by
    rw [secAt] at h
    cases e : s.inner[k]? with
    | none => rw [e] at h; cases h
    | some t =>
      rw [e] at h
      obtain ⟨c', ih⟩ := path_loop r t u (some (.int k)) h
      have hk : k < s.inner.length := (List.getElem?_eq_some_iff.mp e).1
      have e2 : (s.inner.map dSec)[k]? = some (dSec t) := by rw [List.getElem?_map, e]; rfl
      refine ⟨c', ?_⟩
      have s1 : eOp oIx (eVar 2) (eC (.int 1)) [a, b, some (dSec s), some (.int (k : Int))] [] = .ok (.tup (s.inner.map dSec)) [] := (op_of (var_of (d := dSec s) rfl) eC_eq).trans sec1
      have n1 := is_num (i := (k : Int)) (lo := 0) (hi := (s.inner.length : Int) - 1) (δ := [a, b, some (dSec s), some (.int (k : Int))]) (L := [])
        (aCons_ok (var_of (i := 3) rfl) (aCons_ok (eC_eq (d := .int 0)) (aCons_ok ((op_of (f := oSub) (len_tup s1 (List.length_map _)) (eC_eq (d := .int 1))).trans oSub_int) (aNil_eq (L := [])))))
      have n2 : (decide ((0 : Int) ≤ (k : Int)) && decide ((k : Int) ≤ (s.inner.length : Int) - 1)) = true := by simp; omega
      rw [n2] at n1
      rw [List.map_cons, for_cons (δ1 := [a, b, some (dSec s), some (.int k)]) (δ2 := [a, b, some (dSec t), some (.int k)]) (L2 := []) rfl ?_]
      · exact ih
      · unfold B1_is_path
        rw [seq_if_f (tnot_of (tval_of n1))]
        exact set_of ((op_of s1 (var_of (d := .int (k : Int)) rfl)).trans (oix_nat e2))
theorem val_is_path {s u : Sec} {p : List Nat} (h : secAt s p = some u) : val F_is_path [dSec s, dP p] = some (.bl true) := by
  refine val_v (L := []) ?_ (fun k e => by cases e) rfl
  obtain ⟨c', e⟩ := path_loop (a := some (dSec s)) (b := some (dP p)) p s u none h
  unfold F_is_path
  refine fnOf_rt ?_
  show sSeq _ _ [some (dSec s), some (dP p), none, none] [] = _
  have t1 : eIsi (eVar 1) [.tuple] [some (dSec s), some (dP p), none, none] [] = .ok (.bl true) [] := by
    rw [eIsi_eq, var_of (d := dP p) rfl]
    simp only [R.andThen]
    rw [if_pos (show D.plain (look [] (dP p)) = true from plain_dP p)]
    rfl
  rw [seq_if_f (tnot_of (tval_of t1)), seq_set (var_of (d := dSec s) rfl)]
  simp only [List.set_cons_succ, List.set_cons_zero]
  have f1 : sFor (.nm 3) (iSeq (eVar 1)) B1_is_path [some (dSec s), some (dP p), some (dSec s), none] [] = .ok (.nx [some (dSec s), some (dP p), some (dSec u), c']) [] := by
    rw [sFor_eq, iSeq_eq, var_of (d := dP p) rfl]
    exact e
  rw [seq_nx f1]
  exact ret_of eC_eq
def setRows (s : Sec) (p : List Nat) (rows : List Rw) : Sec := match secAt s p with
  | some u => putIn s p (.mk rows u.inner)
  | none => s
theorem setRows_of {s u : Sec} {p : List Nat} (h : secAt s p = some u) (rows : List Rw) : setRows s p rows = putIn s p (.mk rows u.inner) := by unfold setRows; rw [h]
theorem setRows_cons {s t u : Sec} {k : Nat} {r : List Nat} (e : s.inner[k]? = some t) (h : secAt t r = some u) (rows : List Rw) : setRows s (k :: r) rows = .mk s.rows (s.inner.set k (setRows t r rows)) := by
  have : secAt s (k :: r) = some u := by rw [secAt, e]; exact h
  rw [setRows_of this, setRows_of h, putIn, e]
theorem loc_setRows {s u : Sec} {p : List Nat} (h : secAt s p = some u) (rows : List Rw) (q : List Nat) : loc (setRows s p rows) q = if q = p then rows else loc s q := by
  rw [setRows_of h, loc_putIn p s u h]
  by_cases c : q.take p.length = p
  · rw [if_pos c]
    obtain ⟨r, rfl⟩ : ∃ r, q = p ++ r := ⟨q.drop p.length, by
      have z := (List.take_append_drop p.length q).symm
      rw [c] at z; exact z⟩
    rw [List.drop_left, loc_app h]
    cases r with
    | nil => simp [loc_nil, Sec.rows]
    | cons j r =>
      rw [if_neg (by simp), loc_cons, loc_cons]
      rfl
  · rw [if_neg c, if_neg (fun e => c (by rw [e]; simp))]
theorem good_setRows {s u : Sec} {p : List Nat} {rows : List Rw} {n : Nat} (h : secAt s p = some u) (hs : GoodSec n s) (h1 : rows.length ≤ 12) (h2 : ∀ r ∈ rows, GoodR r) : GoodSec n (setRows s p rows) := by
  rw [setRows_of h]
  obtain ⟨m0, hm0, hu⟩ := secAt_good hs h
  refine good_putIn p n s u hs h fun m hm => ?_
  obtain rfl : m = m0 := by omega
  refine good_mk h1 h2 hu.inner3 (fun z => ?_) (fun k z t ht => ?_)
  · subst z; exact hu.none
  · subst z; exact hu.sub t ht
theorem val_with_rows : ∀ (n : Nat) (p : List Nat) (m : Nat) (s u : Sec) (rows : List Rw), GoodSec m s → secAt s p = some u → p.length ≤ n → n ≤ 50 → val (F_with_rows (n + 1)) [dSec s, dP p, .tup (rows.map dRw)] = some (dSec (setRows s p rows))
  | n, [], m, s, u, rows, hg, h, _, _ => by
    refine val_v (L := []) ?_ (fun k z => by rw [dSec_eq] at z; cases z) (by simp)
    rw [F_with_rows]
    refine fnOf_rt (seq_rt ?_)
    rw [if_t (L' := []) (tval_of (k := true) ((op_of (var_of (d := dP []) rfl) etup0).trans cEq_dP0))]
    refine ret_of ((tup_of (aCons_ok (var_of rfl) (aCons_ok ((op_of (var_of (d := dSec s) rfl) eC_eq).trans sec1) (aNil_eq (L := [])))) (by simp)).trans ?_)
    cases h
    rw [setRows_of (show secAt s [] = some s from rfl), dSec_eq (putIn s [] _)]
    rfl
  | 0, k :: r, m, s, u, rows, _, _, h, _ => absurd h (by simp)
  | n + 1, k :: r, m, s, u, rows, hg, h, hl, hn => by
    rw [secAt] at h
    cases e : s.inner[k]? with
    | none => rw [e] at h; cases h
    | some t =>
      rw [e] at h
      have hlt := (List.getElem?_eq_some_iff.mp e).1
      have hm : t ∈ s.inner := List.mem_of_getElem? e
      obtain ⟨m', hgt⟩ : ∃ m', GoodSec m' t := by
        cases m with
        | zero => rw [hg.none] at hm; cases hm
        | succ m => exact ⟨m, hg.sub t hm⟩
      have ih := val_with_rows n r m' t u rows hgt h (by simpa using hl) (by omega)
      have h3 := hg.inner3
      have e2 : (s.inner.map dSec)[k]? = some (dSec t) := by rw [List.getElem?_map, e]; rfl
      refine val_v (L := [.lst ((s.inner.map dSec).set k (dSec (setRows t r rows)))]) ?_ (fun k z => by rw [dSec_eq] at z; cases z) (by simp)
      rw [F_with_rows]
      refine fnOf_rt ?_
      show sSeq _ _ [some (dSec s), some (dP (k :: r)), some (.tup (rows.map dRw)), none] [] = _
      rw [seq_if_f (L' := []) (tval_of (k := false) ((op_of (var_of (d := dP (k :: r)) rfl) etup0).trans cEq_dP0))]
      have x3 : eB bList (aCons (eOp oIx (eVar 0) (eC (.int 1))) aNil) [some (dSec s), some (dP (k :: r)), some (.tup (rows.map dRw)), none] [] = .ok (.ref 0) [.lst (s.inner.map dSec)] :=
        (b1_of ((op_of (var_of (d := dSec s) rfl) eC_eq).trans sec1)).trans rfl
      rw [seq_set x3]
      simp only [List.set_cons_succ, List.set_cons_zero]
      have ix : eOp oIx (eVar 1) (eC (.int 0)) [some (dSec s), some (dP (k :: r)), some (.tup (rows.map dRw)), some (.ref 0)] [.lst (s.inner.map dSec)] = .ok (.int (k : Int)) [.lst (s.inner.map dSec)] := (op_of (var_of (d := dP (k :: r)) rfl) eC_eq).trans dP_cons0
      have a1 : eOp oIx (eVar 3) (eOp oIx (eVar 1) (eC (.int 0))) [some (dSec s), some (dP (k :: r)), some (.tup (rows.map dRw)), some (.ref 0)] [.lst (s.inner.map dSec)] = .ok (dSec t) [.lst (s.inner.map dSec)] := by
        rw [op_of (var_of (d := .ref 0) rfl) ix]
        simp only [oIx, seqOf, List.getElem?_cons_zero]
        rw [atInt_nat (by simpa using hlt), e2]
      have a2 := slice_dP_lo (var_of (δ := [some (dSec s), some (dP (k :: r)), some (.tup (rows.map dRw)), some (.ref 0)]) (L := [.lst (s.inner.map dSec)]) (i := 1) (d := dP (k :: r)) rfl) (eC_eq (d := .int ((1 : Nat) : Int))) (by decide)
      have a3 : eCallF 3 (F_with_rows (n + 1)) (aCons (eOp oIx (eVar 3) (eOp oIx (eVar 1) (eC (.int 0)))) (aCons (eSlice (eVar 1) (.at (eC (.int 1))) .no) (aCons (eVar 2) aNil))) [some (dSec s), some (dP (k :: r)), some (.tup (rows.map dRw)), some (.ref 0)] [.lst (s.inner.map dSec)] = .ok (dSec (setRows t r rows)) [.lst (s.inner.map dSec)] :=
        call3 ih (aCons_ok a1 (aCons_ok a2 (aCons_ok (var_of rfl) (aNil_eq (L := [.lst (s.inner.map dSec)]))))) (by simp [flat_map])
      have p1 : sPut pLst (eVar 3) (eOp oIx (eVar 1) (eC (.int 0))) (eCallF 3 (F_with_rows (n + 1)) (aCons (eOp oIx (eVar 3) (eOp oIx (eVar 1) (eC (.int 0)))) (aCons (eSlice (eVar 1) (.at (eC (.int 1))) .no) (aCons (eVar 2) aNil)))) [some (dSec s), some (dP (k :: r)), some (.tup (rows.map dRw)), some (.ref 0)] [.lst (s.inner.map dSec)] = .ok (.nx [some (dSec s), some (dP (k :: r)), some (.tup (rows.map dRw)), some (.ref 0)]) [.lst ((s.inner.map dSec).set k (dSec (setRows t r rows)))] := by
        rw [sPut_eq, a3]
        simp only [R.andThen]
        rw [var_of (d := .ref 0) rfl]
        simp only [R.andThen, ix]
        have hix : ixI (s.inner.map dSec).length (k : Int) = some k := by
          unfold ixI
          rw [if_pos (by omega), if_pos (by simpa using hlt)]; rfl
        simp only [pLst, List.getElem?_cons_zero, hix]
        rfl
      rw [seq_nx p1]
      have hb : eB bTuple (aCons (eVar 3) aNil) [some (dSec s), some (dP (k :: r)), some (.tup (rows.map dRw)), some (.ref 0)] [.lst ((s.inner.map dSec).set k (dSec (setRows t r rows)))] = .ok (.tup ((s.inner.map dSec).set k (dSec (setRows t r rows)))) [.lst ((s.inner.map dSec).set k (dSec (setRows t r rows)))] := (b1_of (var_of (d := .ref 0) rfl)).trans rfl
      refine ret_of ((tup_of (aCons_ok ((op_of (var_of (d := dSec s) rfl) eC_eq).trans sec0) (aCons_ok hb (aNil_eq (L := _)))) (by simp)).trans ?_)
      rw [setRows_cons e h, dSec_eq (.mk s.rows _)]
      show _ = R.ok (D.tup [D.tup (s.rows.map dRw), D.tup ((s.inner.set k (setRows t r rows)).map dSec)]) _
      rw [List.map_set]
theorem val_law_with : ∀ (n : Nat) (p : List Nat) (m : Nat) (s u : Sec) (rows : List Rw), GoodSec m s → secAt s p = some u → p.length ≤ n → n ≤ 50 → val (F__law_with (n + 1)) [dSec s, dP p, .tup (rows.map dRw)] = some (dSec (setRows s p rows))
  | n, [], m, s, u, rows, hg, h, _, _ => by
    refine val_v (L := []) ?_ (fun k z => by rw [dSec_eq] at z; cases z) (by simp)
    rw [F__law_with]
    refine fnOf_rt (seq_rt ?_)
    rw [if_t (L' := []) (tval_of (k := true) ((op_of (var_of (d := dP []) rfl) etup0).trans cEq_dP0))]
    refine ret_of ((tup_of (aCons_ok ((b1_of (var_of (d := .tup (rows.map dRw)) rfl)).trans (show bTuple [.tup (rows.map dRw)] [] = .ok (.tup (rows.map dRw)) [] from rfl)) (aCons_ok ((op_of (var_of (d := dSec s) rfl) eC_eq).trans sec1) (aNil_eq (L := [])))) (by simp)).trans ?_)
    cases h
    rw [setRows_of (show secAt s [] = some s from rfl), dSec_eq (putIn s [] _)]
    rfl
  | 0, k :: r, m, s, u, rows, _, _, h, _ => absurd h (by simp)
  | n + 1, k :: r, m, s, u, rows, hg, h, hl, hn => by
    rw [secAt] at h
    cases e : s.inner[k]? with
    | none => rw [e] at h; cases h
    | some t =>
      rw [e] at h
      have hlt := (List.getElem?_eq_some_iff.mp e).1
      have hm : t ∈ s.inner := List.mem_of_getElem? e
      obtain ⟨m', hgt⟩ : ∃ m', GoodSec m' t := by
        cases m with
        | zero => rw [hg.none] at hm; cases hm
        | succ m => exact ⟨m, hg.sub t hm⟩
      have ih := val_law_with n r m' t u rows hgt h (by simpa using hl) (by omega)
      have h3 := hg.inner3
      have e2 : (s.inner.map dSec)[k]? = some (dSec t) := by rw [List.getElem?_map, e]; rfl
      refine val_v (L := []) ?_ (fun k z => by rw [dSec_eq] at z; cases z) (by simp)
      rw [F__law_with]
      refine fnOf_rt ?_
      show sSeq _ _ [some (dSec s), some (dP (k :: r)), some (.tup (rows.map dRw)), none] [] = _
      rw [seq_if_f (L' := []) (tval_of (k := false) ((op_of (var_of (d := dP (k :: r)) rfl) etup0).trans cEq_dP0))]
      rw [seq_set (d := .int (k : Int)) (L' := []) ((op_of (var_of (d := dP (k :: r)) rfl) (eC_eq)).trans dP_cons0)]
      simp only [List.set_cons_succ, List.set_cons_zero]
      have x0 : ∀ L, eVar 0 [some (dSec s), some (dP (k :: r)), some (.tup (rows.map dRw)), some (.int (k : Int))] L = .ok (dSec s) L := fun L => var_of rfl
      have x3 : ∀ L, eVar 3 [some (dSec s), some (dP (k :: r)), some (.tup (rows.map dRw)), some (.int (k : Int))] L = .ok (.int (k : Int)) L := fun L => var_of rfl
      have y1 : ∀ L, eOp oIx (eVar 0) (eC (.int 1)) [some (dSec s), some (dP (k :: r)), some (.tup (rows.map dRw)), some (.int (k : Int))] L = .ok (.tup (s.inner.map dSec)) L := fun L => (op_of (x0 L) eC_eq).trans sec1
      have y2 := (op_of (f := oIx) (y1 []) (x3 [])).trans (oix_nat e2)
      have y3 := slice_dP_lo (var_of (δ := [some (dSec s), some (dP (k :: r)), some (.tup (rows.map dRw)), some (.int (k : Int))]) (L := []) (i := 1) (d := dP (k :: r)) rfl) (eC_eq (d := .int ((1 : Nat) : Int))) (by decide)
      have y4 : eCallF 3 (F__law_with (n + 1)) (aCons (eOp oIx (eOp oIx (eVar 0) (eC (.int 1))) (eVar 3)) (aCons (eSlice (eVar 1) (.at (eC (.int 1))) .no) (aCons (eVar 2) aNil))) [some (dSec s), some (dP (k :: r)), some (.tup (rows.map dRw)), some (.int (k : Int))] [] = .ok (dSec (setRows t r rows)) [] :=
        call3 ih (aCons_ok y2 (aCons_ok y3 (aCons_ok (var_of rfl) (aNil_eq (L := []))))) (by simp [flat_map])
      have y5 := slice_hi (y1 []) (x3 []) (by omega)
      have y6 := slice_lo (y1 []) ((op_of (f := oAdd) (x3 []) (eC_eq (d := .int 1))).trans oAdd_int) (m := k + 1) (by omega)
      have y7 := (op_of (f := oAdd) ((op_of (f := oAdd) y5 (tup_of (aCons_ok y4 (aNil_eq (L := []))) (by simp))).trans (oadd_tup (by simp; omega))) y6).trans (oadd_tup (by simp; omega))
      refine ret_of ?_
      refine (tup_of (aCons_ok ((op_of (x0 []) eC_eq).trans sec0) (aCons_ok y7 (aNil_eq (L := [])))) (by simp)).trans ?_
      have q : (s.inner.set k (setRows t r rows)).map dSec = (s.inner.map dSec).take k ++ [dSec (setRows t r rows)] ++ (s.inner.map dSec).drop (k + 1) := by
        rw [List.map_set, List.set_eq_take_append_cons_drop, if_pos (by simpa using hlt)]
        simp
      rw [setRows_cons e h, dSec_eq (.mk s.rows _)]
      show _ = R.ok (D.tup [D.tup (s.rows.map dRw), D.tup ((s.inner.set k (setRows t r rows)).map dSec)]) []
      rw [q]
end Df
namespace Df
open PySem (Str)
theorem leaf_dSec (s : Sec) : (dSec s).leaf = true := by rw [dSec_eq]; rfl
section
variable {s u : Sec} {p : List Nat} {n : Nat}
end
def far (up : Bool) : Int := if up = true then 1 else -1
end Df
namespace Df
open PySem (Str)
end Df
namespace Df
open PySem (Str)
theorem keyish_dWd : ∀ w : Wd, keyish (dWd w) = true
  | .w _ => rfl
  | .u _ => rfl
theorem keyish_dWs (ws : List Wd) : keyish (dWs ws) = true := by rw [dWs, keyish]; exact keyishL_map keyish_dWd ws
theorem keyish_dRw : ∀ r : Rw, keyish (dRw r) = true
  | .say ws => by rw [dRw, keyish, keyishL, keyishL, keyish_dWs]; rfl
  | .df t ws => by rw [dRw, keyish, keyishL, keyishL, keyishL, keyish_dWs]; rfl
mutual
theorem keyish_dSec : ∀ s : Sec, keyish (dSec s) = true
  | .mk rows inner => by rw [dSec, keyish, keyishL, keyishL, keyish, keyish, keyishL_map keyish_dRw, keyish_dSecs inner]; rfl
theorem keyish_dSecs : ∀ s : List Sec, keyishL (dSecs s) = true
  | [] => rfl
  | x :: xs => by rw [dSecs, keyishL, keyish_dSec x, keyish_dSecs xs]; rfl
end
theorem shortL_map {α : Type} {f : α → D} : ∀ {xs : List α}, (∀ a ∈ xs, short (f a) = true) → shortL (xs.map f) = true
  | [], _ => rfl
  | x :: xs, h => by rw [List.map_cons, shortL, h x List.mem_cons_self, shortL_map fun a ha => h a (List.mem_cons_of_mem _ ha)]; rfl
theorem short_tup {xs : List D} (h : xs.length ≤ 10000) (h2 : shortL xs = true) : short (.tup xs) = true := by rw [short, h2, decide_eq_true h]; rfl
theorem short_dRw {r : Rw} (h : GoodR r) : short (dRw r) = true := by
  have hw : ∀ ws : List Wd, ws.length ≤ 8 → short (dWs ws) = true := fun ws hl => short_tup (by simp; omega) (shortL_map fun w _ => by cases w <;> rfl)
  cases r with
  | say ws => rw [dRw]; exact short_tup (by simp) (by rw [shortL, shortL, hw ws h.few]; rfl)
  | df t ws => rw [dRw]; exact short_tup (by simp) (by rw [shortL, shortL, shortL, hw ws h.2.few]; rfl)
theorem short_dSec : ∀ (n : Nat) (s : Sec), GoodSec n s → short (dSec s) = true
  | n, s, h => by
    rw [dSec_eq]
    have h1 := h.rows12
    have h3 := h.inner3
    refine short_tup (by simp) ?_
    rw [shortL, shortL, shortL, short_tup (by simp; omega) (shortL_map fun r hr => short_dRw (h.rowsG r hr)), short_tup (by simp; omega) (shortL_map fun t ht => ?_)]
    · rfl
    · cases n with
      | zero => rw [h.none] at ht; cases ht
      | succ n => exact short_dSec n t (h.sub t ht)
theorem depth_dRw : ∀ r : Rw, (dRw r).depth ≤ 3
  | .say ws => by have := depth_dWs ws; rw [dRw, depth_tup, depthL_cons, depthL_cons, depthL_nil, depth_str]; omega
  | .df t ws => by have := depth_dWs ws; rw [dRw, depth_tup, depthL_cons, depthL_cons, depthL_cons, depthL_nil, depth_str, depth_str]; omega
theorem depth_map_mem {α : Type} {f : α → D} {n : Nat} : ∀ {xs : List α}, (∀ a ∈ xs, (f a).depth ≤ n) → D.depthL (xs.map f) ≤ n
  | [], _ => Nat.zero_le _
  | x :: xs, h => by rw [List.map_cons, D.depthL]; exact Nat.max_le.mpr ⟨h x List.mem_cons_self, depth_map_mem fun a ha => h a (List.mem_cons_of_mem _ ha)⟩
theorem depth_dSec : ∀ (n : Nat) (s : Sec), GoodSec n s → (dSec s).depth ≤ 5 + 2 * n
  | n, s, h => by
    rw [dSec_eq]
    have h1 := depth_map depth_dRw s.rows
    have h2 : D.depthL (s.inner.map dSec) ≤ 3 + 2 * n := by
      cases n with
      | zero => rw [h.none]; exact Nat.zero_le _
      | succ n => exact Nat.le_trans (depth_map_mem fun t ht => depth_dSec n t (h.sub t ht)) (by omega)
    rw [depth_tup, depthL_cons, depthL_cons, depthL_nil, depth_tup, depth_tup]
    omega
theorem alike_sec {s : Sec} (h : GoodSec 2 s) : val (F__law_alike 12) [dSec s, dSec s] = some (.bl true) :=
  val_alike 11 (dSec s) (keyish_dSec s) (short_dSec 2 s h) (Nat.le_trans (depth_dSec 2 s h) (by decide))
section
variable {s u : Sec} {p : List Nat} {n : Nat}
end
end Df
namespace Df
open PySem (Str)
theorem law_frame {n k : Nat} {B : Sv} (hk : k ≤ 100) (hn : 3 ≤ n) (turn : ∀ (ns : List Int) (rest : Sl) (m : MO) (tl : Store), rest.length + 2 = n → Vm m →
    ∃ rest' m' tl', B (some (.scr ns) :: some (.ref 0) :: rest) (m :: tl) = .ok (.nx (some (.scr ns) :: some (.ref 0) :: rest')) (m' :: tl') ∧ rest'.length + 2 = n ∧ Vm m') (ns : List Int) (hns : ns.length ≤ 63) :
    ∃ L, fnOf n (sSeq (sSet (.nm 1) (eLst (aCons (eVar 0) (aCons (eC (.int 0)) (aCons (eC (.int 0)) (aCons (eC (.int 0)) aNil)))))) (sSeq (sFor (.nm 2) (iRng1 (eC (.int (k : Int)))) B) (sRet (eC (.bl true))))) [.scr ns] [] = .ok (.bl true) L := by
  obtain ⟨δ', L', f1, _⟩ := for_acc (tg := .nm 2) (b := B) (fun (i : Nat) => D.int (i : Int))
    (fun _ δ L => ∃ rest m tl, δ = some (.scr ns) :: some (.ref 0) :: rest ∧ rest.length + 2 = n ∧ L = m :: tl ∧ Vm m) (List.range k) []
    (some (.scr ns) :: some (.ref 0) :: List.replicate (n - 2) none) [.lst [.scr ns, .int 0, .int 0, .int 0]] ⟨_, _, _, rfl, by simp; omega, rfl, ns, 0, 0, 0, rfl, by decide, by decide, by decide, hns⟩ (fun d i δ L hi hpre hI => by
      obtain ⟨rest, m, tl, rfl, h1, rfl, hm⟩ := hI
      obtain ⟨rest', m', tl', k1, k2, k3⟩ := turn ns (rest.set 0 (some (.int (i : Int)))) m tl (by rw [List.length_set]; exact h1) hm
      exact ⟨_, _, _, rfl, k1, rest', m', tl', rfl, k2, rfl, k3⟩)
  refine ⟨L', fnOf_rt ?_⟩
  have e0 : [D.scr ns].map some ++ List.replicate (n - [D.scr ns].length) none = some (.scr ns) :: none :: List.replicate (n - 2) none := by
    obtain ⟨n, rfl⟩ : ∃ j, n = j + 3 := ⟨n - 3, by omega⟩
    simp only [List.length_singleton, List.map_cons, List.map_nil, List.singleton_append]
    rw [show n + 3 - 1 = (n + 1) + 1 by omega, show n + 3 - 2 = n + 1 by omega, List.replicate_succ]
  rw [e0]
  have eL : eLst (aCons (eVar 0) (aCons (eC (.int 0)) (aCons (eC (.int 0)) (aCons (eC (.int 0)) aNil)))) (some (.scr ns) :: none :: List.replicate (n - 2) none) [] = .ok (.ref 0) [.lst [.scr ns, .int 0, .int 0, .int 0]] := by
    rw [eLst_eq, aCons_ok (var_of (d := .scr ns) rfl) (aCons_ok eC_eq (aCons_ok eC_eq (aCons_ok eC_eq (aNil_eq (L := [])))))]
    simp only [R.andThen]
    rw [if_pos (most_of (by simp))]
    rfl
  rw [seq_set eL]
  simp only [List.set_cons_succ, List.set_cons_zero]
  have ff : sFor (.nm 2) (iRng1 (eC (.int (k : Int)))) B (some (.scr ns) :: some (.ref 0) :: List.replicate (n - 2) none) [.lst [.scr ns, .int 0, .int 0, .int 0]] = .ok (.nx δ') L' := by
    rw [sFor_eq, iRng1_int (k := (k : Int)) (eC_eq) (by omega) (by omega)]
    exact f1
  rw [seq_nx ff]
  exact ret_of eC_eq
theorem draw1 {δ : Sl} {a : Ev} {n : Nat} {m : MO} {tl : Store} (h1 : δ[1]? = some (some (.ref 0))) (ha : a δ (m :: tl) = .ok (.int (n : Int)) (m :: tl)) (hm : Vm m) (hn : 1 ≤ n) (hn2 : n ≤ 100000) :
    ∃ k m', eCall1 2 F__law_taken (aCons (eVar 1) (aCons a aNil)) δ (m :: tl) = .ok (.int ((k : Nat) : Int)) (m' :: tl) ∧ k < n ∧ Vm m' := by
  obtain ⟨k, m', e1, g1, g2, hm'⟩ := taken hm (n := (n : Int)) (by omega) (by omega)
  refine ⟨k.toNat, m', ?_, by omega, hm'⟩
  rw [show ((k.toNat : Nat) : Int) = k by omega]
  exact call1_eq (r := [.int (n : Int)]) (aCons_ok (var_of h1) (aCons_ok ha (aNil_eq (L := m :: tl)))) e1 rfl rfl hm.flat
end Df
namespace Df
open PySem (Str)
theorem slice_hdE {a : Ev} {δ : Sl} {L : Store} {xs : List D} {y : D} (ha : a δ L = .ok (.tup (xs ++ [y])) L) : eSlice a .no (.at (eUn uNeg (eC (.int 1)))) δ L = .ok (.tup xs) L := by
  unfold eSlice
  rw [ha]
  have h0 : eUn uNeg (eC (.int 1)) δ L = .ok (.int (-1)) L := rfl
  have h1 : -(2 ^ 62 : Int) < (-1 : Int) ∧ (-1 : Int) < 2 ^ 62 := by omega
  simp only [R.andThen, Pt.run, h0, h1, and_self, if_true]
  have e : ((-1 : Int) + ((xs ++ [y]).length : Int)).toNat = xs.length := by simp only [List.length_append, List.length_singleton]; omega
  have h2 : ((-1 : Int) < 0) := by omega
  simp only [cutL, ixOf, h2, if_true, e, List.drop_zero, Nat.sub_zero, List.take_left']
def hdE : Rw → List D
  | .say _ => [.str "say"]
  | .df t _ => [.str "def", .str t]
theorem dRw_hdE : ∀ r : Rw, dRw r = .tup (hdE r ++ [dWs r.ws])
  | .say _ => rfl
  | .df _ _ => rfl
def rwW : Rw → List Wd → Rw
  | .say _, ws => .say ws
  | .df t _, ws => .df t ws
theorem rwW_ws : ∀ (r : Rw) (ws : List Wd), (rwW r ws).ws = ws
  | .say _, _ => rfl
  | .df _ _, _ => rfl
theorem rwW_hd (r : Rw) (ws : List Wd) : dRw (rwW r ws) = .tup (hdE r ++ [dWs ws]) := by cases r <;> rfl
theorem hdE_len : ∀ r : Rw, (hdE r).length ≤ 2
  | .say _ => Nat.le_succ 1
  | .df _ _ => Nat.le_refl _
def plR (r : Rw) (k : Nat) (t : Str) : Rw := rwW r (r.ws.set k (.w t))
def plS (s : Sec) (u : Us) : Sec := match (loc s u.1)[u.2.1]? with
  | some r => match r.ws[u.2.2]? with
    | some (.u t) => setRows s u.1 ((loc s u.1).set u.2.1 (plR r u.2.2 t))
    | _ => s
  | none => s
theorem plS_of {s : Sec} {u : Us} {r : Rw} {t : Str} (h1 : (loc s u.1)[u.2.1]? = some r) (h2 : r.ws[u.2.2]? = some (.u t)) : plS s u = setRows s u.1 ((loc s u.1).set u.2.1 (plR r u.2.2 t)) := by
  unfold plS
  rw [h1]
  simp only
  rw [h2]
theorem set_cut {α : Type} {xs : List α} {k : Nat} (h : k < xs.length) (x : α) : xs.take k ++ [x] ++ xs.drop (k + 1) = xs.set k x := by
  rw [List.set_eq_take_append_cons_drop, if_pos h, List.append_assoc]
  rfl
theorem ws_run {δ : Sl} {L : Store} {a b : Nat} {ws : List Wd} {k : Nat} {t : Str} (ha : δ[a]? = some (some (dWs ws))) (hb : δ[b]? = some (some (.int (k : Int)))) (hk : ws[k]? = some (.u t)) (hl : ws.length ≤ 100) :
    eOp oAdd (eOp oAdd (eSlice (eVar a) .no (.at (eVar b))) (eTup (aCons (eOp oIx (eOp oIx (eVar a) (eVar b)) (eC (.int 1))) aNil))) (eSlice (eVar a) (.at (eOp oAdd (eVar b) (eC (.int 1)))) .no) δ L = .ok (dWs (ws.set k (.w t))) L := by
  have hlt : k < ws.length := (List.getElem?_eq_some_iff.mp hk).1
  have va : eVar a δ L = .ok (.tup (ws.map dWd)) L := var_of ha
  have y5 := slice_hi va (var_of (L := L) hb) (by omega)
  have y6 := slice_lo va ((op_of (f := oAdd) (var_of (L := L) hb) (eC_eq (d := .int 1))).trans oAdd_int) (m := k + 1) (by omega)
  have w1 : eOp oIx (eVar a) (eVar b) δ L = .ok (dWd (.u t)) L := (op_of va (var_of hb)).trans (oix_nat (by rw [List.getElem?_map, hk]; rfl))
  have w2 : eOp oIx (eOp oIx (eVar a) (eVar b)) (eC (.int 1)) δ L = .ok (.str t) L := (op_of w1 (eC_eq (d := .int 1))).trans (by show oIx (.tup [.str "use", .str t]) (.int 1) L = _; rw [oIx_t, atInt_1])
  have y7 := (op_of (f := oAdd) ((op_of (f := oAdd) y5 (tup_of (aCons_ok w2 (aNil_eq (L := L))) (by simp))).trans (oadd_tup (by simp; omega))) y6).trans (oadd_tup (by simp; omega))
  rw [y7, dWs, ← set_cut hlt]
  simp [dWd]
theorem row_run {δ : Sl} {L : Store} {i j : Nat} {w : Ev} {rows : List Rw} {n : Nat} {r : Rw} {ws : List Wd} (hi : δ[i]? = some (some (.tup (rows.map dRw)))) (hj : δ[j]? = some (some (.int (n : Int)))) (hr : rows[n]? = some r) (hw : w δ L = .ok (dWs ws) L) :
    eOp oAdd (eSlice (eOp oIx (eVar i) (eVar j)) .no (.at (eUn uNeg (eC (.int 1))))) (eTup (aCons w aNil)) δ L = .ok (dRw (rwW r ws)) L := by
  have x1 : eOp oIx (eVar i) (eVar j) δ L = .ok (.tup (hdE r ++ [dWs r.ws])) L := by
    rw [← dRw_hdE]
    exact (op_of (var_of hi) (var_of hj)).trans (oix_nat (by rw [List.getElem?_map, hr]; rfl))
  have hl := hdE_len r
  rw [rwW_hd]
  exact (op_of (f := oAdd) (slice_hdE x1) (tup_of (aCons_ok hw (aNil_eq (L := L))) (by simp))).trans (oadd_tup (by simp; omega))
theorem rows_run {δ : Sl} {L : Store} {i j k : Nat} {rows : List Rw} {n : Nat} {r : Rw} (hi : δ[i]? = some (some (.tup (rows.map dRw)))) (hj : δ[j]? = some (some (.int (n : Int)))) (hk : δ[k]? = some (some (dRw r))) (hn : n < rows.length) (hl : rows.length ≤ 100) :
    eOp oAdd (eOp oAdd (eSlice (eVar i) .no (.at (eVar j))) (eTup (aCons (eVar k) aNil))) (eSlice (eVar i) (.at (eOp oAdd (eVar j) (eC (.int 1)))) .no) δ L = .ok (.tup ((rows.set n r).map dRw)) L := by
  have y5 := slice_hi (var_of (L := L) hi) (var_of (L := L) hj) (by omega)
  have y6 := slice_lo (var_of (L := L) hi) ((op_of (f := oAdd) (var_of (L := L) hj) (eC_eq (d := .int 1))).trans oAdd_int) (m := n + 1) (by omega)
  have y7 := (op_of (f := oAdd) ((op_of (f := oAdd) y5 (tup_of (aCons_ok (var_of (L := L) hk) (aNil_eq (L := L))) (by simp))).trans (oadd_tup (by simp; omega))) y6).trans (oadd_tup (by simp; omega))
  rw [y7, ← set_cut hn]
  simp
theorem plR_good {r : Rw} {k : Nat} {t : Str} (h : GoodR r) (ht : r.ws[k]? = some (.u t)) : GoodR (plR r k t) := by
  have hg : GoodS t := h.wsG _ (List.mem_of_getElem? ht)
  have hw : GoodWs (r.ws.set k (.w t)) := ⟨by rw [List.length_set]; exact h.ws8, fun w hw => by
    rcases List.mem_or_eq_of_mem_set hw with hw | rfl
    · exact h.wsG w hw
    · exact hg⟩
  cases r with
  | say ws => exact hw
  | df x ws => exact ⟨h.1, hw⟩
theorem use_at {s : Sec} (hs : GoodSec 2 s) {u : Us} {t : Str} (h : (u, t) ∈ uses s) : ∃ v r, secAt s u.1 = some v ∧ v.rows[u.2.1]? = some r ∧ r.ws[u.2.2]? = some (.u t) ∧ v.rows.length ≤ 12 ∧ GoodR r ∧ u.1.length ≤ 2 := by
  obtain ⟨r, h1, h2⟩ := (mem_uses hs).mp h
  cases e : secAt s u.1 with
  | none => unfold loc at h1; rw [e] at h1; simp at h1
  | some v =>
    rw [loc_of e] at h1
    obtain ⟨m, hm, hv⟩ := secAt_good hs e
    exact ⟨v, r, rfl, h1, h2, hv.rows12, hv.rowsG r (List.mem_of_getElem? h1), by omega⟩
theorem plS_eq {s : Sec} (hs : GoodSec 2 s) {u : Us} {t : Str} {v : Sec} {r : Rw} (h1 : secAt s u.1 = some v) (h2 : v.rows[u.2.1]? = some r) (h3 : r.ws[u.2.2]? = some (.u t)) : plS s u = setRows s u.1 (v.rows.set u.2.1 (plR r u.2.2 t)) := by
  rw [plS_of (r := r) (t := t) (by rw [loc_of h1]; exact h2) h3, loc_of h1]
theorem plS_good {s : Sec} (hs : GoodSec 2 s) {u : Us} {t : Str} (h : (u, t) ∈ uses s) : GoodSec 2 (plS s u) := by
  obtain ⟨v, r, h1, h2, h3, h4, h5, _⟩ := use_at hs h
  rw [plS_eq hs h1 h2 h3]
  obtain ⟨m, _, hv⟩ := secAt_good hs h1
  refine good_setRows h1 hs (by rw [List.length_set]; exact h4) fun x hx => ?_
  rcases List.mem_or_eq_of_mem_set hx with hx | rfl
  · exact hv.rowsG x hx
  · exact plR_good h5 h3
theorem plS_rows {s : Sec} (hs : GoodSec 2 s) {u : Us} {t : Str} (h : (u, t) ∈ uses s) : (plS s u).rows.length = s.rows.length := by
  obtain ⟨v, r, h1, h2, h3, h4, h5, _⟩ := use_at hs h
  rw [plS_eq hs h1 h2 h3, ← loc_nil, loc_setRows h1]
  by_cases c : [] = u.1
  · rw [if_pos c, List.length_set]
    rw [← c] at h1
    cases h1
    rfl
  · rw [if_neg c, loc_nil]
theorem plS_keep {s : Sec} (hs : GoodSec 2 s) {u u' : Us} {t t' : Str} (h : (u, t) ∈ uses s) (h' : (u', t') ∈ uses s) (hne : u' ≠ u) : (u', t') ∈ uses (plS s u) := by
  have hg := plS_good hs h
  rw [mem_uses hg]
  obtain ⟨v, r, h1, h2, h3, h4, h5, _⟩ := use_at hs h
  obtain ⟨r', g1, g2⟩ := (mem_uses hs).mp h'
  rw [plS_eq hs h1 h2 h3, loc_setRows h1]
  by_cases c : u'.1 = u.1
  · rw [if_pos c]
    rw [c, loc_of h1] at g1
    by_cases c2 : u.2.1 = u'.2.1
    · rw [← c2, List.getElem?_set_self (List.getElem?_eq_some_iff.mp h2).1]
      rw [← c2, h2] at g1
      cases g1
      refine ⟨_, rfl, ?_⟩
      unfold plR
      rw [rwW_ws]
      by_cases c3 : u.2.2 = u'.2.2
      · exact absurd (Prod.ext c (Prod.ext c2.symm c3.symm)) hne
      · rw [List.getElem?_set_ne c3]
        exact g2
    · rw [List.getElem?_set_ne c2]
      exact ⟨r', g1, g2⟩
  · rw [if_neg c]
    exact ⟨r', g1, g2⟩
theorem val_plain {s : Sec} (hs : GoodSec 2 s) {u : Us} {t : Str} (h : (u, t) ∈ uses s) : val F_plain [dSec s, dU u] = some (dSec (plS s u)) := by
  obtain ⟨v, r, h1, h2, h3, h4, h5, h6⟩ := use_at hs h
  have hlt := (List.getElem?_eq_some_iff.mp h2).1
  refine val_v (L := []) ?_ (fun k z => by rw [dSec_eq] at z; cases z) (by simp)
  unfold F_plain
  refine fnOf_rt ?_
  show sSeq _ _ [some (dSec s), some (dU u), none, none, none, none, none, none] [] = _
  have e0 : sSet (.tp [2, 3, 4]) (eVar 1) [some (dSec s), some (dU u), none, none, none, none, none, none] [] = .ok (.nx [some (dSec s), some (dU u), some (dP u.1), some (.int (u.2.1 : Int)), some (.int (u.2.2 : Int)), none, none, none]) [] := by
    rw [sSet_eq, var_of (d := dU u) rfl]
    rfl
  rw [seq_nx e0]
  rw [seq_set ((op_of (f := oIx) (call2 (val_section_at h1) (aCons_ok (var_of rfl) (aCons_ok (var_of rfl) (aNil_eq (L := [])))) (by simp)) (eC_eq (d := .int 0))).trans sec0)]
  simp only [List.set_cons_succ, List.set_cons_zero]
  have e6 : eOp oIx (eOp oIx (eVar 5) (eVar 3)) (eUn uNeg (eC (.int 1))) [some (dSec s), some (dU u), some (dP u.1), some (.int (u.2.1 : Int)), some (.int (u.2.2 : Int)), some (.tup (v.rows.map dRw)), none, none] [] = .ok (dWs r.ws) [] :=
    (op_of (f := oIx) ((op_of (f := oIx) (var_of rfl) (var_of rfl)).trans (oix_nat (d := dRw r) (by rw [List.getElem?_map, h2]; rfl))) (show eUn uNeg (eC (.int 1)) _ _ = .ok (.int (-1)) [] from rfl)).trans (last_dRw r)
  rw [seq_set e6]
  simp only [List.set_cons_succ, List.set_cons_zero]
  rw [seq_set (row_run (i := 5) (j := 3) (rows := v.rows) (n := u.2.1) rfl rfl h2 (ws_run (a := 6) (b := 4) (ws := r.ws) (k := u.2.2) rfl rfl h3 (by have := h5.ws8; omega)))]
  simp only [List.set_cons_succ, List.set_cons_zero]
  refine ret_of ?_
  rw [plS_eq hs h1 h2 h3]
  exact call_eq (aCons_ok (var_of rfl) (aCons_ok (var_of rfl) (aCons_ok (rows_run (i := 5) (j := 3) (k := 7) (rows := v.rows) (n := u.2.1) (r := plR r u.2.2 t) rfl rfl rfl hlt (by omega)) (aNil_eq (L := []))))) (val_with_rows 11 u.1 2 s v _ hs h1 (by omega) (by omega)) rfl (by simp only [flatL_cons, flat_dSec, flat_dP, flat_tup, flatL_nil, Bool.and_true, Bool.true_and]; exact flat_map flat_dRw _) (leaf_dSec _)
end Df
namespace Df
open PySem (Str)
noncomputable def Re : Sv := (sSeq (sIf (tVal (eOp cEq (eOp oIx (eVar 1) (eC (.int 0))) (eC (.str "add")))) (sRet (eAnd (eOp cEq (eB bLenS (aCons (eVar 1) aNil)) (eC (.int 2))) (eCallF 1 F_is_word (aCons (eOp oIx (eVar 1) (eC (.int 1))) aNil)))) sNil) (sSeq (sIf (tOr (tVal (eOp cNe (eOp oIx (eVar 1) (eC (.int 0))) (eC (.str "plain")))) (tOr (tVal (eOp cNe (eB bLenS (aCons (eVar 1) aNil)) (eC (.int 4)))) (tNot (tVal (eCallF 2 F_is_path (aCons (eVar 0) (aCons (eOp oIx (eVar 1) (eC (.int 1))) aNil))))))) (sRet (eC (.bl false))) sNil) (sSeq (sSet (.nm 3) (eOp oIx (eCallF 2 F_section_at (aCons (eVar 0) (aCons (eOp oIx (eVar 1) (eC (.int 1))) aNil))) (eC (.int 0)))) (sSeq (sIf (tNot (tVal (eCallF 3 F_is_number (aCons (eOp oIx (eVar 1) (eC (.int 2))) (aCons (eC (.int 0)) (aCons (eOp oSub (eB bLenS (aCons (eVar 3) aNil)) (eC (.int 1))) aNil)))))) (sRet (eC (.bl false))) sNil) (sSeq (sSet (.nm 4) (eOp oIx (eOp oIx (eVar 3) (eOp oIx (eVar 1) (eC (.int 2)))) (eUn uNeg (eC (.int 1))))) (sRet (eAnd (eCallF 3 F_is_number (aCons (eOp oIx (eVar 1) (eC (.int 3))) (aCons (eC (.int 0)) (aCons (eOp oSub (eB bLenS (aCons (eVar 4) aNil)) (eC (.int 1))) aNil)))) (eCallF 1 F_is_use (aCons (eOp oIx (eVar 4) (eOp oIx (eVar 1) (eC (.int 3)))) aNil)))))))))
def dIe (s : Sec) (xs : List D) (x3 x4 : Option D) : Sl := [some (dSec s), some (.tup xs), some (.ref 0), x3, x4]
def EdF (s : Sec) (xs : List D) (b : Bool) : Prop := ∀ L, Re (dIe s xs none none) L = .ok (.rt (.bl b)) L
theorem is_edit_run {s : Sec} {xs : List D} {b : Bool} (h2 : 2 ≤ xs.length) (hp : D.plainL xs = true) (hk : isKey (.tup xs) = true) (hr : EdF s xs b) {kvs : List (D × D)} :
    F_is_edit [dSec s, .tup xs, .ref 0] [.dct kvs] = .ok (.bl (!(dget kvs (.tup xs)).isSome && b)) [.dct kvs] := by
  show fnOf 5 (sSeq _ Re) _ _ = _
  refine fnOf_rt ?_
  show sSeq _ Re (dIe s xs none none) [.dct kvs] = _
  have t1 : tVal (eIsi (eVar 1) [.tuple]) (dIe s xs none none) [.dct kvs] = .ok true [.dct kvs] := by
    refine tval_of ?_
    rw [eIsi_eq, var_of (d := .tup xs) rfl]
    simp only [R.andThen]
    rw [if_pos (show D.plain (look [.dct kvs] (.tup xs)) = true from by rw [look_tup, plain_tup]; exact hp)]
    rfl
  have t2 : tVal (eOp cLt (eB bLenS (aCons (eVar 1) aNil)) (eC (.int 2))) (dIe s xs none none) [.dct kvs] = .ok false [.dct kvs] := by
    refine tval_of (((op_of (f := cLt) (len_tup (var_of (d := .tup xs) rfl) rfl) (eC_eq (d := .int 2))).trans cLt_eq).trans ?_)
    rw [decide_eq_false (show ¬ ((xs.length : Int) < 2) by omega)]
  have t3 : tVal (eOp cInD (eVar 1) (eVar 2)) (dIe s xs none none) [.dct kvs] = .ok (dget kvs (.tup xs)).isSome [.dct kvs] := by
    refine tval_of ((op_of (f := cInD) (var_of (d := .tup xs) rfl) (var_of (d := .ref 0) rfl)).trans ?_)
    unfold cInD
    simp only [dctOf, List.getElem?_cons_zero, hk, if_true]
  have tt := (tor_f (c2 := tOr (tVal (eOp cLt (eB bLenS (aCons (eVar 1) aNil)) (eC (.int 2)))) (tVal (eOp cInD (eVar 1) (eVar 2)))) (tnot_of t1)).trans ((tor_f t2).trans t3)
  cases e : (dget kvs (.tup xs)).isSome with
  | true =>
    rw [e] at tt
    exact (seq_rt ((if_t tt).trans (ret_of eC_eq))).trans rfl
  | false =>
    rw [e] at tt
    rw [seq_if_f tt, hr]
    rfl
theorem is_edit_few {s : Sec} {xs : List D} (h2 : xs.length < 2) (hp : D.plainL xs = true) {kvs : List (D × D)} :
    F_is_edit [dSec s, .tup xs, .ref 0] [.dct kvs] = .ok (.bl false) [.dct kvs] := by
  show fnOf 5 (sSeq _ Re) _ _ = _
  refine fnOf_rt ?_
  show sSeq _ Re (dIe s xs none none) [.dct kvs] = _
  have t1 : tVal (eIsi (eVar 1) [.tuple]) (dIe s xs none none) [.dct kvs] = .ok true [.dct kvs] := by
    refine tval_of ?_
    rw [eIsi_eq, var_of (d := .tup xs) rfl]
    simp only [R.andThen]
    rw [if_pos (show D.plain (look [.dct kvs] (.tup xs)) = true from by rw [look_tup, plain_tup]; exact hp)]
    rfl
  have t2 : tVal (eOp cLt (eB bLenS (aCons (eVar 1) aNil)) (eC (.int 2))) (dIe s xs none none) [.dct kvs] = .ok true [.dct kvs] := by
    refine tval_of (((op_of (f := cLt) (len_tup (var_of (d := .tup xs) rfl) rfl) (eC_eq (d := .int 2))).trans cLt_eq).trans ?_)
    rw [decide_eq_true (show ((xs.length : Int) < 2) by omega)]
  have tt := (tor_f (c2 := tOr (tVal (eOp cLt (eB bLenS (aCons (eVar 1) aNil)) (eC (.int 2)))) (tVal (eOp cInD (eVar 1) (eVar 2)))) (tnot_of t1)).trans (tor_t t2)
  exact (seq_rt ((if_t tt).trans (ret_of eC_eq))).trans rfl
theorem hd_eq {s : Sec} {z w : Str} {ys : List D} {x3 x4 : Option D} {L : Store} : tVal (eOp cEq (eOp oIx (eVar 1) (eC (.int 0))) (eC (.str w))) (dIe s (.str z :: ys) x3 x4) L = .ok (decide (z = w)) L :=
  tval_of ((op_of (f := cEq) ((op_of (f := oIx) (var_of (d := .tup (.str z :: ys)) rfl) (eC_eq (d := .int 0))).trans (by rw [oIx_t, atInt_0])) (eC_eq (d := .str w))).trans cEq_str)
theorem hd_ne {s : Sec} {z w : Str} {ys : List D} {x3 x4 : Option D} {L : Store} : tVal (eOp cNe (eOp oIx (eVar 1) (eC (.int 0))) (eC (.str w))) (dIe s (.str z :: ys) x3 x4) L = .ok (!decide (z = w)) L :=
  tval_of ((op_of (f := cNe) ((op_of (f := oIx) (var_of (d := .tup (.str z :: ys)) rfl) (eC_eq (d := .int 0))).trans (by rw [oIx_t, atInt_0])) (eC_eq (d := .str w))).trans (by
    rw [cNe_pl rfl rfl (.inl (Nat.zero_le _))]
    rw [look_str, look_str, eqv_str]))
theorem ed_add {s : Sec} {x : D} {b : Bool} (hx : x.flat = true) (h : val F_is_word [x] = some (.bl b)) : EdF s [.str "add", x] b := fun L => by
  unfold Re
  have e1 : eOp cEq (eB bLenS (aCons (eVar 1) aNil)) (eC (.int 2)) (dIe s [.str "add", x] none none) L = .ok (.bl true) L :=
    ((op_of (f := cEq) (len_tup (n := 2) (var_of (d := .tup [.str "add", x]) rfl) rfl) (eC_eq (d := .int 2))).trans cEq_int).trans rfl
  have e2 : eCallF 1 F_is_word (aCons (eOp oIx (eVar 1) (eC (.int 1))) aNil) (dIe s [.str "add", x] none none) L = .ok (.bl b) L :=
    call1 h (aCons_ok ((op_of (f := oIx) (var_of (d := .tup [.str "add", x]) rfl) (eC_eq (d := .int 1))).trans (by rw [oIx_t, atInt_1])) (aNil_eq (L := L))) hx
  exact (seq_rt ((if_t (hd_eq.trans (by rw [decide_eq_true rfl]))).trans (ret_of ((eand_t e1).trans e2))))
theorem ed_add3 {s : Sec} {x y : D} : EdF s [.str "add", x, y] false := fun L => by
  unfold Re
  have e1 : eOp cEq (eB bLenS (aCons (eVar 1) aNil)) (eC (.int 2)) (dIe s [.str "add", x, y] none none) L = .ok (.bl false) L :=
    ((op_of (f := cEq) (len_tup (n := 3) (var_of (d := .tup [.str "add", x, y]) rfl) rfl) (eC_eq (d := .int 2))).trans cEq_int).trans rfl
  exact (seq_rt ((if_t (hd_eq.trans (by rw [decide_eq_true rfl]))).trans (ret_of (eand_f e1))))
theorem plain_add : ("plain" : Str) ≠ "add" := by decide
theorem ed_other {s : Sec} {z : Str} {ys : List D} (h1 : z ≠ "add") (h2 : z ≠ "plain") : EdF s (.str z :: ys) false := fun L => by
  unfold Re
  rw [seq_if_f (hd_eq.trans (by rw [decide_eq_false h1]))]
  exact seq_rt ((if_t (tor_t (hd_ne.trans (by rw [decide_eq_false h2]; rfl)))).trans (ret_of eC_eq))
theorem ed_len {s : Sec} {ys : List D} (h : ys.length ≠ 3) : EdF s (.str "plain" :: ys) false := fun L => by
  unfold Re
  rw [seq_if_f (hd_eq.trans (by rw [decide_eq_false plain_add]))]
  have e1 : tVal (eOp cNe (eB bLenS (aCons (eVar 1) aNil)) (eC (.int 4))) (dIe s (.str "plain" :: ys) none none) L = .ok true L := by
    refine tval_of (((op_of (f := cNe) (len_tup (n := ys.length + 1) (var_of (d := .tup (.str "plain" :: ys)) rfl) rfl) (eC_eq (d := .int 4))).trans cNe_int).trans ?_)
    rw [decide_eq_false (show ¬ (((ys.length + 1 : Nat) : Int) = 4) by omega)]
    rfl
  exact seq_rt ((if_t ((tor_f (hd_ne.trans (by rw [decide_eq_true rfl]; rfl))).trans (tor_t e1))).trans (ret_of eC_eq))
theorem len4 {s : Sec} {p n k : D} {x3 x4 : Option D} {L : Store} : tVal (eOp cNe (eB bLenS (aCons (eVar 1) aNil)) (eC (.int 4))) (dIe s [.str "plain", p, n, k] x3 x4) L = .ok false L :=
  tval_of (((op_of (f := cNe) (len_tup (n := 4) (var_of (d := .tup [.str "plain", p, n, k]) rfl) rfl) (eC_eq (d := .int 4))).trans cNe_int).trans rfl)
theorem ix1 {s : Sec} {p n k : D} {x3 x4 : Option D} {L : Store} : eOp oIx (eVar 1) (eC (.int 1)) (dIe s [.str "plain", p, n, k] x3 x4) L = .ok p L :=
  (op_of (f := oIx) (var_of (d := .tup [.str "plain", p, n, k]) rfl) (eC_eq (d := .int 1))).trans (by rw [oIx_t, atInt_1])
theorem ix2 {s : Sec} {p n k : D} {x3 x4 : Option D} {L : Store} : eOp oIx (eVar 1) (eC (.int 2)) (dIe s [.str "plain", p, n, k] x3 x4) L = .ok n L :=
  (op_of (f := oIx) (var_of (d := .tup [.str "plain", p, n, k]) rfl) (eC_eq (d := .int 2))).trans rfl
theorem ix3 {s : Sec} {p n k : D} {x3 x4 : Option D} {L : Store} : eOp oIx (eVar 1) (eC (.int 3)) (dIe s [.str "plain", p, n, k] x3 x4) L = .ok k L :=
  (op_of (f := oIx) (var_of (d := .tup [.str "plain", p, n, k]) rfl) (eC_eq (d := .int 3))).trans rfl
theorem ed_path {s : Sec} {p n k : D} (hp : p.flat = true) (h : val F_is_path [dSec s, p] = some (.bl false)) : EdF s [.str "plain", p, n, k] false := fun L => by
  unfold Re
  rw [seq_if_f (hd_eq.trans (by rw [decide_eq_false plain_add]))]
  have e1 : eCallF 2 F_is_path (aCons (eVar 0) (aCons (eOp oIx (eVar 1) (eC (.int 1))) aNil)) (dIe s [.str "plain", p, n, k] none none) L = .ok (.bl false) L :=
    call2 h (aCons_ok (var_of rfl) (aCons_ok ix1 (aNil_eq (L := L)))) (by rw [flat_dSec, hp]; rfl)
  exact seq_rt ((if_t ((tor_f (hd_ne.trans (by rw [decide_eq_true rfl]; rfl))).trans ((tor_f len4).trans (tnot_of (tval_of e1))))).trans (ret_of eC_eq))
theorem ed_row {s v : Sec} {p : List Nat} {n : Int} {k : Int} (hp : secAt s p = some v) (h : ¬ (0 ≤ n ∧ n < v.rows.length)) : EdF s [.str "plain", dP p, .int n, .int k] false := fun L => by
  unfold Re
  rw [seq_if_f (hd_eq.trans (by rw [decide_eq_false plain_add]))]
  have e1 : eCallF 2 F_is_path (aCons (eVar 0) (aCons (eOp oIx (eVar 1) (eC (.int 1))) aNil)) (dIe s [.str "plain", dP p, .int n, .int k] none none) L = .ok (.bl true) L :=
    call2 (val_is_path hp) (aCons_ok (var_of rfl) (aCons_ok ix1 (aNil_eq (L := L)))) (by simp)
  rw [seq_if_f ((tor_f (hd_ne.trans (by rw [decide_eq_true rfl]; rfl))).trans ((tor_f len4).trans (tnot_of (tval_of e1))))]
  rw [seq_set ((op_of (f := oIx) (call2 (val_section_at hp) (aCons_ok (var_of rfl) (aCons_ok ix1 (aNil_eq (L := L)))) (by simp)) (eC_eq (d := .int 0))).trans sec0)]
  rw [show (dIe s [.str "plain", dP p, .int n, .int k] none none).set 3 (some (.tup (v.rows.map dRw))) = dIe s [.str "plain", dP p, .int n, .int k] (some (.tup (v.rows.map dRw))) none from rfl]
  have n1 := is_num (i := n) (lo := 0) (hi := (v.rows.length : Int) - 1) (δ := dIe s [.str "plain", dP p, .int n, .int k] (some (.tup (v.rows.map dRw))) none) (L := L)
        (aCons_ok ix2 (aCons_ok (eC_eq (d := .int 0)) (aCons_ok ((op_of (f := oSub) (len_tup (var_of (i := 3) rfl) (List.length_map _)) (eC_eq (d := .int 1))).trans oSub_int) (aNil_eq (L := L)))))
  have n2 : (decide ((0 : Int) ≤ n) && decide (n ≤ (v.rows.length : Int) - 1)) = false := by
    rw [Bool.and_eq_false_iff, decide_eq_false_iff_not, decide_eq_false_iff_not]
    omega
  rw [n2] at n1
  exact seq_rt ((if_t (tnot_of (tval_of n1))).trans (ret_of eC_eq))
theorem ed_word {s v : Sec} {p : List Nat} {n : Nat} {r : Rw} {k : Int} {b : Bool} (hp : secAt s p = some v) (hr : v.rows[n]? = some r)
    (h : (0 ≤ k ∧ k < r.ws.length ∧ ∃ w, r.ws[k.toNat]? = some w ∧ val F_is_use [dWd w] = some (.bl b)) ∨ (¬ (0 ≤ k ∧ k < r.ws.length) ∧ b = false)) : EdF s [.str "plain", dP p, .int (n : Int), .int k] b := fun L => by
  unfold Re
  rw [seq_if_f (hd_eq.trans (by rw [decide_eq_false plain_add]))]
  have hlt := (List.getElem?_eq_some_iff.mp hr).1
  have e1 : eCallF 2 F_is_path (aCons (eVar 0) (aCons (eOp oIx (eVar 1) (eC (.int 1))) aNil)) (dIe s [.str "plain", dP p, .int (n : Int), .int k] none none) L = .ok (.bl true) L :=
    call2 (val_is_path hp) (aCons_ok (var_of rfl) (aCons_ok ix1 (aNil_eq (L := L)))) (by simp)
  rw [seq_if_f ((tor_f (hd_ne.trans (by rw [decide_eq_true rfl]; rfl))).trans ((tor_f len4).trans (tnot_of (tval_of e1))))]
  rw [seq_set ((op_of (f := oIx) (call2 (val_section_at hp) (aCons_ok (var_of rfl) (aCons_ok ix1 (aNil_eq (L := L)))) (by simp)) (eC_eq (d := .int 0))).trans sec0)]
  rw [show (dIe s [.str "plain", dP p, .int (n : Int), .int k] none none).set 3 (some (.tup (v.rows.map dRw))) = dIe s [.str "plain", dP p, .int (n : Int), .int k] (some (.tup (v.rows.map dRw))) none from rfl]
  have n1 := is_num (i := (n : Int)) (lo := 0) (hi := (v.rows.length : Int) - 1) (δ := dIe s [.str "plain", dP p, .int (n : Int), .int k] (some (.tup (v.rows.map dRw))) none) (L := L)
        (aCons_ok ix2 (aCons_ok (eC_eq (d := .int 0)) (aCons_ok ((op_of (f := oSub) (len_tup (var_of (i := 3) rfl) (List.length_map _)) (eC_eq (d := .int 1))).trans oSub_int) (aNil_eq (L := L)))))
  have n2 : (decide ((0 : Int) ≤ (n : Int)) && decide ((n : Int) ≤ (v.rows.length : Int) - 1)) = true := by
    rw [Bool.and_eq_true, decide_eq_true_iff, decide_eq_true_iff]
    omega
  rw [n2] at n1
  rw [seq_if_f (tnot_of (tval_of n1))]
  have e4 : eOp oIx (eOp oIx (eVar 3) (eOp oIx (eVar 1) (eC (.int 2)))) (eUn uNeg (eC (.int 1))) (dIe s [.str "plain", dP p, .int (n : Int), .int k] (some (.tup (v.rows.map dRw))) none) L = .ok (dWs r.ws) L :=
    (op_of (f := oIx) ((op_of (f := oIx) (var_of (i := 3) rfl) ix2).trans (oix_nat (d := dRw r) (by rw [List.getElem?_map, hr]; rfl))) (show eUn uNeg (eC (.int 1)) _ _ = .ok (.int (-1)) L from rfl)).trans (last_dRw r)
  rw [seq_set e4]
  rw [show (dIe s [.str "plain", dP p, .int (n : Int), .int k] (some (.tup (v.rows.map dRw))) none).set 4 (some (dWs r.ws)) = dIe s [.str "plain", dP p, .int (n : Int), .int k] (some (.tup (v.rows.map dRw))) (some (dWs r.ws)) from rfl]
  have v4 : eVar 4 (dIe s [.str "plain", dP p, .int (n : Int), .int k] (some (.tup (v.rows.map dRw))) (some (dWs r.ws))) L = .ok (.tup (r.ws.map dWd)) L := var_of rfl
  have m1 := is_num (i := k) (lo := 0) (hi := (r.ws.length : Int) - 1) (δ := dIe s [.str "plain", dP p, .int (n : Int), .int k] (some (.tup (v.rows.map dRw))) (some (dWs r.ws))) (L := L)
        (aCons_ok ix3 (aCons_ok (eC_eq (d := .int 0)) (aCons_ok ((op_of (f := oSub) (len_tup v4 (List.length_map _)) (eC_eq (d := .int 1))).trans oSub_int) (aNil_eq (L := L)))))
  refine ret_of ?_
  rcases h with ⟨h1, h2, w, h3, h4⟩ | ⟨h1, rfl⟩
  · have m2 : (decide ((0 : Int) ≤ k) && decide (k ≤ (r.ws.length : Int) - 1)) = true := by
      rw [Bool.and_eq_true, decide_eq_true_iff, decide_eq_true_iff]
      omega
    rw [m2] at m1
    rw [eand_t m1]
    have hk : k = ((k.toNat : Nat) : Int) := by omega
    refine call1 h4 (aCons_ok ((op_of (f := oIx) v4 ix3).trans ?_) (aNil_eq (L := L))) (flat_dWd w)
    rw [hk]
    exact oix_nat (by rw [List.getElem?_map, h3]; rfl)
  · have m2 : (decide ((0 : Int) ≤ k) && decide (k ≤ (r.ws.length : Int) - 1)) = false := by
      rw [Bool.and_eq_false_iff, decide_eq_false_iff_not, decide_eq_false_iff_not]
      omega
    rw [m2] at m1
    exact eand_f m1
theorem word_int {i : Int} : val F_is_word [.int i] = some (.bl false) := by
  refine val_v (L := []) ?_ (fun k e => by cases e) rfl
  simp [F_is_word, fnOf, eVar, isTy]
theorem word_len {z : Str} (h : z.length = 0 ∨ 8 < z.length) (hl : z.length ≤ 100000) : val F_is_word [.str z] = some (.bl false) := by
  refine val_v (L := []) ?_ (fun k e => by cases e) rfl
  have h3 : z.length ≤ most := most_of hl
  rcases h with h | h
  · have e1 : (decide ((1 : Int) ≤ (z.length : Int))) = false := decide_eq_false (by omega)
    simp [F_is_word, fnOf, eVar, isTy, bLenS, h3, e1]
  · have e1 : (decide ((1 : Int) ≤ (z.length : Int))) = true := decide_eq_true (by omega)
    have e2 : (decide ((z.length : Int) ≤ (8 : Int))) = false := decide_eq_false (by omega)
    simp [F_is_word, fnOf, eVar, isTy, bLenS, h3, e1, e2]
theorem word_A : val F_is_word [.str "A"] = some (.bl false) := by
  refine val_v (L := []) ?_ (fun k e => by cases e) rfl
  have c1 : C1_is_word [some (.str "A"), none] [] = .ok (.lst [.str "A"]) [] := by
    unfold C1_is_word
    refine lcF_eq (p := fun _ => true) (f := id) (xs := [.str "A"]) (by rw [iStr_eq, var_of (d := .str "A") rfl]; rfl) (fun x hx => ?_) (by simp [most]) (by simp) rfl
    rw [List.mem_singleton.mp hx]
    refine ⟨_, rfl, ?_, fun _ => var_of rfl⟩
    exact tval_of (op_of (f := cNotIn) (var_of (d := .str "A") rfl) (eC_eq (d := .str "abcdefghijklmnopqrstuvwxyz")))
  unfold F_is_word
  refine fnOf_rt ?_
  show sSeq _ _ [some (.str "A"), none] [] = _
  have t1 : tVal (eIsi (eVar 0) [.str]) [some (.str "A"), none] [] = .ok true [] := rfl
  have t2 : tVal (eChain cLe cLe (eC (.int 1)) (eB bLenS (aCons (eVar 0) aNil)) (eC (.int 8))) [some (.str "A"), none] [] = .ok true [] := by
    refine tval_of ?_
    have e0 : eB bLenS (aCons (eVar 0) aNil) [some (.str "A"), none] [] = .ok (.int 1) [] := rfl
    rw [eChain_eq, eC_eq]
    show R.andThen (eB bLenS (aCons (eVar 0) aNil) [some (.str "A"), none] []) _ = _
    rw [e0]
    rfl
  rw [seq_if_f ((tor_f (tnot_of t1)).trans (tnot_of t2))]
  refine ret_of ((op_of (f := cEq) c1 (show eLstF aNil _ [] = .ok (.lst []) [] from rfl)).trans ?_)
  exact (cEq_nil (xs := [.str "A"]) rfl rfl).trans rfl
theorem path_far {s : Sec} {k : Int} (h : (s.inner.length : Int) ≤ k) : val F_is_path [dSec s, .tup [.int k]] = some (.bl false) := by
  refine val_v (L := []) ?_ (fun k e => by cases e) rfl
  unfold F_is_path
  refine fnOf_rt ?_
  show sSeq _ _ [some (dSec s), some (.tup [.int k]), none, none] [] = _
  have t1 : eIsi (eVar 1) [.tuple] [some (dSec s), some (.tup [.int k]), none, none] [] = .ok (.bl true) [] := by
    rw [eIsi_eq, var_of (d := .tup [.int k]) rfl]
    rfl
  rw [seq_if_f (tnot_of (tval_of t1)), seq_set (var_of (d := dSec s) rfl)]
  simp only [List.set_cons_succ, List.set_cons_zero]
  have s1 : eOp oIx (eVar 2) (eC (.int 1)) [some (dSec s), some (.tup [.int k]), some (dSec s), some (.int k)] [] = .ok (.tup (s.inner.map dSec)) [] := (op_of (var_of (d := dSec s) rfl) eC_eq).trans sec1
  have n1 := is_num (i := k) (lo := 0) (hi := (s.inner.length : Int) - 1) (δ := [some (dSec s), some (.tup [.int k]), some (dSec s), some (.int k)]) (L := [])
        (aCons_ok (var_of (i := 3) rfl) (aCons_ok (eC_eq (d := .int 0)) (aCons_ok ((op_of (f := oSub) (len_tup s1 (List.length_map _)) (eC_eq (d := .int 1))).trans oSub_int) (aNil_eq (L := [])))))
  have n2 : (decide ((0 : Int) ≤ k) && decide (k ≤ (s.inner.length : Int) - 1)) = false := by
    rw [Bool.and_eq_false_iff, decide_eq_false_iff_not, decide_eq_false_iff_not]
    omega
  rw [n2] at n1
  have f1 : sFor (.nm 3) (iSeq (eVar 1)) B1_is_path [some (dSec s), some (.tup [.int k]), some (dSec s), none] [] = .ok (.rt (.bl false)) [] := by
    rw [sFor_eq, iSeq_eq, var_of (d := .tup [.int k]) rfl]
    show forL (.nm 3) B1_is_path [.int k] _ [] = _
    rw [for_ret (δ1 := [some (dSec s), some (.tup [.int k]), some (dSec s), some (.int k)]) rfl]
    unfold B1_is_path
    exact seq_rt ((if_t (tnot_of (tval_of n1))).trans (ret_of eC_eq))
  exact seq_rt f1
end Df
namespace Df
open PySem (Str)
inductive Ed where
  | pl (u : Us)
  | ad (t : Str)
deriving DecidableEq
def xsE : Ed → List D
  | .pl u => [.str "plain", dP u.1, .int (u.2.1 : Int), .int (u.2.2 : Int)]
  | .ad t => [.str "add", .str t]
def dEd (e : Ed) : D := .tup (xsE e)
theorem flat_xsE : ∀ e : Ed, D.flatL (xsE e) = true
  | .pl u => by simp [xsE]
  | .ad t => rfl
theorem flat_dEd (e : Ed) : (dEd e).flat = true := by rw [dEd, flat_tup]; exact flat_xsE e
theorem plain_xsE : ∀ e : Ed, D.plainL (xsE e) = true
  | .pl u => by simp [xsE]
  | .ad t => rfl
theorem plain_dEd (e : Ed) : (dEd e).plain = true := by rw [dEd, plain_tup]; exact plain_xsE e
theorem two_xsE : ∀ e : Ed, 2 ≤ (xsE e).length
  | .pl u => by simp [xsE]
  | .ad t => by simp [xsE]
theorem keyish_dP (p : List Nat) : keyish (dP p) = true := by rw [dP, keyish]; exact keyish_ints p
theorem keyish_dEd : ∀ e : Ed, keyish (dEd e) = true
  | .pl u => by rw [dEd, xsE, keyish, keyishL, keyishL, keyish_dP]; rfl
  | .ad t => rfl
theorem depth_dEd : ∀ e : Ed, (dEd e).depth ≤ 2
  | .pl u => by
    have := depth_dP u.1
    rw [dEd, xsE, depth_tup, depthL_cons, depthL_cons, depthL_cons, depthL_cons, depthL_nil, depth_str, depth_int, depth_int]
    omega
  | .ad t => by rw [dEd, xsE, depth_tup, depthL_cons, depthL_cons, depthL_nil, depth_str, depth_str]; omega
theorem key_dEd (e : Ed) : isKey (dEd e) = true := by
  unfold isKey
  rw [keyish_dEd, decide_eq_true (show (dEd e).depth ≤ 6 from Nat.le_trans (depth_dEd e) (by decide))]
  rfl
theorem dEd_inj : ∀ {a b : Ed}, dEd a = dEd b → a = b
  | .pl u, .pl v, h => by
    simp only [dEd, xsE, D.tup.injEq, List.cons.injEq, D.int.injEq, and_true, true_and] at h
    have h1 := dP_inj h.1
    have h2 : u.2.1 = v.2.1 := by omega
    have h3 : u.2.2 = v.2.2 := by omega
    rw [Prod.ext h1 (Prod.ext h2 h3)]
  | .ad t, .ad z, h => by
    simp only [dEd, xsE, D.tup.injEq, List.cons.injEq, D.str.injEq, and_true, true_and] at h
    rw [h]
  | .pl u, .ad z, h => by simp [dEd, xsE] at h
  | .ad t, .pl v, h => by simp [dEd, xsE] at h
theorem eqv_dEd (a b : Ed) : D.eqv (dEd a) (dEd b) = decide (a = b) := by
  rw [key_eqv (key_dEd a) (key_dEd b)]
  by_cases h : a = b
  · rw [h, decide_eq_true rfl, decide_eq_true rfl]
  · rw [decide_eq_false h, decide_eq_false fun e => h (dEd_inj e)]
def OkE (s : Sec) : Ed → Prop
  | .pl u => ∃ t, (u, t) ∈ uses s
  | .ad t => GoodS t
def adE : Ed → List Str
  | .pl _ => []
  | .ad t => [t]
def plE (r : Sec) : Ed → Sec
  | .pl u => plS r u
  | .ad _ => r
def addsE (es : List Ed) : List Str := es.flatMap adE
def plAll (r : Sec) (es : List Ed) : Sec := es.foldl plE r
def dAd (t : Str) : D := dRw (.df t [])
def kvE (es : List Ed) : List (D × D) := es.map fun e => (dEd e, .bl true)
theorem get_kvE (e : Ed) : ∀ es : List Ed, (dget (kvE es) (dEd e)).isSome = decide (e ∈ es)
  | [] => rfl
  | a :: es => by
    show (if D.eqv (dEd a) (dEd e) = true then some (D.bl true) else dget (kvE es) (dEd e)).isSome = _
    rw [eqv_dEd]
    by_cases h : a = e
    · subst h
      simp
    · have h' : ¬ e = a := fun z => h z.symm
      rw [if_neg (by simpa using h), get_kvE e es]
      simp [h']
theorem put_kvE {e : Ed} {es : List Ed} (h : e ∉ es) : dput (kvE es) (dEd e) (.bl true) = kvE (es ++ [e]) := by
  rw [put_new fun p hp => ?_]
  · unfold kvE; rw [List.map_append]; rfl
  · obtain ⟨a, ha, rfl⟩ := List.mem_map.mp hp
    show D.eqv (dEd a) (dEd e) = false
    rw [eqv_dEd]
    exact decide_eq_false fun z => h (z ▸ ha)
theorem ok_edit {s : Sec} (hs : GoodSec 2 s) : ∀ {e : Ed}, OkE s e → EdF s (xsE e) true
  | .pl u, h => by
    obtain ⟨t, ht⟩ := h
    obtain ⟨v, r, h1, h2, h3, h4, h5, h6⟩ := use_at hs ht
    have hk := (List.getElem?_eq_some_iff.mp h3).1
    exact ed_word h1 h2 (.inl ⟨by omega, by omega, .u t, by rw [Int.toNat_natCast]; exact h3, val_is_use (h5.wsG _ (List.mem_of_getElem? h3))⟩)
  | .ad t, h => ed_add rfl (val_is_word h)
section
variable {s : Sec}
def dMe (s : Sec) (y : D) (A : List Str) (r : Sec) (x5 x6 : Option D) : Sl := [some (dSec s), some y, some (.ref 0), some (.tup (A.map dAd)), some (dSec r), x5, x6]
theorem hd6 {y : D} {A : List Str} {r : Sec} {x5 : Option D} {e : Ed} {L : Store} : tVal (eOp cEq (eOp oIx (eVar 6) (eC (.int 0))) (eC (.str "add"))) (dMe s y A r x5 (some (dEd e))) L = .ok (match e with | .ad _ => true | .pl _ => false) L := by
  cases e with
  | pl u => exact tval_of (((op_of (f := cEq) ((op_of (f := oIx) (var_of (d := dEd (.pl u)) rfl) (eC_eq (d := .int 0))).trans (by rw [dEd, xsE, oIx_t, atInt_0])) (eC_eq (d := .str "add"))).trans cEq_str).trans (by rw [decide_eq_false plain_add]))
  | ad t => exact tval_of (((op_of (f := cEq) ((op_of (f := oIx) (var_of (d := dEd (.ad t)) rfl) (eC_eq (d := .int 0))).trans (by rw [dEd, xsE, oIx_t, atInt_0])) (eC_eq (d := .str "add"))).trans cEq_str).trans (by rw [decide_eq_true rfl]))
theorem full_run {y : D} {A : List Str} {r : Sec} {x5 x6 : Option D} {L : Store} : tVal (eOp cEq (eOp oAdd (eB bLenS (aCons (eOp oIx (eVar 0) (eC (.int 0))) aNil)) (eB bLenS (aCons (eVar 3) aNil))) (eC (.int 12))) (dMe s y A r x5 x6) L = .ok (decide (s.rows.length + A.length = 12)) L := by
  refine tval_of (((op_of (f := cEq) ((op_of (f := oAdd) (len_tup ((op_of (f := oIx) (var_of (d := dSec s) rfl) (eC_eq (d := .int 0))).trans sec0) (List.length_map _)) (len_tup (var_of (d := .tup (A.map dAd)) rfl) (List.length_map _))).trans oAdd_int) (eC_eq (d := .int 12))).trans cEq_int).trans ?_)
  congr 2
  rw [decide_eq_decide]
  omega
theorem edit_run {y d : D} {A : List Str} {r : Sec} {x5 : Option D} {kvs : List (D × D)} {b : Bool} (h : F_is_edit [dSec s, d, .ref 0] [.dct kvs] = .ok (.bl b) [.dct kvs]) :
    tNot (tVal (eNE (eCallA 3 F_is_edit (aCons (eVar 0) (aCons (eVar 6) (aCons (eVar 2) aNil)))))) (dMe s y A r x5 (some d)) [.dct kvs] = .ok (!b) [.dct kvs] := by
  refine tnot_of (tval_of ?_)
  unfold eNE eCallA
  rw [aCons_ok (var_of (d := dSec s) rfl) (aCons_ok (var_of (d := d) rfl) (aCons_ok (var_of (d := .ref 0) rfl) (aNil_eq (L := [.dct kvs]))))]
  simp only [R.andThen]
  rw [if_pos (show [dSec s, d, D.ref 0].length = 3 from rfl), h]
  rfl
theorem b1_mended (hs : GoodSec 2 s) {r : Sec} (hr : GoodSec 2 r) {y : D} {A : List Str} {done : List Ed} {e : Ed} (he : OkE s e) (hu : ∀ u, e = .pl u → ∃ t, (u, t) ∈ uses r) (hd : e ∉ done) (hA : s.rows.length + A.length + (adE e).length ≤ 12) (hl : done.length ≤ 100000) {x5 : Option D} :
    B1_mended (dMe s y A r x5 (some (dEd e))) [.dct (kvE done)] = .ok (.nx (dMe s y (A ++ adE e) (plE r e) x5 (some (dEd e)))) [.dct (kvE (done ++ [e]))] := by
  unfold B1_mended
  have ie := is_edit_run (s := s) (xs := xsE e) (two_xsE e) (plain_xsE e) (key_dEd e) (ok_edit hs he) (kvs := kvE done)
  have hg : (dget (kvE done) (.tup (xsE e))).isSome = false := (get_kvE e done).trans (decide_eq_false hd)
  rw [hg] at ie
  have tt : tOr (tNot (tVal (eNE (eCallA 3 F_is_edit (aCons (eVar 0) (aCons (eVar 6) (aCons (eVar 2) aNil))))))) (tAnd (tVal (eOp cEq (eOp oIx (eVar 6) (eC (.int 0))) (eC (.str "add")))) (tVal (eOp cEq (eOp oAdd (eB bLenS (aCons (eOp oIx (eVar 0) (eC (.int 0))) aNil)) (eB bLenS (aCons (eVar 3) aNil))) (eC (.int 12))))) (dMe s y A r x5 (some (dEd e))) [.dct (kvE done)] = .ok false [.dct (kvE done)] := by
    refine (tor_f (edit_run (d := dEd e) (b := true) ie)).trans ?_
    cases e with
    | pl u => exact tand_f hd6
    | ad t =>
      refine (tand_t hd6).trans (full_run.trans ?_)
      have : ¬ (s.rows.length + A.length = 12) := by
        simp only [adE, List.length_singleton] at hA
        omega
      rw [decide_eq_false this]
  rw [seq_if_f tt]
  have sp : sPut pDct (eVar 2) (eVar 6) (eC (.bl true)) (dMe s y A r x5 (some (dEd e))) [.dct (kvE done)] = .ok (.nx (dMe s y A r x5 (some (dEd e)))) [.dct (kvE (done ++ [e]))] := by
    have hk : (isKey (dEd e) && decide ((kvE done).length < most)) = true := by
      rw [key_dEd, decide_eq_true (show (kvE done).length < most from by unfold kvE; rw [List.length_map]; exact Nat.lt_of_le_of_lt hl (by decide))]
      rfl
    have v2 : eVar 2 (dMe s y A r x5 (some (dEd e))) [.dct (kvE done)] = .ok (.ref 0) [.dct (kvE done)] := rfl
    have v6 : eVar 6 (dMe s y A r x5 (some (dEd e))) [.dct (kvE done)] = .ok (dEd e) [.dct (kvE done)] := rfl
    rw [sPut_eq, eC_eq]
    simp only [R.andThen, v2, v6]
    simp only [pDct, List.getElem?_cons_zero, hk, if_true, put_kvE hd]
    rfl
  rw [seq_nx sp]
  cases e with
  | ad t =>
    rw [if_t hd6]
    have e3 : eOp oAdd (eVar 3) (eTup (aCons (eTup (aCons (eC (.str "def")) (aCons (eOp oIx (eVar 6) (eC (.int 1))) (aCons (eTup aNil) aNil)))) aNil)) (dMe s y A r x5 (some (dEd (.ad t)))) [.dct (kvE (done ++ [.ad t]))] = .ok (.tup ((A ++ [t]).map dAd)) [.dct (kvE (done ++ [.ad t]))] := by
      have i1 : eOp oIx (eVar 6) (eC (.int 1)) (dMe s y A r x5 (some (dEd (.ad t)))) [.dct (kvE (done ++ [.ad t]))] = .ok (.str t) [.dct (kvE (done ++ [.ad t]))] := (op_of (f := oIx) (var_of (d := dEd (.ad t)) rfl) (eC_eq (d := .int 1))).trans (by rw [dEd, xsE, oIx_t, atInt_1])
      have hA' : A.length ≤ 12 := by omega
      refine (op_of (f := oAdd) (var_of (d := .tup (A.map dAd)) rfl) (tup_of (aCons_ok (tup_of (aCons_ok (eC_eq (d := .str "def")) (aCons_ok i1 (aCons_ok etup0 (aNil_eq (L := [.dct (kvE (done ++ [.ad t]))]))))) (by simp)) (aNil_eq (L := [.dct (kvE (done ++ [.ad t]))]))) (by simp))).trans ((oadd_tup (by simp; omega)).trans ?_)
      rw [List.map_append]
      rfl
    exact (set_of e3).trans rfl
  | pl u =>
    rw [if_f hd6]
    obtain ⟨t, ht⟩ := hu u rfl
    have e6 : eSlice (eVar 6) (.at (eC (.int 1))) .no (dMe s y A r x5 (some (dEd (.pl u)))) [.dct (kvE (done ++ [.pl u]))] = .ok (dU u) [.dct (kvE (done ++ [.pl u]))] :=
      slice_lo (xs := xsE (.pl u)) (m := 1) (var_of rfl) (eC_eq (d := .int 1)) (by decide)
    have e4 : eNE (eCallF 2 F_plain (aCons (eVar 4) (aCons (eSlice (eVar 6) (.at (eC (.int 1))) .no) aNil))) (dMe s y A r x5 (some (dEd (.pl u)))) [.dct (kvE (done ++ [.pl u]))] = .ok (dSec (plS r u)) [.dct (kvE (done ++ [.pl u]))] := by
      unfold eNE
      rw [call2 (val_plain hr ht) (aCons_ok (var_of rfl) (aCons_ok e6 (aNil_eq (L := [.dct (kvE (done ++ [.pl u]))])))) (by simp)]
      rfl
    refine (set_of e4).trans ?_
    rw [show A ++ adE (.pl u) = A from List.append_nil A]
    rfl
theorem addsE_cons (e : Ed) (es : List Ed) : addsE (e :: es) = adE e ++ addsE es := rfl
theorem run_mended (hs : GoodSec 2 s) {y : D} {rest : List D} : ∀ (es done : List Ed) (A : List Str) (r : Sec) (k : Nat) (x5 x6 : Option D), GoodSec 2 r → (∀ e ∈ es, OkE s e) → (∀ u, Ed.pl u ∈ es → ∃ t, (u, t) ∈ uses r) → (done ++ es).Nodup → s.rows.length + A.length + (addsE es).length ≤ 12 → (done ++ es).length ≤ 100000 →
    ∃ x5' x6', forL (.tp [5, 6]) B1_mended (number k (es.map dEd ++ rest)) (dMe s y A r x5 x6) [.dct (kvE done)] = forL (.tp [5, 6]) B1_mended (number (k + es.length) rest) (dMe s y (A ++ addsE es) (plAll r es) x5' x6') [.dct (kvE (done ++ es))] ∧ GoodSec 2 (plAll r es) ∧ (plAll r es).rows.length = r.rows.length
  | [], done, A, r, k, x5, x6, hr, _, _, _, _, _ => ⟨x5, x6, by simp [addsE, plAll], hr, rfl⟩
  | e :: es, done, A, r, k, x5, x6, hr, ho, hu, hn, hA, hl => by
    rw [addsE_cons, List.length_append] at hA
    have hd : e ∉ done := fun z => (List.nodup_append.mp hn).2.2 e z e List.mem_cons_self rfl
    have hne : ∀ x ∈ es, x ≠ e := fun x hx z => by
      have := (List.nodup_cons.mp (List.nodup_append.mp hn).2.1).1
      exact this (z ▸ hx)
    have hb := b1_mended hs hr (y := y) (A := A) (ho e List.mem_cons_self) (fun u hu' => hu u (hu' ▸ List.mem_cons_self)) hd (by omega) (by rw [List.length_append] at hl; omega) (x5 := some (.int (k : Int)))
    have hr' : GoodSec 2 (plE r e) ∧ (plE r e).rows.length = r.rows.length ∧ ∀ u, Ed.pl u ∈ es → ∃ t, (u, t) ∈ uses (plE r e) := by
      cases e with
      | ad t => exact ⟨hr, rfl, fun u h => hu u (List.mem_cons_of_mem _ h)⟩
      | pl v =>
        obtain ⟨tv, htv⟩ := hu v List.mem_cons_self
        refine ⟨plS_good hr htv, plS_rows hr htv, fun u h => ?_⟩
        obtain ⟨t, ht⟩ := hu u (List.mem_cons_of_mem _ h)
        exact ⟨t, plS_keep hr htv ht fun z => hne _ h (by rw [z])⟩
    obtain ⟨a5, a6, h1, h2, h3⟩ := run_mended hs (y := y) (rest := rest) es (done ++ [e]) (A ++ adE e) (plE r e) (k + 1) (some (.int (k : Int))) (some (dEd e)) hr'.1 (fun x hx => ho x (List.mem_cons_of_mem _ hx)) hr'.2.2 (by simpa using hn) (by rw [List.length_append]; omega) (by simpa using hl)
    refine ⟨a5, a6, ?_, h2, h3.trans hr'.2.1⟩
    rw [List.map_cons, List.cons_append, number, for_cons (δ1 := dMe s y A r (some (.int (k : Int))) (some (dEd e))) rfl hb, h1]
    rw [List.append_assoc, List.append_assoc, List.length_cons, show k + 1 + es.length = k + (es.length + 1) by omega]
    rfl
def edS (s : Sec) (es : List Ed) : Sec := .mk ((addsE es).map (fun t => Rw.df t []) ++ (plAll s es).rows) (plAll s es).inner
structure Valid (s : Sec) (es : List Ed) : Prop where
  ok : ∀ e ∈ es, OkE s e
  nd : es.Nodup
  few : s.rows.length + (addsE es).length ≤ 12
  len : es.length ≤ 50000
theorem addsE_good {es : List Ed} (h : ∀ e ∈ es, OkE s e) : ∀ t ∈ addsE es, GoodS t := fun t ht => by
  unfold addsE at ht
  obtain ⟨e, he, h2⟩ := List.mem_flatMap.mp ht
  cases e with
  | pl u => exact nomatch h2
  | ad z => rw [List.mem_singleton.mp h2]; exact h _ he
theorem start_mended (hs : GoodSec 2 s) {y : D} {ds : List D} (hy : y = .lst ds) {v : Sv} : 
    sSeq (sExpr (eNE (eCallF 1 F_need_paper (aCons (eVar 0) aNil)))) (sSeq (sSet (.nm 2) eDct0) (sSeq (sSet (.nm 3) (eTup aNil)) (sSeq (sSet (.nm 4) (eVar 0)) (sSeq (sFor (.tp [5, 6]) (iEnum (eVar 1)) B1_mended) v)))) [some (dSec s), some y, none, none, none, none, none] [] =
      sSeq (fun δ L => forL (.tp [5, 6]) B1_mended (number 0 ds) δ L) v (dMe s y [] s none none) [.dct (kvE [])] := by
  have e0 : eNE (eCallF 1 F_need_paper (aCons (eVar 0) aNil)) [some (dSec s), some y, none, none, none, none, none] [] = .ok .non [] := by
    unfold eNE
    rw [call1 (val_need_paper hs) (aCons_ok (var_of rfl) (aNil_eq (L := []))) (by simp)]
    rfl
  rw [seq_expr e0, seq_set (show eDct0 _ [] = .ok (.ref 0) [.dct []] from rfl), seq_set (etup0), seq_set (var_of (d := dSec s) rfl)]
  show sSeq (sFor (.tp [5, 6]) (iEnum (eVar 1)) B1_mended) v (dMe s y [] s none none) [.dct (kvE [])] = _
  rw [sSeq_eq, sSeq_eq, sFor_eq, iEnum_eq, var_of (i := 1) (d := y) rfl, hy]
  rfl
theorem val_mended (hs : GoodSec 2 s) {es : List Ed} (h : Valid s es) : val F_mended [dSec s, .lst (es.map dEd)] = some (dSec (edS s es)) := by
  refine val_v (L := [.dct (kvE es)]) ?_ (fun k z => by rw [dSec_eq] at z; cases z) (by simp)
  unfold F_mended
  refine fnOf_rt ?_
  show sSeq _ _ [some (dSec s), some (.lst (es.map dEd)), none, none, none, none, none] [] = _
  rw [start_mended hs rfl]
  obtain ⟨x5, x6, h1, h2, h3⟩ := run_mended hs (y := .lst (es.map dEd)) (rest := []) es [] [] s 0 none none hs h.ok (fun u hu => h.ok _ hu) (by simpa using h.nd) (by simpa using h.few) (by have := h.len; simp; omega)
  rw [List.append_nil] at h1
  have hf : forL (.tp [5, 6]) B1_mended (number 0 (es.map dEd)) (dMe s (.lst (es.map dEd)) [] s none none) [.dct (kvE [])] = .ok (.nx (dMe s (.lst (es.map dEd)) (addsE es) (plAll s es) x5 x6)) [.dct (kvE es)] := h1
  rw [seq_nx hf]
  refine ret_of ?_
  have e3 : eVar 3 (dMe s (.lst (es.map dEd)) (addsE es) (plAll s es) x5 x6) [.dct (kvE es)] = .ok (.tup ((addsE es).map dAd)) [.dct (kvE es)] := var_of rfl
  have e4 : eVar 4 (dMe s (.lst (es.map dEd)) (addsE es) (plAll s es) x5 x6) [.dct (kvE es)] = .ok (dSec (plAll s es)) [.dct (kvE es)] := var_of rfl
  have h12 := h2.rows12
  have hf := h.few
  refine (tup_of (aCons_ok ((op_of (f := oAdd) e3 ((op_of (f := oIx) e4 (eC_eq (d := .int 0))).trans sec0)).trans (oadd_tup (by simp; omega))) (aCons_ok ((op_of (f := oIx) e4 (eC_eq (d := .int 1))).trans sec1) (aNil_eq (L := [.dct (kvE es)])))) (by simp)).trans ?_
  rw [dSec_eq (edS s es)]
  show R.ok (D.tup [D.tup ((addsE es).map dAd ++ (plAll s es).rows.map dRw), _]) _ = R.ok (D.tup [D.tup (((addsE es).map (fun t => Rw.df t []) ++ (plAll s es).rows).map dRw), _]) _
  rw [List.map_append, List.map_map]
  rfl
theorem edS_good (hs : GoodSec 2 s) {es : List Ed} (h : Valid s es) : GoodSec 2 (edS s es) := by
  obtain ⟨x5, x6, h1, h2, h3⟩ := run_mended hs (y := .non) (rest := []) es [] [] s 0 none none hs h.ok (fun u hu => h.ok _ hu) (by simpa using h.nd) (by simpa using h.few) (by have := h.len; simp; omega)
  have hf := h.few
  refine good_mk (by rw [List.length_append, List.length_map, h3]; omega) (fun x hx => ?_) h2.inner3 (fun z => nomatch z) (fun m hm => ?_)
  · rcases List.mem_append.mp hx with hx | hx
    · obtain ⟨t, ht, rfl⟩ := List.mem_map.mp hx
      exact ⟨addsE_good h.ok t ht, ⟨Nat.zero_le _, fun w hw => nomatch hw⟩⟩
    · exact h2.rowsG x hx
  · cases hm
    exact fun t ht => h2.sub t ht
theorem fnOf_errE {n : Nat} {b : Sv} {ds : List D} {L L' : Store} {x : XD} (h : b (ds.map some ++ List.replicate (n - ds.length) none) L = .err x L') : fnOf n b ds L = .err x L' := by
  unfold fnOf; rw [h]
theorem mended_bad (hs : GoodSec 2 s) {es : List Ed} (h : Valid s es) {d : D} {rest : List D}
    (hd : (∃ xs, d = .tup xs ∧ F_is_edit [dSec s, d, .ref 0] [.dct (kvE es)] = .ok (.bl false) [.dct (kvE es)]) ∨ (∃ t, d = dEd (.ad t) ∧ GoodS t ∧ Ed.ad t ∉ es ∧ s.rows.length + (addsE es).length = 12)) :
    F_mended [dSec s, .lst (es.map dEd ++ d :: rest)] [] = .err ⟨"BadEdit", .int (es.length : Int)⟩ [.dct (kvE es)] := by
  unfold F_mended
  refine fnOf_errE ?_
  show sSeq _ _ [some (dSec s), some (.lst (es.map dEd ++ d :: rest)), none, none, none, none, none] [] = _
  rw [start_mended hs rfl]
  obtain ⟨x5, x6, h1, h2, h3⟩ := run_mended hs (y := .lst (es.map dEd ++ d :: rest)) (rest := d :: rest) es [] [] s 0 none none hs h.ok (fun u hu => h.ok _ hu) (by simpa using h.nd) (by simpa using h.few) (by have := h.len; simp; omega)
  have hl := h.len
  have tt : tOr (tNot (tVal (eNE (eCallA 3 F_is_edit (aCons (eVar 0) (aCons (eVar 6) (aCons (eVar 2) aNil))))))) (tAnd (tVal (eOp cEq (eOp oIx (eVar 6) (eC (.int 0))) (eC (.str "add")))) (tVal (eOp cEq (eOp oAdd (eB bLenS (aCons (eOp oIx (eVar 0) (eC (.int 0))) aNil)) (eB bLenS (aCons (eVar 3) aNil))) (eC (.int 12))))) (dMe s (.lst (es.map dEd ++ d :: rest)) (addsE es) (plAll s es) (some (.int (es.length : Int))) (some d)) [.dct (kvE es)] = .ok true [.dct (kvE es)] := by
    rcases hd with ⟨xs, rfl, he⟩ | ⟨t, rfl, ht, hn, hf⟩
    · exact tor_t (edit_run he)
    · have ie := is_edit_run (s := s) (xs := xsE (.ad t)) (two_xsE _) (plain_xsE _) (key_dEd (.ad t)) (ok_edit (e := .ad t) hs ht) (kvs := kvE es)
      have hg : (dget (kvE es) (.tup (xsE (.ad t)))).isSome = false := (get_kvE (.ad t) es).trans (decide_eq_false hn)
      rw [hg] at ie
      refine (tor_f (edit_run (d := dEd (.ad t)) (b := true) ie)).trans ((tand_t hd6).trans (full_run.trans ?_))
      rw [decide_eq_true hf]
  have hb : B1_mended (dMe s (.lst (es.map dEd ++ d :: rest)) (addsE es) (plAll s es) (some (.int (es.length : Int))) (some d)) [.dct (kvE es)] = .err ⟨"BadEdit", .int (es.length : Int)⟩ [.dct (kvE es)] := by
    unfold B1_mended
    rw [sSeq_eq, if_t tt]
    have : sRaise1 "BadEdit" (eVar 5) (dMe s (.lst (es.map dEd ++ d :: rest)) (addsE es) (plAll s es) (some (.int (es.length : Int))) (some d)) [.dct (kvE es)] = .err ⟨"BadEdit", .int (es.length : Int)⟩ [.dct (kvE es)] := by
      unfold sRaise1
      rw [var_of (d := .int (es.length : Int)) rfl]
      simp only [R.noErr, R.andThen]
      rw [if_pos]
      rw [Int.natAbs_natCast]
      rcases Nat.eq_zero_or_pos es.length with z | z
      · rw [z]; decide
      · exact Nat.lt_of_lt_of_le ((Nat.log2_lt (by omega)).mpr (show es.length < 2 ^ 16 by omega)) (by decide)
    rw [this]
    rfl
  have hf : forL (.tp [5, 6]) B1_mended (number 0 (es.map dEd ++ d :: rest)) (dMe s (.lst (es.map dEd ++ d :: rest)) [] s none none) [.dct (kvE [])] = .err ⟨"BadEdit", .int (es.length : Int)⟩ [.dct (kvE es)] := by
    rw [h1, number, forL]
    rw [show (0 + es.length) = es.length by omega]
    show R.andThen (B1_mended (dMe s (.lst (es.map dEd ++ d :: rest)) (addsE es) (plAll s es) (some (.int (es.length : Int))) (some d)) [.dct (kvE es)]) _ = _
    rw [hb]
    rfl
  rw [sSeq_eq]
  show R.andThen (forL (.tp [5, 6]) B1_mended _ _ _) _ = _
  rw [hf]
  rfl
end
end Df
namespace Df
open PySem (Str)
section
variable {s : Sec}
def dEe (s : Sec) (y : D) (r : Sec) (x3 x4 x5 x6 x7 x8 x9 x10 : Option D) : Sl := [some (dSec s), some y, some (dSec r), x3, x4, x5, x6, x7, x8, x9, x10]
theorem hd3 {y : D} {r : Sec} {x4 x5 x6 x7 x8 x9 x10 : Option D} {e : Ed} {z : Str} {L : Store} (hz : z = "plain" ∨ z = "add") : tVal (eOp cEq (eOp oIx (eVar 3) (eC (.int 0))) (eC (.str z))) (dEe s y r (some (dEd e)) x4 x5 x6 x7 x8 x9 x10) L = .ok (match e with | .ad _ => decide (z = "add") | .pl _ => decide (z = "plain")) L := by
  cases e with
  | pl u => 
    refine tval_of (((op_of (f := cEq) ((op_of (f := oIx) (var_of (d := dEd (.pl u)) rfl) (eC_eq (d := .int 0))).trans (by rw [dEd, xsE, oIx_t, atInt_0])) (eC_eq (d := .str z))).trans cEq_str).trans ?_)
    rcases hz with rfl | rfl <;> rfl
  | ad t =>
    refine tval_of (((op_of (f := cEq) ((op_of (f := oIx) (var_of (d := dEd (.ad t)) rfl) (eC_eq (d := .int 0))).trans (by rw [dEd, xsE, oIx_t, atInt_0])) (eC_eq (d := .str z))).trans cEq_str).trans ?_)
    rcases hz with rfl | rfl <;> rfl
theorem b1_edited {r : Sec} (hr : GoodSec 2 r) {y : D} {e : Ed} (hu : ∀ u, e = .pl u → ∃ t, (u, t) ∈ uses r) {x4 x5 x6 x7 x8 x9 x10 : Option D} {L : Store} : ∃ y4 y5 y6 y7 y8 y9,
    B1__law_edited (dEe s y r (some (dEd e)) x4 x5 x6 x7 x8 x9 x10) L = .ok (.nx (dEe s y (plE r e) (some (dEd e)) y4 y5 y6 y7 y8 y9 x10)) L := by
  unfold B1__law_edited
  cases e with
  | ad t =>
    refine ⟨x4, x5, x6, x7, x8, x9, ?_⟩
    rw [if_f (hd3 (e := .ad t) (.inl rfl))]
    rfl
  | pl u =>
    obtain ⟨t, ht⟩ := hu u rfl
    obtain ⟨v, w, h1, h2, h3, h4, h5, h6⟩ := use_at hr ht
    have hlt := (List.getElem?_eq_some_iff.mp h2).1
    refine ⟨some (dP u.1), some (.int (u.2.1 : Int)), some (.int (u.2.2 : Int)), some (.tup (v.rows.map dRw)), some (dWs w.ws), some (dRw (plR w u.2.2 t)), ?_⟩
    rw [if_t (hd3 (e := .pl u) (.inl rfl))]
    have e6 : eSlice (eVar 3) (.at (eC (.int 1))) .no (dEe s y r (some (dEd (.pl u))) x4 x5 x6 x7 x8 x9 x10) L = .ok (dU u) L :=
      slice_lo (xs := xsE (.pl u)) (m := 1) (var_of rfl) (eC_eq (d := .int 1)) (by decide)
    have e0 : sSet (.tp [4, 5, 6]) (eSlice (eVar 3) (.at (eC (.int 1))) .no) (dEe s y r (some (dEd (.pl u))) x4 x5 x6 x7 x8 x9 x10) L = .ok (.nx (dEe s y r (some (dEd (.pl u))) (some (dP u.1)) (some (.int (u.2.1 : Int))) (some (.int (u.2.2 : Int))) x7 x8 x9 x10)) L := by
      rw [sSet_eq, e6]
      rfl
    rw [seq_nx e0]
    rw [seq_set ((op_of (f := oIx) (call2 (val_at 11 u.1 r v h1 (by omega) (by omega)) (aCons_ok (var_of rfl) (aCons_ok (var_of rfl) (aNil_eq (L := L)))) (by simp)) (eC_eq (d := .int 0))).trans sec0)]
    show ((sSeq _ _) : Sv) (dEe s y r (some (dEd (.pl u))) (some (dP u.1)) (some (.int (u.2.1 : Int))) (some (.int (u.2.2 : Int))) (some (.tup (v.rows.map dRw))) x8 x9 x10) L = _
    have e8 : eOp oIx (eOp oIx (eVar 7) (eVar 5)) (eUn uNeg (eC (.int 1))) (dEe s y r (some (dEd (.pl u))) (some (dP u.1)) (some (.int (u.2.1 : Int))) (some (.int (u.2.2 : Int))) (some (.tup (v.rows.map dRw))) x8 x9 x10) L = .ok (dWs w.ws) L :=
      (op_of (f := oIx) ((op_of (f := oIx) (var_of rfl) (var_of rfl)).trans (oix_nat (d := dRw w) (by rw [List.getElem?_map, h2]; rfl))) (show eUn uNeg (eC (.int 1)) _ _ = .ok (.int (-1)) L from rfl)).trans (last_dRw w)
    rw [seq_set e8]
    show ((sSeq _ _) : Sv) (dEe s y r (some (dEd (.pl u))) (some (dP u.1)) (some (.int (u.2.1 : Int))) (some (.int (u.2.2 : Int))) (some (.tup (v.rows.map dRw))) (some (dWs w.ws)) x9 x10) L = _
    rw [seq_set (row_run (i := 7) (j := 5) (rows := v.rows) (n := u.2.1) rfl rfl h2 (ws_run (a := 8) (b := 6) (ws := w.ws) (k := u.2.2) rfl rfl h3 (by have := h5.ws8; omega)))]
    show (sSet _ _ : Sv) (dEe s y r (some (dEd (.pl u))) (some (dP u.1)) (some (.int (u.2.1 : Int))) (some (.int (u.2.2 : Int))) (some (.tup (v.rows.map dRw))) (some (dWs w.ws)) (some (dRw (plR w u.2.2 t))) x10) L = _
    have e2 := call3 (val_law_with 11 u.1 2 r v (v.rows.set u.2.1 (plR w u.2.2 t)) hr h1 (by omega) (by omega)) (δ := dEe s y r (some (dEd (.pl u))) (some (dP u.1)) (some (.int (u.2.1 : Int))) (some (.int (u.2.2 : Int))) (some (.tup (v.rows.map dRw))) (some (dWs w.ws)) (some (dRw (plR w u.2.2 t))) x10) (L := L)
      (aCons_ok (var_of (i := 2) rfl) (aCons_ok (var_of (i := 4) rfl) (aCons_ok (rows_run (i := 7) (j := 5) (k := 9) (rows := v.rows) (n := u.2.1) (r := plR w u.2.2 t) rfl rfl rfl hlt (by omega)) (aNil_eq (L := L))))) (by
        rw [flat_dSec, flat_dP, flat_tup, flat_map flat_dRw]; rfl)
    rw [set_of e2, ← plS_eq hr h1 h2 h3]
    rfl
theorem run_edited {y : D} {L : Store} {x10 : Option D} : ∀ (es : List Ed) (r : Sec) (x3 x4 x5 x6 x7 x8 x9 : Option D), GoodSec 2 r → (∀ u, Ed.pl u ∈ es → ∃ t, (u, t) ∈ uses r) → es.Nodup →
    ∃ y3 y4 y5 y6 y7 y8 y9, forL (.nm 3) B1__law_edited (es.map dEd) (dEe s y r x3 x4 x5 x6 x7 x8 x9 x10) L = .ok (.nx (dEe s y (plAll r es) y3 y4 y5 y6 y7 y8 y9 x10)) L
  | [], r, x3, x4, x5, x6, x7, x8, x9, hr, _, _ => ⟨x3, x4, x5, x6, x7, x8, x9, rfl⟩
  | e :: es, r, x3, x4, x5, x6, x7, x8, x9, hr, hu, hn => by
    obtain ⟨y4, y5, y6, y7, y8, y9, hb⟩ := b1_edited (s := s) hr (y := y) (e := e) (fun u h => hu u (h ▸ List.mem_cons_self)) (x4 := x4) (x5 := x5) (x6 := x6) (x7 := x7) (x8 := x8) (x9 := x9) (x10 := x10) (L := L)
    have hne : ∀ x ∈ es, x ≠ e := fun x hx z => (List.nodup_cons.mp hn).1 (z ▸ hx)
    have hr' : GoodSec 2 (plE r e) ∧ ∀ u, Ed.pl u ∈ es → ∃ t, (u, t) ∈ uses (plE r e) := by
      cases e with
      | ad t => exact ⟨hr, fun u h => hu u (List.mem_cons_of_mem _ h)⟩
      | pl v =>
        obtain ⟨tv, htv⟩ := hu v List.mem_cons_self
        refine ⟨plS_good hr htv, fun u h => ?_⟩
        obtain ⟨t, ht⟩ := hu u (List.mem_cons_of_mem _ h)
        exact ⟨t, plS_keep hr htv ht fun z => hne _ h (by rw [z])⟩
    obtain ⟨z3, z4, z5, z6, z7, z8, z9, h1⟩ := run_edited es (plE r e) (some (dEd e)) y4 y5 y6 y7 y8 y9 hr'.1 hr'.2 (List.nodup_cons.mp hn).2
    refine ⟨z3, z4, z5, z6, z7, z8, z9, ?_⟩
    rw [List.map_cons, for_cons (δ1 := dEe s y r (some (dEd e)) x4 x5 x6 x7 x8 x9 x10) rfl hb]
    exact h1
def isAd : Ed → Bool
  | .ad _ => true
  | .pl _ => false
def dAdE : Ed → D
  | .ad t => dAd t
  | .pl _ => .non
theorem adds_filter : ∀ es : List Ed, (es.filter isAd).map dAdE = (addsE es).map dAd
  | [] => rfl
  | .ad t :: es => by
    rw [List.filter_cons_of_pos rfl, List.map_cons, adds_filter es, addsE_cons]
    rfl
  | .pl u :: es => by
    rw [List.filter_cons_of_neg (show ¬ isAd (.pl u) = true from Bool.false_ne_true), adds_filter es, addsE_cons]
    rfl
theorem adds_len : ∀ es : List Ed, (addsE es).length ≤ es.length
  | [] => Nat.le_refl _
  | .ad t :: es => by
    have := adds_len es
    rw [addsE_cons, List.length_append, List.length_cons]
    simp only [adE, List.length_singleton]
    omega
  | .pl u :: es => by
    have := adds_len es
    rw [addsE_cons, List.length_append, List.length_cons]
    simp only [adE, List.length_nil]
    omega
theorem law_edited (hs : GoodSec 2 s) {es : List Ed} (h : Valid s es) {L : Store} : F__law_edited [dSec s, .lst (es.map dEd)] L = .ok (dSec (edS s es)) L := by
  unfold F__law_edited
  refine fnOf_rt ?_
  show sSeq _ _ [some (dSec s), some (.lst (es.map dEd)), none, none, none, none, none, none, none, none, none] L = _
  rw [seq_set (var_of (d := dSec s) rfl)]
  show sSeq _ _ (dEe s (.lst (es.map dEd)) s none none none none none none none none) L = _
  obtain ⟨y3, y4, y5, y6, y7, y8, y9, h1⟩ := run_edited (s := s) (y := .lst (es.map dEd)) (L := L) (x10 := none) es s none none none none none none none hs (fun u hu => h.ok _ hu) h.nd
  have lp : sFor (.nm 3) (iSeq (eVar 1)) B1__law_edited (dEe s (.lst (es.map dEd)) s none none none none none none none none) L = .ok (.nx (dEe s (.lst (es.map dEd)) (plAll s es) y3 y4 y5 y6 y7 y8 y9 none)) L := by
    rw [sFor_eq, iSeq_eq, var_of (d := .lst (es.map dEd)) rfl]
    exact h1
  rw [seq_nx lp]
  have hl := h.len
  have hal := adds_len es
  have c1 : C1__law_edited (dEe s (.lst (es.map dEd)) (plAll s es) y3 y4 y5 y6 y7 y8 y9 none) L = .ok (.lst ((addsE es).map dAd)) L := by
    unfold C1__law_edited
    refine lcF_t (ts := es) dEd isAd dAdE ?_ (fun e he => ⟨_, rfl, ?_, fun hq => ?_⟩) (by omega) (adds_filter es) (flat_map (fun t => by unfold dAd; simp) _)
    · rw [iSeq_eq, var_of (d := .lst (es.map dEd)) rfl]
      rfl
    · refine (hd3 (s := s) (y := .lst (es.map dEd)) (r := plAll s es) (e := e) (z := "add") (.inr rfl)).trans ?_
      cases e <;> rfl
    · cases e with
      | pl u => exact nomatch hq
      | ad t =>
        have i1 : eOp oIx (eVar 3) (eC (.int 1)) (dEe s (.lst (es.map dEd)) (plAll s es) (some (dEd (.ad t))) y4 y5 y6 y7 y8 y9 none) L = .ok (.str t) L := (op_of (f := oIx) (var_of (d := dEd (.ad t)) rfl) (eC_eq (d := .int 1))).trans (by rw [dEd, xsE, oIx_t, atInt_1])
        exact tup_of (aCons_ok (eC_eq (d := .str "def")) (aCons_ok i1 (aCons_ok etup0 (aNil_eq (L := L))))) (by simp)
  have e10 : eB bTuple (aCons C1__law_edited aNil) (dEe s (.lst (es.map dEd)) (plAll s es) y3 y4 y5 y6 y7 y8 y9 none) L = .ok (.tup ((addsE es).map dAd)) L := (b1_of c1).trans rfl
  rw [seq_set e10]
  show (sRet _ : Sv) (dEe s (.lst (es.map dEd)) (plAll s es) y3 y4 y5 y6 y7 y8 y9 (some (.tup ((addsE es).map dAd)))) L = _
  refine ret_of ?_
  have e3 : eVar 10 (dEe s (.lst (es.map dEd)) (plAll s es) y3 y4 y5 y6 y7 y8 y9 (some (.tup ((addsE es).map dAd)))) L = .ok (.tup ((addsE es).map dAd)) L := var_of rfl
  have e4 : eVar 2 (dEe s (.lst (es.map dEd)) (plAll s es) y3 y4 y5 y6 y7 y8 y9 (some (.tup ((addsE es).map dAd)))) L = .ok (dSec (plAll s es)) L := var_of rfl
  obtain ⟨_, _, _, g2, _⟩ := run_mended hs (y := .non) (rest := []) es [] [] s 0 none none hs h.ok (fun u hu => h.ok _ hu) (by simpa using h.nd) (by simpa using h.few) (by have := h.len; simp; omega)
  have h12 := g2.rows12
  have hf := h.few
  refine (tup_of (aCons_ok ((op_of (f := oAdd) e3 ((op_of (f := oIx) e4 (eC_eq (d := .int 0))).trans sec0)).trans (oadd_tup (by simp; omega))) (aCons_ok ((op_of (f := oIx) e4 (eC_eq (d := .int 1))).trans sec1) (aNil_eq (L := L)))) (by simp)).trans ?_
  rw [dSec_eq (edS s es)]
  show R.ok (D.tup [D.tup ((addsE es).map dAd ++ (plAll s es).rows.map dRw), _]) _ = R.ok (D.tup [D.tup (((addsE es).map (fun t => Rw.df t []) ++ (plAll s es).rows).map dRw), _]) _
  rw [List.map_append, List.map_map]
  rfl
end
end Df
namespace Df
open PySem (Str)
structure NoE (s : Sec) (es : List Ed) (d : D) : Prop where
  flat : d.flat = true
  tup : ∃ xs, d = .tup xs
  bad : F_is_edit [dSec s, d, .ref 0] [.dct (kvE es)] = .ok (.bl false) [.dct (kvE es)]
section
variable {s : Sec} {es : List Ed}
theorem no_few {xs : List D} (h : xs.length < 2) (hp : D.plainL xs = true) (hf : D.flatL xs = true) : NoE s es (.tup xs) := ⟨by rw [flat_tup]; exact hf, ⟨xs, rfl⟩, is_edit_few h hp⟩
theorem no_run {xs : List D} (h2 : 2 ≤ xs.length) (hp : D.plainL xs = true) (hk : isKey (.tup xs) = true) (hf : D.flatL xs = true) (hr : EdF s xs false) : NoE s es (.tup xs) :=
  ⟨by rw [flat_tup]; exact hf, ⟨xs, rfl⟩, by rw [is_edit_run h2 hp hk hr, Bool.and_false]⟩
theorem no_told (hs : GoodSec 2 s) {e : Ed} (h : e ∈ es) (he : OkE s e) : NoE s es (dEd e) := ⟨flat_dEd e, ⟨_, rfl⟩, by
  have ie := is_edit_run (s := s) (xs := xsE e) (two_xsE e) (plain_xsE e) (key_dEd e) (ok_edit hs he) (kvs := kvE es)
  have hg : (dget (kvE es) (.tup (xsE e))).isSome = true := (get_kvE e es).trans (decide_eq_true h)
  rw [hg] at ie
  exact ie⟩
theorem rep_lenE (z : Array Nat) : ∀ (k : Nat) (acc : Array Nat), ((List.replicate k z).foldl (· ++ ·) acc).size = acc.size + k * z.size
  | 0, acc => by simp
  | k + 1, acc => by
    rw [List.replicate_succ, List.foldl_cons, rep_lenE z k (acc ++ z), Array.size_append, Nat.add_mul]
    omega
theorem repS_len (z : Str) (k : Nat) : (repS z k).length = k * z.length := by
  show ((List.replicate k z.cps).foldl (· ++ ·) #[]).size = _
  rw [rep_lenE]
  simp [Str.length]
theorem no_add {x : D} (hp : x.plain = true) (hk : keyish x = true) (hd : x.depth ≤ 3) (hf : x.flat = true) (h : val F_is_word [x] = some (.bl false)) : NoE s es (.tup [.str "add", x]) :=
  no_run (by simp) (by simp [hp]) (by simp [isKey, keyish, keyishL, hk]; omega) (by simp [hf]) (ed_add hf h)
theorem no_plain {p : List Nat} {n k : Int} (h : EdF s [.str "plain", dP p, .int n, .int k] false) : NoE s es (.tup [.str "plain", dP p, .int n, .int k]) :=
  no_run (by simp) (by simp) (by
    have := depth_dP p
    unfold isKey
    rw [keyish, keyishL, keyishL, keyish_dP]
    simp only [keyish, keyishL, Bool.and_true, Bool.true_and, decide_eq_true_eq]
    rw [depth_tup, depthL_cons, depthL_cons, depthL_cons, depthL_cons, depthL_nil, depth_str, depth_int, depth_int]
    omega) (by simp) h
structure Spot (s : Sec) (p : List Nat) (n : Nat) (ws : List Wd) (v : Sec) : Prop where
  sec : secAt s p = some v
  at_ : (∃ r, v.rows[n]? = some r ∧ ws = r.ws) ∨ (v.rows = [] ∧ ws = [])
  few : ws.length ≤ 8
theorem Spot.row {p : List Nat} {n : Nat} {ws : List Wd} {v : Sec} (h : Spot s p n ws v) {k : Int} (hk : ¬ (0 ≤ k ∧ k < ws.length)) : EdF s [.str "plain", dP p, .int (n : Int), .int k] false := by
  rcases h.at_ with ⟨r, h1, rfl⟩ | ⟨h1, rfl⟩
  · exact ed_word h.sec h1 (.inr ⟨hk, rfl⟩)
  · exact ed_row h.sec (by rw [h1, List.length_nil]; omega)
def l1 (f : Int) : List D := [.tup [], .tup [.str "add"], .tup [.str "add", .str ""], .tup [.str "add", .str "A"], .tup [.str "add", .str (repS "a" (9 + f).toNat)], .tup [.str "add", .int f], .tup [.str "add", .str "a", .str "b"]]
def l2 (f : Int) (p : List Nat) (n : Nat) (ws : List Wd) : List D := [.tup [.str "Add", .str "a"], .tup [.str "plain", dP p, .int (n : Int), .int ((ws.length : Int) + f)], .tup [.str "plain", dP p, .int (n : Int), .int (0 - 1 - f)]]
def l3 (p : List Nat) (n : Nat) : D := .tup [.str "plain", dP p, .int (n : Int)]
def l4 (f : Int) (p : List Nat) : List D := [.tup [.str "plain", dP p, .int (12 + f), .int 0], .tup [.str "plain", dP p, .int (0 - 1 - f), .int 0], .tup [.str "plain", .tup [.int (3 + f)], .int 0, .int 0]]
def wordK (ws : List Wd) : List Nat := (List.range ws.length).filter fun k => match ws[k]? with
  | some (.w _) => true
  | _ => false
def dPl4 (p : List Nat) (n : Nat) (k : Nat) : D := .tup [.str "plain", dP p, .int (n : Int), .int (k : Int)]
def l5 (p : List Nat) (n : Nat) (ws : List Wd) : List D := (wordK ws).map (dPl4 p n)
theorem no_l1 {f : Int} (h0 : 0 ≤ f) (h1 : f < 99) : ∀ d ∈ l1 f, NoE s es d := fun d hd => by
  have hq : 9 ≤ (9 + f).toNat ∧ (9 + f).toNat ≤ 108 := by omega
  have hr := repS_len "a" (9 + f).toNat
  rw [show ("a" : Str).length = 1 from rfl, Nat.mul_one] at hr
  unfold l1 at hd
  simp only [List.mem_cons, List.not_mem_nil, or_false] at hd
  rcases hd with rfl | rfl | rfl | rfl | rfl | rfl | rfl
  · exact no_few (by simp) rfl rfl
  · exact no_few (by simp) rfl rfl
  · exact no_add rfl rfl (by simp) rfl (word_len (.inl rfl) (by decide))
  · exact no_add rfl rfl (by simp) rfl word_A
  · exact no_add rfl rfl (by simp) rfl (word_len (.inr (by omega)) (by omega))
  · exact no_add rfl rfl (by simp) rfl word_int
  · exact no_run (by simp) rfl rfl rfl ed_add3
theorem no_l2 {f : Int} (h0 : 0 ≤ f) {p : List Nat} {n : Nat} {ws : List Wd} {v : Sec} (h : Spot s p n ws v) : ∀ d ∈ l2 f p n ws, NoE s es d := fun d hd => by
  unfold l2 at hd
  simp only [List.mem_cons, List.not_mem_nil, or_false] at hd
  rcases hd with rfl | rfl | rfl
  · exact no_run (by simp) rfl rfl rfl (ed_other (by decide) (by decide))
  · exact no_plain (h.row (by omega))
  · exact no_plain (h.row (by omega))
theorem no_l3 {p : List Nat} {n : Nat} : NoE s es (l3 p n) := no_run (by simp) (by simp) (by
    have := depth_dP p
    unfold isKey
    rw [keyish, keyishL, keyishL, keyish_dP]
    simp only [keyish, keyishL, Bool.and_true, Bool.true_and, decide_eq_true_eq]
    rw [depth_tup, depthL_cons, depthL_cons, depthL_cons, depthL_nil, depth_str, depth_int]
    omega) (by simp) (ed_len (by simp))
theorem no_l4 (hs : GoodSec 2 s) {f : Int} (h0 : 0 ≤ f) {p : List Nat} {n : Nat} {ws : List Wd} {v : Sec} (h : Spot s p n ws v) : ∀ d ∈ l4 f p, NoE s es d := fun d hd => by
  obtain ⟨m, _, hv⟩ := secAt_good hs h.sec
  have h12 := hv.rows12
  have h3 := hs.inner3
  unfold l4 at hd
  simp only [List.mem_cons, List.not_mem_nil, or_false] at hd
  rcases hd with rfl | rfl | rfl
  · exact no_plain (ed_row h.sec (by omega))
  · exact no_plain (ed_row h.sec (by omega))
  · exact no_run (by simp) rfl rfl rfl (ed_path rfl (path_far (by omega)))
theorem no_l5 {p : List Nat} {n : Nat} {ws : List Wd} {v : Sec} (h : Spot s p n ws v) : ∀ d ∈ l5 p n ws, NoE s es d := fun d hd => by
  unfold l5 wordK at hd
  obtain ⟨k, hk, rfl⟩ := List.mem_map.mp hd
  obtain ⟨h1, h2⟩ := List.mem_filter.mp hk
  have h1' : k < ws.length := List.mem_range.mp h1
  rcases h.at_ with ⟨r, g1, rfl⟩ | ⟨g1, rfl⟩
  · refine no_plain (ed_word h.sec g1 (.inl ⟨by omega, by omega, r.ws[k], by rw [Int.toNat_natCast]; exact List.getElem?_eq_getElem h1', ?_⟩))
    rw [List.getElem?_eq_getElem h1'] at h2
    cases e : r.ws[k] with
    | w t => exact val_is_use_w
    | u t => rw [e] at h2; exact nomatch h2
  · exact absurd h1' (by simp)
def dOd (s : Sec) (es : List Ed) (x3 x4 x5 x6 x7 x8 x9 : Option D) : Sl := [some (.ref 0), some (dSec s), some (.lst (es.map dEd)), x3, x4, x5, x6, x7, x8, x9]
theorem cat_run {a b : Ev} {δ : Sl} {L : Store} {i : Nat} {xs ys : List D} (ha : a δ L = .ok (.ref i) L) (hi : L[i]? = some (.lst xs)) (hb : b δ L = .ok (.lst ys) L) (hl : xs.length + ys.length ≤ 100000) :
    eOp oAdd a b δ L = .ok (.ref L.length) (L ++ [.lst (xs ++ ys)]) := by
  rw [op_of (f := oAdd) ha hb]
  unfold oAdd
  simp only [lstOf, hi]
  rw [if_pos (most_of hl)]
  rfl
theorem c2_odd {p : List Nat} {n : Nat} {ws : List Wd} (hw : ws.length ≤ 8) {x3 x4 x8 x9 : Option D} {L : Store} : C2__law_odd (dOd s es x3 x4 (some (dP p)) (some (.int (n : Int))) (some (dWs ws)) x8 x9) L = .ok (.lst (l5 p n ws)) L := by
  unfold C2__law_odd
  refine lcF_t (ts := List.range ws.length) (fun k : Nat => D.int (k : Int)) (fun k => match ws[k]? with | some (.w _) => true | _ => false) (dPl4 p n) (iRng1_nat (len_tup (var_of (i := 7) (d := dWs ws) rfl) (List.length_map _)) (by omega)) (fun k hk => ⟨_, rfl, ?_, fun _ => ?_⟩) (by rw [List.length_range]; omega) rfl (flat_map (fun k => by simp [dPl4]) _)
  · have hk := List.mem_range.mp hk
    have e0 : ws[k]? = some ws[k] := List.getElem?_eq_getElem hk
    refine tval_of ?_
    have e1 : eOp oIx (eVar 7) (eVar 9) ((wipe (dOd s es x3 x4 (some (dP p)) (some (.int (n : Int))) (some (dWs ws)) x8 x9) [9]).set 9 (some (.int (k : Int)))) L = .ok (dWd ws[k]) L :=
      (op_of (var_of (d := .tup (ws.map dWd)) rfl) (var_of (d := .int (k : Int)) rfl)).trans (oix_nat (by rw [List.getElem?_map, e0]; rfl))
    rw [eIsi_eq]
    show R.andThen (eOp oIx (eVar 7) (eVar 9) ((wipe (dOd s es x3 x4 (some (dP p)) (some (.int (n : Int))) (some (dWs ws)) x8 x9) [9]).set 9 (some (.int (k : Int)))) L) _ = _
    rw [e1, e0]
    cases ws[k] <;> rfl
  · exact tup_of (aCons_ok (eC_eq (d := .str "plain")) (aCons_ok (var_of (i := 5) rfl) (aCons_ok (var_of (i := 6) rfl) (aCons_ok (var_of (i := 9) rfl) (aNil_eq (L := L)))))) (by simp)
theorem pick_of {δ : Sl} {i : Nat} {x : D} {xs : List D} {m : MO} {tl : Store} (hm : Vm m) (h0 : δ[0]? = some (some (.ref 0))) (hi : δ[i]? = some (some x)) (hx : x = .lst xs ∨ ∃ j, x = .ref (j + 1) ∧ tl[j]? = some (.lst xs)) (hp : 0 < xs.length) (hl : xs.length ≤ 100000) :
    ∃ d m', eOp oIx (eVar i) (eCall1 2 F__law_taken (aCons (eVar 0) (aCons (eB bLenS (aCons (eVar i) aNil)) aNil))) δ (m :: tl) = .ok d (m' :: tl) ∧ d ∈ xs ∧ Vm m' := by
  have hs : ∀ m : MO, seqOf (m :: tl) x = some xs := fun m => by
    rcases hx with rfl | ⟨j, rfl, hj⟩
    · rfl
    · unfold seqOf
      simp only [List.getElem?_cons_succ, hj]
  have hns : ∀ z, x ≠ .str z := fun z e => by
    rcases hx with rfl | ⟨j, rfl, _⟩ <;> cases e
  obtain ⟨k, m1, e1, g1, g2, hm1⟩ := taken hm (n := (xs.length : Int)) (by omega) (by omega)
  obtain ⟨d, h1, h2⟩ := atInt_in (xs := xs) g1 (by simpa using g2)
  have hlen : eB bLenS (aCons (eVar i) aNil) δ (m :: tl) = .ok (.int (xs.length : Int)) (m :: tl) := by
    rw [b1_of (var_of hi)]
    unfold bLenS
    cases x <;> first | exact absurd rfl (hns _) | (simp only [hs m])
  have c : eCall1 2 F__law_taken (aCons (eVar 0) (aCons (eB bLenS (aCons (eVar i) aNil)) aNil)) δ (m :: tl) = .ok (.int k) (m1 :: tl) :=
    call1_eq (r := [.int (xs.length : Int)]) (aCons_ok (var_of h0) (aCons_ok hlen (aNil_eq (L := m :: tl)))) e1 rfl rfl hm.flat
  refine ⟨d, m1, ?_, h2, hm1⟩
  rw [op_of (var_of hi) c]
  unfold oIx
  cases x <;> first | exact absurd rfl (hns _) | (simp only [hs m1, h1])
end
end Df
namespace Df
open PySem (Str)
section
variable {s : Sec} {es : List Ed}
theorem mem_app5 {P : D → Prop} {a b c e : List D} {d : D} (ha : ∀ x ∈ a, P x) (hb : ∀ x ∈ b, P x) (hd : P d) (hc : ∀ x ∈ c, P x) (he : ∀ x ∈ e, P x) : ∀ x ∈ (((a ++ b) ++ [d]) ++ c) ++ e, P x := fun x hx => by
  rcases List.mem_append.mp hx with hx | hx
  · rcases List.mem_append.mp hx with hx | hx
    · rcases List.mem_append.mp hx with hx | hx
      · rcases List.mem_append.mp hx with hx | hx
        · exact ha x hx
        · exact hb x hx
      · rw [List.mem_singleton.mp hx]; exact hd
    · exact hc x hx
  · exact he x hx
theorem cne_lst {i : Nat} {δ : Sl} {L : Store} {xs : List D} (hi : δ[i]? = some (some (.lst xs))) (hp : D.plainL xs = true) : tVal (eOp cNe (eVar i) (eLstF aNil)) δ L = .ok (!xs.isEmpty) L :=
  tval_of ((op_of (f := cNe) (var_of hi) (show eLstF aNil δ L = .ok (.lst []) L from rfl)).trans (cNe_nil rfl hp))
theorem drawn_odd (hs : GoodSec 2 s) (ho : ∀ e ∈ es, OkE s e) (hl : es.length ≤ 50000) {m : MO} (hm : Vm m) : ∃ d m', run1 F__law_odd [dSec s, .lst (es.map dEd)] m = .v d m' ∧ NoE s es d ∧ Vm m' := by
  refine run1_ex ?_ fun d h => h.flat
  unfold F__law_odd
  -- far
  obtain ⟨f1, m1, e1, g1, g2, hm1⟩ := draw (δ := dOd s es none none none none none none none) (a := eC (.int 99)) (n := 99) (tl := []) rfl (fun L => rfl) hm (by decide) (by decide)
  obtain ⟨f2, m2, e2, g3, g4, hm2⟩ := draw (δ := dOd s es none none none none none none none) (a := eC (.int 2)) (n := 2) (tl := []) rfl (fun L => rfl) hm1 (by decide) (by decide)
  obtain ⟨f, hf⟩ : ∃ f, f = f1 * f2 := ⟨_, rfl⟩
  have hf0 : 0 ≤ f ∧ f < 99 := by
    have : f2 = 0 ∨ f2 = 1 := by omega
    rcases this with z | z <;> rw [z] at hf <;> omega
  have e3 : eOp oMul (eCall1 2 F__law_taken (aCons (eVar 0) (aCons (eC (.int 99)) aNil))) (eCall1 2 F__law_taken (aCons (eVar 0) (aCons (eC (.int 2)) aNil))) (dOd s es none none none none none none none) [m] = .ok (.int f) [m2] := by
    rw [op_of (f := oMul) e1 e2]
    unfold oMul
    simp only
    rw [if_pos (by omega), hf]
  -- the places
  have hP := val_places hs
  have hPl := rowsOf_len hs
  have e4 : ∀ x3 L, eCallF 1 F__law_places (aCons (eVar 1) aNil) (dOd s es x3 none none none none none none) L = .ok (.lst ((rowsOf s).map fun y => dPl y.1)) L := fun x3 L => call1 hP (aCons_ok (var_of rfl) (aNil_eq (L := L))) (by simp)
  have cn : ∀ x5 x6 x7 L, tVal (eOp cNe (eVar 4) (eLstF aNil)) (dOd s es (some (.int f)) (some (.lst ((rowsOf s).map fun y => dPl y.1))) x5 x6 x7 none none) L = .ok (!((rowsOf s).map fun y => dPl y.1).isEmpty) L := fun x5 x6 x7 L =>
    cne_lst rfl (plain_map (fun y => by simp [dPl]) _)
  obtain ⟨p, n, ws, v, m3, sp, hm3, e5, e7⟩ : ∃ p n ws v m3, Spot s p n ws v ∧ Vm m3 ∧
      sSet (.tp [5, 6]) (eIf (tVal (eOp cNe (eVar 4) (eLstF aNil))) (eOp oIx (eVar 4) (eCall1 2 F__law_taken (aCons (eVar 0) (aCons (eB bLenS (aCons (eVar 4) aNil)) aNil)))) (eTup (aCons (eTup aNil) (aCons (eC (.int 0)) aNil)))) (dOd s es (some (.int f)) (some (.lst ((rowsOf s).map fun y => dPl y.1))) none none none none none) [m2] = .ok (.nx (dOd s es (some (.int f)) (some (.lst ((rowsOf s).map fun y => dPl y.1))) (some (dP p)) (some (.int (n : Int))) none none none)) [m3] ∧
      eIf (tVal (eOp cNe (eVar 4) (eLstF aNil))) (eOp oIx (eCallF 2 F__law_line (aCons (eVar 1) (aCons (eTup (aCons (eVar 5) (aCons (eVar 6) aNil))) aNil))) (eUn uNeg (eC (.int 1)))) (eTup aNil) (dOd s es (some (.int f)) (some (.lst ((rowsOf s).map fun y => dPl y.1))) (some (dP p)) (some (.int (n : Int))) none none none) [m3] = .ok (dWs ws) [m3] := by
    cases hR : rowsOf s with
    | nil =>
      have hr : s.rows = [] := by
        cases hq : s.rows with
        | nil => rfl
        | cons r rs =>
          have : (([], 0), r) ∈ rowsOf s := by
            unfold rowsOf
            refine List.mem_flatMap.mpr ⟨([], s), by rw [secs_eq]; exact List.mem_cons_self, ?_⟩
            unfold rowsS
            rw [hq, List.zipIdx_cons, List.map_cons]
            exact List.mem_cons_self
          rw [hR] at this
          exact nomatch this
      simp only [hR] at cn
      refine ⟨[], 0, [], s, m2, ⟨rfl, .inr ⟨hr, rfl⟩, Nat.zero_le _⟩, hm2, ?_, ?_⟩
      · rw [sSet_eq, eif_f (cn none none none [m2]), tup_of (aCons_ok etup0 (aCons_ok (eC_eq (d := .int 0)) (aNil_eq (L := [m2])))) (by simp)]
        rfl
      · rw [eif_f (cn (some (dP [])) (some (.int ((0 : Nat) : Int))) none [m2]), etup0]
        rfl
    | cons y0 ys =>
      rw [← hR]
      have hne : (!((rowsOf s).map fun y => dPl y.1).isEmpty) = true := by rw [hR]; rfl
      simp only [hne] at cn
      obtain ⟨d, m3, e6, hd, hm3⟩ := pick_of (i := 4) (x := .lst ((rowsOf s).map fun y => dPl y.1)) (xs := (rowsOf s).map fun y => dPl y.1) (tl := []) (δ := dOd s es (some (.int f)) (some (.lst ((rowsOf s).map fun y => dPl y.1))) none none none none none) hm2 rfl rfl (.inl rfl) (by rw [hR]; simp) (by rw [List.length_map]; omega)
      obtain ⟨y, hy, rfl⟩ := List.mem_map.mp hd
      obtain ⟨v, h1, h2, h3, h4⟩ := rowsOf_mem hs hy
      refine ⟨y.1.1, y.1.2, y.2.ws, v, m3, ⟨h1, .inl ⟨y.2, h2, rfl⟩, h4.ws8⟩, hm3, ?_, ?_⟩
      · rw [sSet_eq, eif_t (cn none none none [m2]), e6]
        rfl
      · rw [eif_t (cn _ _ none [m3])]
        have t1 : eTup (aCons (eVar 5) (aCons (eVar 6) aNil)) (dOd s es (some (.int f)) (some (.lst ((rowsOf s).map fun y => dPl y.1))) (some (dP y.1.1)) (some (.int (y.1.2 : Int))) none none none) [m3] = .ok (dPl y.1) [m3] := (tup_of (aCons_ok (var_of rfl) (aCons_ok (var_of rfl) (aNil_eq (L := [m3])))) (by simp)).trans rfl
        exact (op_of (f := oIx) (call2 (val_line hs hy) (aCons_ok (var_of rfl) (aCons_ok t1 (aNil_eq (L := [m3])))) (by simp)) (show eUn uNeg (eC (.int 1)) _ _ = .ok (.int (-1)) [m3] from rfl)).trans (last_dRw y.2)
  have hR4 : ∃ R4, R4 = D.lst ((rowsOf s).map fun y => dPl y.1) := ⟨_, rfl⟩
  obtain ⟨R4, hR4⟩ := hR4
  rw [← hR4] at e5 e7
  simp only [← hR4] at e4
  have hw8 := sp.few
  -- the list
  have st8 : ∀ x8 L, eVar 5 (dOd s es (some (.int f)) (some R4) (some (dP p)) (some (.int (n : Int))) (some (dWs ws)) x8 none) L = .ok (dP p) L := fun x8 L => rfl
  have st6 : ∀ x8 L, eVar 6 (dOd s es (some (.int f)) (some R4) (some (dP p)) (some (.int (n : Int))) (some (dWs ws)) x8 none) L = .ok (.int (n : Int)) L := fun x8 L => rfl
  have st3 : ∀ x8 L, eVar 3 (dOd s es (some (.int f)) (some R4) (some (dP p)) (some (.int (n : Int))) (some (dWs ws)) x8 none) L = .ok (.int f) L := fun x8 L => rfl
  have rp : ∀ L, eOp oMulS (eC (.str "a")) (eOp oAdd (eC (.int 9)) (eVar 3)) (dOd s es (some (.int f)) (some R4) (some (dP p)) (some (.int (n : Int))) (some (dWs ws)) none none) L = .ok (.str (repS "a" (9 + f).toNat)) L := fun L => by
    rw [op_of (f := oMulS) (eC_eq (d := .str "a")) ((op_of (f := oAdd) (eC_eq (d := .int 9)) (st3 none L)).trans oAdd_int)]
    unfold oMulS
    simp only
    rw [if_pos ⟨by omega, by omega, by decide, by decide⟩]
  have k1 : ∀ L, eLst (aCons (eTup aNil) (aCons (eTup (aCons (eC (.str "add")) aNil)) (aCons (eTup (aCons (eC (.str "add")) (aCons (eC (.str "")) aNil))) (aCons (eTup (aCons (eC (.str "add")) (aCons (eC (.str "A")) aNil))) (aCons (eTup (aCons (eC (.str "add")) (aCons (eOp oMulS (eC (.str "a")) (eOp oAdd (eC (.int 9)) (eVar 3))) aNil))) (aCons (eTup (aCons (eC (.str "add")) (aCons (eVar 3) aNil))) (aCons (eTup (aCons (eC (.str "add")) (aCons (eC (.str "a")) (aCons (eC (.str "b")) aNil)))) aNil))))))) (dOd s es (some (.int f)) (some R4) (some (dP p)) (some (.int (n : Int))) (some (dWs ws)) none none) L = .ok (.ref L.length) (L ++ [.lst (l1 f)]) := fun L => by
    rw [eLst_eq, aCons_ok etup0 (aCons_ok (tup_of (aCons_ok (eC_eq (d := .str "add")) (aNil_eq (L := L))) (by simp)) (aCons_ok (tup_of (aCons_ok (eC_eq (d := .str "add")) (aCons_ok (eC_eq (d := .str "")) (aNil_eq (L := L)))) (by simp)) (aCons_ok (tup_of (aCons_ok (eC_eq (d := .str "add")) (aCons_ok (eC_eq (d := .str "A")) (aNil_eq (L := L)))) (by simp))
      (aCons_ok (tup_of (aCons_ok (eC_eq (d := .str "add")) (aCons_ok (rp L) (aNil_eq (L := L)))) (by simp)) (aCons_ok (tup_of (aCons_ok (eC_eq (d := .str "add")) (aCons_ok (st3 none L) (aNil_eq (L := L)))) (by simp)) (aCons_ok (tup_of (aCons_ok (eC_eq (d := .str "add")) (aCons_ok (eC_eq (d := .str "a")) (aCons_ok (eC_eq (d := .str "b")) (aNil_eq (L := L))))) (by simp)) (aNil_eq (L := L))))))))]
    rfl
  have k2 : ∀ x8 L, eLstF (aCons (eTup (aCons (eC (.str "Add")) (aCons (eC (.str "a")) aNil))) (aCons (eTup (aCons (eC (.str "plain")) (aCons (eVar 5) (aCons (eVar 6) (aCons (eOp oAdd (eB bLenS (aCons (eVar 7) aNil)) (eVar 3)) aNil))))) (aCons (eTup (aCons (eC (.str "plain")) (aCons (eVar 5) (aCons (eVar 6) (aCons (eOp oSub (eOp oSub (eC (.int 0)) (eC (.int 1))) (eVar 3)) aNil))))) aNil))) (dOd s es (some (.int f)) (some R4) (some (dP p)) (some (.int (n : Int))) (some (dWs ws)) x8 none) L = .ok (.lst (l2 f p n ws)) L := fun x8 L => by
    have a1 : eOp oAdd (eB bLenS (aCons (eVar 7) aNil)) (eVar 3) (dOd s es (some (.int f)) (some R4) (some (dP p)) (some (.int (n : Int))) (some (dWs ws)) x8 none) L = .ok (.int ((ws.length : Int) + f)) L := (op_of (f := oAdd) (len_tup (var_of (d := dWs ws) rfl) (List.length_map _)) (st3 x8 L)).trans oAdd_int
    have a2 : eOp oSub (eOp oSub (eC (.int 0)) (eC (.int 1))) (eVar 3) (dOd s es (some (.int f)) (some R4) (some (dP p)) (some (.int (n : Int))) (some (dWs ws)) x8 none) L = .ok (.int (0 - 1 - f)) L := (op_of (f := oSub) ((op_of (f := oSub) (eC_eq (d := .int 0)) (eC_eq (d := .int 1))).trans oSub_int) (st3 x8 L)).trans oSub_int
    exact lstF_of (aCons_ok (tup_of (aCons_ok (eC_eq (d := .str "Add")) (aCons_ok (eC_eq (d := .str "a")) (aNil_eq (L := L)))) (by simp)) (aCons_ok (tup_of (aCons_ok (eC_eq (d := .str "plain")) (aCons_ok (st8 x8 L) (aCons_ok (st6 x8 L) (aCons_ok a1 (aNil_eq (L := L)))))) (by simp)) (aCons_ok (tup_of (aCons_ok (eC_eq (d := .str "plain")) (aCons_ok (st8 x8 L) (aCons_ok (st6 x8 L) (aCons_ok a2 (aNil_eq (L := L)))))) (by simp)) (aNil_eq (L := L))))) (by simp [l2]) (by simp [l2])
  have k4 : ∀ x8 L, eLstF (aCons (eTup (aCons (eC (.str "plain")) (aCons (eVar 5) (aCons (eOp oAdd (eC (.int 12)) (eVar 3)) (aCons (eC (.int 0)) aNil))))) (aCons (eTup (aCons (eC (.str "plain")) (aCons (eVar 5) (aCons (eOp oSub (eOp oSub (eC (.int 0)) (eC (.int 1))) (eVar 3)) (aCons (eC (.int 0)) aNil))))) (aCons (eTup (aCons (eC (.str "plain")) (aCons (eTup (aCons (eOp oAdd (eC (.int 3)) (eVar 3)) aNil)) (aCons (eC (.int 0)) (aCons (eC (.int 0)) aNil))))) aNil))) (dOd s es (some (.int f)) (some R4) (some (dP p)) (some (.int (n : Int))) (some (dWs ws)) x8 none) L = .ok (.lst (l4 f p)) L := fun x8 L => by
    have a1 : eOp oAdd (eC (.int 12)) (eVar 3) (dOd s es (some (.int f)) (some R4) (some (dP p)) (some (.int (n : Int))) (some (dWs ws)) x8 none) L = .ok (.int (12 + f)) L := (op_of (f := oAdd) (eC_eq (d := .int 12)) (st3 x8 L)).trans oAdd_int
    have a3 : eOp oAdd (eC (.int 3)) (eVar 3) (dOd s es (some (.int f)) (some R4) (some (dP p)) (some (.int (n : Int))) (some (dWs ws)) x8 none) L = .ok (.int (3 + f)) L := (op_of (f := oAdd) (eC_eq (d := .int 3)) (st3 x8 L)).trans oAdd_int
    have a2 : eOp oSub (eOp oSub (eC (.int 0)) (eC (.int 1))) (eVar 3) (dOd s es (some (.int f)) (some R4) (some (dP p)) (some (.int (n : Int))) (some (dWs ws)) x8 none) L = .ok (.int (0 - 1 - f)) L := (op_of (f := oSub) ((op_of (f := oSub) (eC_eq (d := .int 0)) (eC_eq (d := .int 1))).trans oSub_int) (st3 x8 L)).trans oSub_int
    exact lstF_of (aCons_ok (tup_of (aCons_ok (eC_eq (d := .str "plain")) (aCons_ok (st8 x8 L) (aCons_ok a1 (aCons_ok (eC_eq (d := .int 0)) (aNil_eq (L := L)))))) (by simp)) (aCons_ok (tup_of (aCons_ok (eC_eq (d := .str "plain")) (aCons_ok (st8 x8 L) (aCons_ok a2 (aCons_ok (eC_eq (d := .int 0)) (aNil_eq (L := L)))))) (by simp)) (aCons_ok (tup_of (aCons_ok (eC_eq (d := .str "plain")) (aCons_ok (tup_of (aCons_ok a3 (aNil_eq (L := L))) (by simp)) (aCons_ok (eC_eq (d := .int 0)) (aCons_ok (eC_eq (d := .int 0)) (aNil_eq (L := L)))))) (by simp)) (aNil_eq (L := L))))) (by simp [l4]) (by simp [l4])
  have h5 : (l5 p n ws).length ≤ 8 := by
    unfold l5 wordK
    rw [List.length_map]
    refine Nat.le_trans (List.length_filter_le _ _) ?_
    rw [List.length_range]
    exact hw8
  have hall := mem_app5 (P := NoE s es) (no_l1 hf0.1 hf0.2) (no_l2 hf0.1 sp) (no_l3 (p := p) (n := n)) (no_l4 hs hf0.1 sp) (no_l5 sp)
  generalize hLL : (((l1 f ++ l2 f p n ws) ++ [l3 p n]) ++ l4 f p) ++ l5 p n ws = LL at hall
  have hlen : LL.length = 14 + (l5 p n ws).length := by rw [← hLL]; simp [l1, l2, l4]; omega
  refine Exists.elim (?_ : ∃ d m' tl, ((sSeq (sIf (tAnd (tVal (eOp cNe (eVar 2) (eLstF aNil))) (tVal (eOp cEq (eCall1 2 F__law_taken (aCons (eVar 0) (aCons (eC (.int 3)) aNil))) (eC (.int 0))))) (sRet (eOp oIx (eVar 2) (eCall1 2 F__law_taken (aCons (eVar 0) (aCons (eB bLenS (aCons (eVar 2) aNil)) aNil))))) sNil) (sRet (eOp oIx (eVar 8) (eCall1 2 F__law_taken (aCons (eVar 0) (aCons (eB bLenS (aCons (eVar 8) aNil)) aNil))))) : Sv) (dOd s es (some (.int f)) (some R4) (some (dP p)) (some (.int (n : Int))) (some (dWs ws)) (some (.ref 4)) none) [m3, .lst (l1 f), .lst ((l1 f ++ l2 f p n ws) ++ [l3 p n]), .lst (((l1 f ++ l2 f p n ws) ++ [l3 p n]) ++ l4 f p), .lst LL] = .ok (.rt d) (m' :: tl)) ∧ NoE s es d ∧ Vm m') fun d hd => ?_
  · have last : ∀ m4, Vm m4 → ∃ d m', sRet (eOp oIx (eVar 8) (eCall1 2 F__law_taken (aCons (eVar 0) (aCons (eB bLenS (aCons (eVar 8) aNil)) aNil)))) (dOd s es (some (.int f)) (some R4) (some (dP p)) (some (.int (n : Int))) (some (dWs ws)) (some (.ref 4)) none) (m4 :: [.lst (l1 f), .lst ((l1 f ++ l2 f p n ws) ++ [l3 p n]), .lst (((l1 f ++ l2 f p n ws) ++ [l3 p n]) ++ l4 f p), .lst LL]) = .ok (.rt d) (m' :: [.lst (l1 f), .lst ((l1 f ++ l2 f p n ws) ++ [l3 p n]), .lst (((l1 f ++ l2 f p n ws) ++ [l3 p n]) ++ l4 f p), .lst LL]) ∧ NoE s es d ∧ Vm m' := fun m4 hm4 => by
      obtain ⟨d, m5, e8, hd, hm5⟩ := pick_of (i := 8) (x := .ref 4) (xs := LL) (tl := [.lst (l1 f), .lst ((l1 f ++ l2 f p n ws) ++ [l3 p n]), .lst (((l1 f ++ l2 f p n ws) ++ [l3 p n]) ++ l4 f p), .lst LL]) (δ := dOd s es (some (.int f)) (some R4) (some (dP p)) (some (.int (n : Int))) (some (dWs ws)) (some (.ref 4)) none) hm4 rfl rfl (.inr ⟨3, rfl, rfl⟩) (by omega) (by omega)
      exact ⟨d, m5, ret_of e8, hall d hd, hm5⟩
    have ce := cne_lst (i := 2) (δ := dOd s es (some (.int f)) (some R4) (some (dP p)) (some (.int (n : Int))) (some (dWs ws)) (some (.ref 4)) none) (L := m3 :: [.lst (l1 f), .lst ((l1 f ++ l2 f p n ws) ++ [l3 p n]), .lst (((l1 f ++ l2 f p n ws) ++ [l3 p n]) ++ l4 f p), .lst LL]) rfl (plain_map plain_dEd es)
    cases hes : es with
    | nil =>
      obtain ⟨d, m', e9, h1, h2⟩ := last m3 hm3
      rw [hes] at ce e9
      refine ⟨d, m', [.lst (l1 f), .lst ((l1 f ++ l2 f p n ws) ++ [l3 p n]), .lst (((l1 f ++ l2 f p n ws) ++ [l3 p n]) ++ l4 f p), .lst LL], ?_, hes ▸ h1, h2⟩
      rw [seq_if_f (tand_f ce)]
      exact e9
    | cons e0 er =>
      rw [← hes]
      have hb : (!(es.map dEd).isEmpty) = true := by rw [hes]; rfl
      rw [hb] at ce
      obtain ⟨k, m4, ek, _, _, hm4⟩ := draw (δ := dOd s es (some (.int f)) (some R4) (some (dP p)) (some (.int (n : Int))) (some (dWs ws)) (some (.ref 4)) none) (a := eC (.int 3)) (n := 3) (tl := [.lst (l1 f), .lst ((l1 f ++ l2 f p n ws) ++ [l3 p n]), .lst (((l1 f ++ l2 f p n ws) ++ [l3 p n]) ++ l4 f p), .lst LL]) rfl (fun L => rfl) hm3 (by decide) (by decide)
      have ct := (tand_t (c2 := tVal (eOp cEq (eCall1 2 F__law_taken (aCons (eVar 0) (aCons (eC (.int 3)) aNil))) (eC (.int 0)))) ce).trans (tval_of ((op_of (f := cEq) ek (eC_eq (d := .int 0))).trans cEq_int))
      by_cases hk : k = 0
      · rw [decide_eq_true hk] at ct
        obtain ⟨d, m5, e8, hd, hm5⟩ := pick_of (i := 2) (x := .lst (es.map dEd)) (xs := es.map dEd) (tl := [.lst (l1 f), .lst ((l1 f ++ l2 f p n ws) ++ [l3 p n]), .lst (((l1 f ++ l2 f p n ws) ++ [l3 p n]) ++ l4 f p), .lst LL]) (δ := dOd s es (some (.int f)) (some R4) (some (dP p)) (some (.int (n : Int))) (some (dWs ws)) (some (.ref 4)) none) hm4 rfl rfl (.inl rfl) (by rw [hes]; simp) (by rw [List.length_map]; omega)
        obtain ⟨e, he, rfl⟩ := List.mem_map.mp hd
        exact ⟨_, m5, [.lst (l1 f), .lst ((l1 f ++ l2 f p n ws) ++ [l3 p n]), .lst (((l1 f ++ l2 f p n ws) ++ [l3 p n]) ++ l4 f p), .lst LL], seq_rt ((if_t ct).trans (ret_of e8)), no_told hs he (ho e he), hm5⟩
      · rw [decide_eq_false hk] at ct
        obtain ⟨d, m', e9, h1, h2⟩ := last m4 hm4
        refine ⟨d, m', [.lst (l1 f), .lst ((l1 f ++ l2 f p n ws) ++ [l3 p n]), .lst (((l1 f ++ l2 f p n ws) ++ [l3 p n]) ++ l4 f p), .lst LL], ?_, h1, h2⟩
        rw [seq_if_f ct]
        exact e9
  · obtain ⟨m', tl, e9, h1, h2⟩ := hd
    refine ⟨d, m', tl, ?_, h1, h2⟩
    refine fnOf_rt ?_
    show sSeq _ _ (dOd s es none none none none none none none) [m] = _
    rw [seq_set e3]
    show sSeq _ _ (dOd s es (some (.int f)) none none none none none none) [m2] = _
    rw [seq_set (e4 _ _)]
    show sSeq _ _ (dOd s es (some (.int f)) (some R4) none none none none none) [m2] = _
    rw [seq_nx e5, seq_set e7]
    show sSeq _ _ (dOd s es (some (.int f)) (some R4) (some (dP p)) (some (.int (n : Int))) (some (dWs ws)) none none) [m3] = _
    rw [seq_set (k1 [m3])]
    show sSeq _ _ (dOd s es (some (.int f)) (some R4) (some (dP p)) (some (.int (n : Int))) (some (dWs ws)) (some (.ref 1)) none) [m3, .lst (l1 f)] = _
    rw [seq_set (cat_run (var_of (d := .ref 1) rfl) rfl (k2 _ _) (by simp [l1, l2]))]
    show sSeq _ _ (dOd s es (some (.int f)) (some R4) (some (dP p)) (some (.int (n : Int))) (some (dWs ws)) (some (.ref 2)) none) [m3, .lst (l1 f), .lst (l1 f ++ l2 f p n ws)] = _
    rw [seq_nx (app_of (d := l3 p n) (var_of (d := .ref 2) rfl) rfl (tup_of (aCons_ok (eC_eq (d := .str "plain")) (aCons_ok (st8 _ _) (aCons_ok (st6 _ _) (aNil_eq (L := [m3, .lst (l1 f), .lst (l1 f ++ l2 f p n ws)]))))) (by simp)) rfl (by simp [l1, l2]))]
    show sSeq _ _ (dOd s es (some (.int f)) (some R4) (some (dP p)) (some (.int (n : Int))) (some (dWs ws)) (some (.ref 2)) none) [m3, .lst (l1 f), .lst ((l1 f ++ l2 f p n ws) ++ [l3 p n])] = _
    rw [seq_set (cat_run (var_of (d := .ref 2) rfl) rfl (k4 _ _) (by simp [l1, l2, l4]))]
    show sSeq _ _ (dOd s es (some (.int f)) (some R4) (some (dP p)) (some (.int (n : Int))) (some (dWs ws)) (some (.ref 3)) none) [m3, .lst (l1 f), .lst ((l1 f ++ l2 f p n ws) ++ [l3 p n]), .lst (((l1 f ++ l2 f p n ws) ++ [l3 p n]) ++ l4 f p)] = _
    rw [seq_set (cat_run (var_of (d := .ref 3) rfl) rfl (c2_odd hw8) (by simp [l1, l2, l4]; omega)), hLL]
    exact e9
end
end Df
namespace Df
open PySem (Str)
section
variable {s : Sec} {ns : List Int}
def dLe (ns : List Int) (s : Sec) (x2 x4 x5 x6 x7 x8 x9 x10 x11 x12 x13 : Option D) : Sl := [some (.scr ns), some (.ref 0), x2, some (dSec s), x4, x5, x6, x7, x8, x9, x10, x11, x12, x13]
def fourT : List Str := ["b", "a", "q", "zzzzzzzz"]
def left0 (s : Sec) : List Ed := (uses s).map (fun x => .pl x.1) ++ fourT.map .ad
theorem left0_ok (s : Sec) : ∀ e ∈ left0 s, OkE s e := fun e he => by
  rcases List.mem_append.mp he with h | h
  · obtain ⟨x, hx, rfl⟩ := List.mem_map.mp h
    exact ⟨x.2, hx⟩
  · obtain ⟨t, ht, rfl⟩ := List.mem_map.mp h
    unfold fourT at ht
    simp only [List.mem_cons, List.not_mem_nil, or_false] at ht
    rcases ht with rfl | rfl | rfl | rfl
    · exact ⟨by decide, by decide, by decide⟩
    · exact ⟨by decide, by decide, by decide⟩
    · exact ⟨by decide, by decide, by decide⟩
    · exact ⟨by decide, by decide, by decide⟩
theorem left0_nd (s : Sec) : (left0 s).Nodup := by
  unfold left0
  refine List.nodup_append.mpr ⟨?_, by decide, ?_⟩
  · unfold List.Nodup
    rw [List.pairwise_map]
    exact (uses_lt s).imp fun {a b} h => fun (e : Ed.pl a.1 = Ed.pl b.1) => ltU_ne h (by injection e)
  · intro a ha b hb e
    obtain ⟨x, _, rfl⟩ := List.mem_map.mp ha
    obtain ⟨t, _, rfl⟩ := List.mem_map.mp hb
    cases e
theorem left0_len (hs : GoodSec 2 s) : (left0 s).length ≤ 6148 := by
  have := uses_len hs
  unfold left0 fourT
  simp
  omega
theorem flatL_Ed (es : List Ed) : D.flatL (es.map dEd) = true := flat_map flat_dEd es
theorem c3_law (hs : GoodSec 2 s) {x2 x4 x5 x6 x7 x8 x9 x10 x11 x12 x13 : Option D} {L : Store} : C3_law (dLe ns s x2 x4 x5 x6 x7 x8 x9 x10 x11 x12 x13) L = .ok (.lst (((uses s).map fun x => Ed.pl x.1).map dEd)) L := by
  unfold C3_law
  have hU := uses_len hs
  refine lcF_t (ts := uses s) (fun x => dU x.1) (fun _ => true) (fun x => dEd (.pl x.1)) ?_ (fun x hx => ⟨_, rfl, rfl, fun _ => ?_⟩) (by omega) (by rw [filter_tt, List.map_map]; rfl) (flatL_Ed _)
  · rw [iKeys_eq, call1 (val_uses hs) (aCons_ok (var_of rfl) (aNil_eq (L := L))) (by simp)]
    simp only [R.andThen, dUses, List.map_map]
    rfl
  · exact (op_of (f := oAdd) (tup_of (aCons_ok (eC_eq (d := .str "plain")) (aNil_eq (L := L))) (by simp)) (var_of (d := .tup [dP x.1.1, .int (x.1.2.1 : Int), .int (x.1.2.2 : Int)]) rfl)).trans ((oadd_tup (by simp)).trans rfl)
theorem c4_law {x2 x4 x5 x6 x7 x8 x9 x10 x11 x12 x13 : Option D} {L : Store} : C4_law (dLe ns s x2 x4 x5 x6 x7 x8 x9 x10 x11 x12 x13) L = .ok (.lst ((fourT.map Ed.ad).map dEd)) L := by
  unfold C4_law
  refine lcF_t (ts := fourT) D.str (fun _ => true) (fun t => dEd (.ad t)) ?_ (fun x hx => ⟨_, rfl, rfl, fun _ => ?_⟩) (by decide) (by rw [filter_tt, List.map_map]; rfl) (flatL_Ed _)
  · rw [iSeq_eq, tup_of (aCons_ok (eC_eq (d := .str "b")) (aCons_ok (eC_eq (d := .str "a")) (aCons_ok (eC_eq (d := .str "q")) (aCons_ok (eC_eq (d := .str "zzzzzzzz")) (aNil_eq (L := L)))))) (by simp)]
    rfl
  · exact tup_of (aCons_ok (eC_eq (d := .str "add")) (aCons_ok (var_of rfl) (aNil_eq (L := L)))) (by simp [xsE])
theorem left_run (hs : GoodSec 2 s) {x2 x4 x5 x6 x7 x8 x9 x10 x11 x12 x13 : Option D} {L : Store} : eOp oAdd C3_law C4_law (dLe ns s x2 x4 x5 x6 x7 x8 x9 x10 x11 x12 x13) L = .ok (.ref L.length) (L ++ [.lst ((left0 s).map dEd)]) := by
  have hl := left0_len hs
  rw [op_of (f := oAdd) (c3_law hs) c4_law]
  unfold oAdd
  simp only [lstOf]
  rw [if_pos (most_of (by have h := uses_len hs; rw [List.length_map, List.length_map, List.length_map, List.length_map]; have : fourT.length = 4 := rfl; omega))]
  unfold left0
  rw [List.map_append]
  rfl
theorem erase_perm {α : Type} {xs : List α} {k : Nat} (h : k < xs.length) : ([xs[k]] ++ xs.eraseIdx k).Perm xs := by
  rw [List.eraseIdx_eq_take_drop_succ]
  refine (List.perm_middle (a := xs[k]) (l₁ := xs.take k) (l₂ := xs.drop (k + 1))).symm.trans ?_
  rw [← List.drop_eq_getElem_cons h, List.take_append_drop]
structure Drw (s : Sec) (es left : List Ed) : Prop where
  nd : (es ++ left).Nodup
  ok : ∀ e ∈ es ++ left, OkE s e
  len : (es ++ left).length ≤ 6148
theorem Drw.step {es left : List Ed} (h : Drw s es left) {k : Nat} (hk : k < left.length) : Drw s (es ++ [left[k]]) (left.eraseIdx k) := by
  have hp : (es ++ [left[k]] ++ left.eraseIdx k).Perm (es ++ left) := by
    rw [List.append_assoc]
    exact List.Perm.append_left es (erase_perm hk)
  exact ⟨hp.nodup_iff.mpr h.nd, fun e he => h.ok e (hp.mem_iff.mp he), by rw [hp.length_eq]; exact h.len⟩
def St2e (m : MO) (tl : Store) (left es : List Ed) : Store := m :: (tl ++ [.lst (left.map dEd), .lst (es.map dEd)])
theorem st2_1 (m : MO) (tl : Store) (left es : List Ed) : (St2e m tl left es)[tl.length + 1]? = some (.lst (left.map dEd)) := by
  unfold St2e
  rw [List.getElem?_cons_succ, List.getElem?_append_right (Nat.le_refl _), Nat.sub_self]
  rfl
theorem st2_2 (m : MO) (tl : Store) (left es : List Ed) : (St2e m tl left es)[tl.length + 2]? = some (.lst (es.map dEd)) := by
  unfold St2e
  rw [List.getElem?_cons_succ, List.getElem?_append_right (by omega), show tl.length + 1 - tl.length = 1 by omega]
  rfl
theorem st2_s1 (m : MO) (tl : Store) (left es left' : List Ed) : (St2e m tl left es).set (tl.length + 1) (.lst (left'.map dEd)) = St2e m tl left' es := by
  unfold St2e
  rw [List.set_cons_succ, List.set_append_right (h := Nat.le_refl _), Nat.sub_self]
  rfl
theorem st2_s2 (m : MO) (tl : Store) (left es es' : List Ed) : (St2e m tl left es).set (tl.length + 2) (.lst (es'.map dEd)) = St2e m tl left es' := by
  unfold St2e
  rw [List.set_cons_succ, List.set_append_right (h := by omega), show tl.length + 1 - tl.length = 1 by omega]
  rfl
theorem b1_law {es left : List Ed} (h : Drw s es left) {m : MO} (hm : Vm m) {tl : Store} {x2 x6 x7 x8 x9 x10 x11 x12 x13 : Option D} : ∃ es' left' m', Drw s es' left' ∧ Vm m' ∧
    B1_law (dLe ns s x2 (some (.ref (tl.length + 1))) (some (.ref (tl.length + 2))) x6 x7 x8 x9 x10 x11 x12 x13) (St2e m tl left es) = .ok (.nx (dLe ns s x2 (some (.ref (tl.length + 1))) (some (.ref (tl.length + 2))) x6 x7 x8 x9 x10 x11 x12 x13)) (St2e m' tl left' es') := by
  generalize hδ : dLe ns s x2 (some (.ref (tl.length + 1))) (some (.ref (tl.length + 2))) x6 x7 x8 x9 x10 x11 x12 x13 = δ
  have v4 : ∀ L, eVar 4 δ L = .ok (.ref (tl.length + 1)) L := fun L => var_of (by rw [← hδ]; rfl)
  have v5 : ∀ L, eVar 5 δ L = .ok (.ref (tl.length + 2)) L := fun L => var_of (by rw [← hδ]; rfl)
  have hl := h.len
  rw [List.length_append] at hl
  have lk : look (St2e m tl left es) (.ref (tl.length + 1)) = .lst (left.map dEd) := by
    simp only [look, st2_1]
  have t1 : tVal (eOp cNe (eVar 4) (eLstF aNil)) δ (St2e m tl left es) = .ok (!(left.map dEd).isEmpty) (St2e m tl left es) :=
    tval_of ((op_of (f := cNe) (v4 _) (show eLstF aNil δ _ = .ok (.lst []) (St2e m tl left es) from rfl)).trans (cNe_nil lk (plain_map plain_dEd left)))
  unfold B1_law
  by_cases hz : left.length = 0
  · have : left = [] := List.length_eq_zero_iff.mp hz
    subst this
    exact ⟨es, [], m, h, hm, (if_f t1).trans rfl⟩
  · have hne : (!(left.map dEd).isEmpty) = true := by
      cases left with
      | nil => exact absurd rfl hz
      | cons a b => rfl
    rw [hne] at t1
    obtain ⟨k, m1, e1, hk, hm1⟩ := draw1 (δ := δ) (a := eB bLenS (aCons (eVar 4) aNil)) (n := left.length) (m := m) (tl := tl ++ [.lst (left.map dEd), .lst (es.map dEd)]) (by rw [← hδ]; rfl) (by
      rw [b1_of (v4 _)]
      unfold bLenS
      simp only [seqOf]
      rw [show (m :: (tl ++ [MO.lst (left.map dEd), MO.lst (es.map dEd)]))[tl.length + 1]? = some (.lst (left.map dEd)) from st2_1 m tl left es]
      simp) hm (by omega) (by omega)
    refine ⟨es ++ [left[k]], left.eraseIdx k, m1, h.step hk, hm1, ?_⟩
    rw [if_t t1]
    have pp : eM mPopAt (eVar 4) (aCons (eCall1 2 F__law_taken (aCons (eVar 1) (aCons (eB bLenS (aCons (eVar 4) aNil)) aNil))) aNil) δ (St2e m tl left es) = .ok (dEd left[k]) (St2e m1 tl (left.eraseIdx k) es) := by
      have e1' : eCall1 2 F__law_taken (aCons (eVar 1) (aCons (eB bLenS (aCons (eVar 4) aNil)) aNil)) δ (St2e m tl left es) = .ok (.int (k : Int)) (St2e m1 tl left es) := e1
      unfold eM
      rw [v4]
      simp only [R.andThen, lstOf, st2_1]
      rw [aCons_ok e1' (aNil_eq (L := St2e m1 tl left es))]
      simp only [mPopAt, st2_1]
      rw [if_pos ⟨by omega, by omega⟩, Int.toNat_natCast, List.getElem?_map, List.getElem?_eq_getElem hk]
      simp only [Option.map_some]
      rw [show (left.map dEd).eraseIdx k = (left.eraseIdx k).map dEd from by rw [List.eraseIdx_eq_take_drop_succ, List.eraseIdx_eq_take_drop_succ, List.map_append, List.map_take, List.map_drop], st2_s1]
    rw [app_of (v5 _) (st2_2 m tl left es) pp (st2_2 m1 tl (left.eraseIdx k) es) (by rw [List.length_map]; omega)]
    rw [show es.map dEd ++ [dEd left[k]] = (es ++ [left[k]]).map dEd from by rw [List.map_append]; rfl, st2_s2]
def idxE (k : Nat) (es : List Ed) : List Nat := ((es.zipIdx k).filter fun x => isAd x.1).map (·.2)
theorem idx_split : ∀ (es : List Ed) (k n : Nat), n < (idxE k es).length → ∃ es1 t es2, es = es1 ++ .ad t :: es2 ∧ (addsE es1).length = n ∧ (idxE k es)[n]? = some (k + es1.length)
  | [], k, n, h => nomatch h
  | .pl u :: es, k, n, h => by
    have e : idxE k (.pl u :: es) = idxE (k + 1) es := rfl
    rw [e] at h ⊢
    obtain ⟨es1, t, es2, h1, h2, h3⟩ := idx_split es (k + 1) n h
    exact ⟨.pl u :: es1, t, es2, by rw [h1]; rfl, h2, by rw [h3, List.length_cons]; congr 1; omega⟩
  | .ad z :: es, k, n, h => by
    have e : idxE k (.ad z :: es) = k :: idxE (k + 1) es := rfl
    rw [e] at h ⊢
    cases n with
    | zero => exact ⟨[], z, es, rfl, rfl, rfl⟩
    | succ n =>
      obtain ⟨es1, t, es2, h1, h2, h3⟩ := idx_split es (k + 1) n (by simpa using h)
      refine ⟨.ad z :: es1, t, es2, by rw [h1]; rfl, ?_, ?_⟩
      · rw [addsE_cons, List.length_append, h2]; simp [adE]; omega
      · rw [List.getElem?_cons_succ, h3, List.length_cons]; congr 1; omega
theorem idx_len : ∀ (es : List Ed) (k : Nat), (idxE k es).length = (addsE es).length
  | [], k => rfl
  | .pl u :: es, k => (idx_len es (k + 1)).trans rfl
  | .ad z :: es, k => by
    have e : idxE k (.ad z :: es) = k :: idxE (k + 1) es := rfl
    rw [e, List.length_cons, idx_len es (k + 1), addsE_cons, List.length_append]
    simp [adE]
    omega
def kdE : Ed → Str
  | .ad _ => "add"
  | .pl _ => "plain"
theorem hdE_of (e : Ed) (L : Store) : oIx (dEd e) (.int 0) L = .ok (.str (kdE e)) L := by cases e <;> rfl
theorem c5_law {es : List Ed} (hl : es.length ≤ 50000) {x2 x4 x6 x7 x8 x9 x10 x11 x12 x13 : Option D} {L : Store} : C5_law (dLe ns s x2 x4 (some (.lst (es.map dEd))) x6 x7 x8 x9 x10 x11 x12 x13) L = .ok (.lst ((idxE 0 es).map fun (k : Nat) => D.int (k : Int))) L := by
  unfold C5_law
  refine lcF_t (ts := es.zipIdx) (fun x => D.int (x.2 : Int)) (fun x => isAd x.1) (fun x => D.int (x.2 : Int)) ?_ (fun x hx => ⟨_, rfl, ?_, fun _ => var_of rfl⟩) (by rw [List.length_zipIdx]; omega) (by unfold idxE; rw [List.map_map]; rfl) (flat_map (fun _ => rfl) _)
  · rw [iRng1_nat (len_lst (var_of (d := .lst (es.map dEd)) rfl) (List.length_map _)) (by omega), range_zip]
  · obtain ⟨h1, _⟩ := mem_zip hx
    have e1 : eOp oIx (eVar 5) (eVar 6) ((wipe (dLe ns s x2 x4 (some (.lst (es.map dEd))) x6 x7 x8 x9 x10 x11 x12 x13) [6]).set 6 (some (.int (x.2 : Int)))) L = .ok (dEd x.1) L := by
      rw [op_of (var_of (d := .lst (es.map dEd)) rfl) (var_of (d := .int (x.2 : Int)) rfl), oIx_l, atInt_nat (by rw [List.length_map]; exact (List.getElem?_eq_some_iff.mp h1).1), List.getElem?_map, h1]
      rfl
    refine tval_of (((op_of (f := cEq) ((op_of (f := oIx) e1 (eC_eq (d := .int 0))).trans (hdE_of x.1 L)) (eC_eq (d := .str "add")))).trans (cEq_str.trans ?_))
    cases x.1 <;> rfl
theorem c7_law {es : List Ed} (hl : es.length ≤ 50000) {x2 x4 x6 x7 x8 x9 x10 x11 x12 x13 : Option D} {L : Store} : C7_law (dLe ns s x2 x4 (some (.lst (es.map dEd))) x6 x7 x8 x9 x10 x11 x12 x13) L = .ok (.lst ((es.filter fun e => !isAd e).map dEd)) L := by
  unfold C7_law
  refine lcF_t (ts := es) dEd (fun e => !isAd e) dEd ?_ (fun x hx => ⟨_, rfl, ?_, fun _ => var_of rfl⟩) (by omega) rfl (flatL_Ed _)
  · rw [iSeq_eq, var_of (d := .lst (es.map dEd)) rfl]
    rfl
  · refine tval_of (((op_of (f := cEq) ((op_of (f := oIx) (var_of (d := dEd x) rfl) (eC_eq (d := .int 0))).trans (hdE_of x L)) (eC_eq (d := .str "plain")))).trans (cEq_str.trans ?_))
    cases x <;> rfl
end
end Df
namespace Df
open PySem (Str)
section
variable {s : Sec} {ns : List Int}
theorem Drw.valid {es left : List Ed} (h : Drw s es left) (hf : s.rows.length + (addsE es).length ≤ 12) : Valid s es :=
  ⟨fun e he => h.ok e (List.mem_append_left _ he), (List.nodup_append.mp h.nd).1, hf, by have := h.len; rw [List.length_append] at this; omega⟩
theorem addsE_app (a b : List Ed) : addsE (a ++ b) = addsE a ++ addsE b := by unfold addsE; rw [List.flatMap_append]
theorem Valid.take {es : List Ed} (h : Valid s es) (k : Nat) : Valid s (es.take k) := by
  have hf := h.few
  have hl := h.len
  have e := List.take_append_drop k es
  have ha : (addsE (es.take k)).length + (addsE (es.drop k)).length = (addsE es).length := by rw [← List.length_append, ← addsE_app, e]
  exact ⟨fun x hx => h.ok x (List.mem_of_mem_take hx), (List.take_sublist k es).nodup h.nd, by omega, by rw [List.length_take]; omega⟩
theorem addsE_pls (es : List Ed) : addsE (es.filter fun e => !isAd e) = [] := by
  induction es with
  | nil => rfl
  | cons e es ih =>
    cases e with
    | ad t => rw [List.filter_cons_of_neg (by simp [isAd])]; exact ih
    | pl u => rw [List.filter_cons_of_pos (by simp [isAd]), addsE_cons, ih]; rfl
def plsB (es : List Ed) (b : Bool) : List Ed := (es.filter fun e => !isAd e) ++ List.replicate (if b = true then 1 else 0) (.ad "b")
theorem plsB_valid {es left : List Ed} (h : Drw s es left) {b : Bool} (h12 : s.rows.length ≤ 12) (hb : b = true → s.rows.length < 12) : Valid s (plsB es b) := by
  have hl := h.len
  rw [List.length_append] at hl
  have hfl := List.length_filter_le (fun e => !isAd e) es
  have ha : (addsE (plsB es b)).length = if b = true then 1 else 0 := by
    unfold plsB
    rw [addsE_app, addsE_pls, List.nil_append]
    cases b <;> rfl
  refine ⟨fun e he => ?_, ?_, ?_, ?_⟩
  · rcases List.mem_append.mp he with he | he
    · exact h.ok e (List.mem_append_left _ (List.mem_filter.mp he).1)
    · rw [List.eq_of_mem_replicate he]
      exact ⟨by decide, by decide, by decide⟩
  · refine List.nodup_append.mpr ⟨(List.filter_sublist).nodup (List.nodup_append.mp h.nd).1, by cases b <;> simp, fun x hx y hy e => ?_⟩
    subst e
    have h2 := (List.mem_filter.mp hx).2
    rw [List.eq_of_mem_replicate hy] at h2
    exact nomatch h2
  · rw [ha]
    cases b with
    | true => have := hb rfl; simp; omega
    | false => simp; omega
  · unfold plsB
    rw [List.length_append, List.length_replicate]
    cases b <;> simp <;> omega
theorem word_run {i j : Nat} {δ : Sl} {L L' : Store} {ds : List D} {k : Nat} (hi : δ[i]? = some (some (dSec s))) (hj : δ[j]? = some (some (.lst ds))) (hf : D.flatL ds = true) (h : F_mended [dSec s, .lst ds] [] = .err ⟨"BadEdit", .int (k : Int)⟩ L') :
    eWordV ["BadEdit"] (eCall 2 F_mended (aCons (eVar i) (aCons (eVar j) aNil))) δ L = .ok (.tup [.str "edit", .int (k : Int)]) L := by
  have ec : eCall 2 F_mended (aCons (eVar i) (aCons (eVar j) aNil)) δ L = .err ⟨"BadEdit", .int (k : Int)⟩ L := by
    unfold eCall
    rw [aCons_ok (var_of hi) (aCons_ok (var_of hj) (aNil_eq (L := L)))]
    have fl : ([dSec s, D.lst ds].length = 2 ∧ D.flatL [dSec s, .lst ds] = true) := ⟨rfl, by simp [hf]⟩
    simp only [R.andThen]
    rw [if_pos fl, h]
    rfl
  unfold eWordV
  rw [ec]
  rfl
theorem cne_same {L : Store} {d : D} (hp : d.plain = true) (hd : d.depth ≤ 50) (hlk : look L d = d) : cNe d d L = .ok (.bl false) L := by
  rw [cNe_pl (by rw [hlk]; exact hp) (by rw [hlk]; exact hp) (.inl (by rw [hlk]; exact hd)), hlk]
  have : D.eqv d d = true := by unfold D.eqv; exact beq_iff_eq.mpr rfl
  rw [this]
  rfl
theorem edit_same {δ : Sl} {L : Store} {a b : Ev} {k : Nat} (ha : a δ L = .ok (.tup [.str "edit", .int (k : Int)]) L) (hb : b δ L = .ok (.int (k : Int)) L) : tVal (eOp cNe a (eTup (aCons (eC (.str "edit")) (aCons b aNil)))) δ L = .ok false L := by
  refine tval_of ((op_of (f := cNe) ha (tup_of (aCons_ok (eC_eq (d := .str "edit")) (aCons_ok hb (aNil_eq (L := L)))) (by simp))).trans (cne_same rfl (by simp) rfl))
theorem fit_law (hs : GoodSec 2 s) {es left : List Ed} (h : Drw s es left) {m : MO} {tl : Store} {x2 x4 x6 x9 x10 x11 x12 x13 : Option D} : ∃ es' tl', Valid s es' ∧
    sIf (tVal (eOp cGt (eB bLenS (aCons (eVar 8) aNil)) (eVar 7))) (sSeq (sIf (tVal (eOp cNe (eWordV ["BadEdit"] (eCall 2 F_mended (aCons (eVar 3) (aCons (eVar 5) aNil)))) (eTup (aCons (eC (.str "edit")) (aCons (eOp oIx (eVar 8) (eVar 7)) aNil))))) (sRet (eC (.bl false))) sNil) (sSet (.nm 5) (eFrz (eOp oAdd C7_law (eOp oMulL (eLst (aCons (eTup (aCons (eC (.str "add")) (aCons (eC (.str "b")) aNil))) aNil)) (eInt (eOp cGt (eVar 7) (eC (.int 0))))))))) sNil
      (dLe ns s x2 x4 (some (.lst (es.map dEd))) x6 (some (.int (12 - (s.rows.length : Int)))) (some (.lst ((idxE 0 es).map fun (k : Nat) => D.int (k : Int)))) x9 x10 x11 x12 x13) (m :: tl) =
    .ok (.nx (dLe ns s x2 x4 (some (.lst (es'.map dEd))) x6 (some (.int (12 - (s.rows.length : Int)))) (some (.lst ((idxE 0 es).map fun (k : Nat) => D.int (k : Int)))) x9 x10 x11 x12 x13)) (m :: tl') := by
  have h12 := hs.rows12
  have hlen := h.len
  rw [List.length_append] at hlen
  generalize hδ : dLe ns s x2 x4 (some (.lst (es.map dEd))) x6 (some (.int (12 - (s.rows.length : Int)))) (some (.lst ((idxE 0 es).map fun (k : Nat) => D.int (k : Int)))) x9 x10 x11 x12 x13 = δ
  have v3 : δ[3]? = some (some (dSec s)) := by rw [← hδ]; rfl
  have v5 : δ[5]? = some (some (.lst (es.map dEd))) := by rw [← hδ]; rfl
  have v7 : δ[7]? = some (some (.int (12 - (s.rows.length : Int)))) := by rw [← hδ]; rfl
  have v8 : δ[8]? = some (some (.lst ((idxE 0 es).map fun (k : Nat) => D.int (k : Int)))) := by rw [← hδ]; rfl
  have hil := idx_len es 0
  have t1 : tVal (eOp cGt (eB bLenS (aCons (eVar 8) aNil)) (eVar 7)) δ (m :: tl) = .ok (decide (12 - (s.rows.length : Int) < ((idxE 0 es).length : Int))) (m :: tl) :=
    tval_of ((op_of (f := cGt) (len_lst (var_of v8) (List.length_map _)) (var_of v7)).trans cGt_eq)
  by_cases hc : 12 - (s.rows.length : Int) < ((idxE 0 es).length : Int)
  · rw [decide_eq_true hc] at t1
    obtain ⟨es1, t, es2, h1, h2, h3⟩ := idx_split es 0 (12 - s.rows.length) (by omega)
    have hv1 : Valid s es1 := by
      refine ⟨fun e he => h.ok e (List.mem_append_left _ (by rw [h1]; exact List.mem_append_left _ he)), ?_, by omega, ?_⟩
      · have := (List.nodup_append.mp h.nd).1
        rw [h1] at this
        exact (List.nodup_append.mp this).1
      · have := congrArg List.length h1
        rw [List.length_append] at this
        omega
    have hn : Ed.ad t ∉ es1 := fun z => by
      have := (List.nodup_append.mp h.nd).1
      rw [h1] at this
      exact (List.nodup_append.mp this).2.2 _ z _ List.mem_cons_self rfl
    have ht : GoodS t := h.ok (.ad t) (List.mem_append_left _ (by rw [h1]; simp))
    have hm : F_mended [dSec s, .lst (es.map dEd)] [] = .err ⟨"BadEdit", .int (es1.length : Int)⟩ [.dct (kvE es1)] := by
      have := mended_bad hs hv1 (d := dEd (.ad t)) (rest := es2.map dEd) (.inr ⟨t, rfl, ht, hn, by omega⟩)
      rw [h1, List.map_append, List.map_cons]
      exact this
    have w := word_run (L := m :: tl) v3 v5 (flatL_Ed es) hm
    have o87 : eOp oIx (eVar 8) (eVar 7) δ (m :: tl) = .ok (.int (es1.length : Int)) (m :: tl) := by
      rw [op_of (var_of v8) (var_of v7), oIx_l, show (12 - (s.rows.length : Int)) = ((12 - s.rows.length : Nat) : Int) by omega, atInt_nat (by rw [List.length_map]; omega), List.getElem?_map, h3]
      simp
    refine ⟨plsB es (decide (0 < 12 - (s.rows.length : Int))), tl ++ [.lst [dEd (.ad "b")], .lst (List.replicate (if decide (0 < 12 - (s.rows.length : Int)) = true then 1 else 0) (dEd (.ad "b"))), .dead], plsB_valid h h12 (fun z => by have := of_decide_eq_true z; omega), ?_⟩
    rw [if_t t1, seq_if_f (edit_same w o87)]
    have c7 : C7_law δ (m :: tl) = .ok (.lst ((es.filter fun e => !isAd e).map dEd)) (m :: tl) := by rw [← hδ]; exact c7_law (by omega)
    have eb : eLst (aCons (eTup (aCons (eC (.str "add")) (aCons (eC (.str "b")) aNil))) aNil) δ (m :: tl) = .ok (.ref (tl.length + 1)) (m :: (tl ++ [.lst [dEd (.ad "b")]])) := by
      rw [eLst_eq, aCons_ok (tup_of (ds := xsE (.ad "b")) (aCons_ok (eC_eq (d := .str "add")) (aCons_ok (eC_eq (d := .str "b")) (aNil_eq (L := m :: tl)))) (by simp [xsE])) (aNil_eq (L := m :: tl))]
      rfl
    have ei : eInt (eOp cGt (eVar 7) (eC (.int 0))) δ (m :: (tl ++ [.lst [dEd (.ad "b")]])) = .ok (.int (if decide (0 < 12 - (s.rows.length : Int)) = true then 1 else 0)) (m :: (tl ++ [.lst [dEd (.ad "b")]])) := by
      unfold eInt
      rw [(op_of (f := cGt) (var_of v7) (eC_eq (d := .int 0))).trans cGt_eq]
      rfl
    generalize decide (0 < 12 - (s.rows.length : Int)) = b at ei
    have hk : (m :: (tl ++ [MO.lst [dEd (.ad "b")]]))[tl.length + 1]? = some (.lst [dEd (.ad "b")]) := by
      rw [List.getElem?_cons_succ, List.getElem?_append_right (Nat.le_refl _), Nat.sub_self]
      rfl
    have em : eOp oMulL (eLst (aCons (eTup (aCons (eC (.str "add")) (aCons (eC (.str "b")) aNil))) aNil)) (eInt (eOp cGt (eVar 7) (eC (.int 0)))) δ (m :: tl) = .ok (.ref (tl.length + 2)) (m :: (tl ++ [.lst [dEd (.ad "b")], .lst (List.replicate (if b = true then 1 else 0) (dEd (.ad "b")))])) := by
      rw [op_of (f := oMulL) eb ei]
      unfold oMulL
      simp only [hk]
      cases b <;> simp [alloc]
    have ea : eOp oAdd C7_law (eOp oMulL (eLst (aCons (eTup (aCons (eC (.str "add")) (aCons (eC (.str "b")) aNil))) aNil)) (eInt (eOp cGt (eVar 7) (eC (.int 0))))) δ (m :: tl) = .ok (.ref (tl.length + 3)) (m :: (tl ++ [.lst [dEd (.ad "b")], .lst (List.replicate (if b = true then 1 else 0) (dEd (.ad "b"))), .lst ((plsB es b).map dEd)])) := by
      rw [op_of (f := oAdd) c7 em]
      have hk2 : (m :: (tl ++ [MO.lst [dEd (.ad "b")], MO.lst (List.replicate (if b = true then 1 else 0) (dEd (.ad "b")))]))[tl.length + 2]? = some (.lst (List.replicate (if b = true then 1 else 0) (dEd (.ad "b")))) := by
        rw [List.getElem?_cons_succ, List.getElem?_append_right (by omega), show tl.length + 1 - tl.length = 1 by omega]
        rfl
      have hfl := List.length_filter_le (fun e => !isAd e) es
      unfold oAdd
      simp only [lstOf, hk2]
      rw [if_pos (most_of (by rw [List.length_map, List.length_replicate]; split <;> omega))]
      unfold plsB
      rw [List.map_append, List.map_replicate]
      simp [alloc]
    have ef : eFrz (eOp oAdd C7_law (eOp oMulL (eLst (aCons (eTup (aCons (eC (.str "add")) (aCons (eC (.str "b")) aNil))) aNil)) (eInt (eOp cGt (eVar 7) (eC (.int 0)))))) δ (m :: tl) = .ok (.lst ((plsB es b).map dEd)) (m :: (tl ++ [.lst [dEd (.ad "b")], .lst (List.replicate (if b = true then 1 else 0) (dEd (.ad "b"))), .dead])) := by
      unfold eFrz
      rw [ea]
      have hk3 : (m :: (tl ++ [MO.lst [dEd (.ad "b")], MO.lst (List.replicate (if b = true then 1 else 0) (dEd (.ad "b"))), .lst ((plsB es b).map dEd)]))[tl.length + 3]? = some (.lst ((plsB es b).map dEd)) := by
        rw [List.getElem?_cons_succ, List.getElem?_append_right (by omega), show tl.length + 2 - tl.length = 2 by omega]
        rfl
      simp only [R.andThen, freeze, hk3]
      rw [if_pos (flatL_Ed _), List.set_cons_succ, List.set_append_right (h := by omega), show tl.length + 2 - tl.length = 2 by omega]
      rfl
    rw [set_of ef, ← hδ]
    rfl
  · rw [decide_eq_false hc] at t1
    refine ⟨es, tl, h.valid (by omega), ?_⟩
    rw [if_f t1, ← hδ]
    rfl
noncomputable def B2u : Sv := (sSeq (sSet (.nm 6) (eCall1 2 F__law_taken (aCons (eVar 1) (aCons (eOp oAdd (eB bLenS (aCons (eVar 5) aNil)) (eC (.int 1))) aNil)))) (sSeq (sSet (.nm 10) (eOp oAddF (eOp oAddF (eOp oAddF (eSliceF (eVar 5) .no (.at (eVar 6))) (eLstF (aCons (eCall1 3 F__law_odd (aCons (eVar 1) (aCons (eVar 3) (aCons (eSliceF (eVar 5) .no (.at (eVar 6))) aNil)))) aNil))) (eSliceF (eVar 5) (.at (eVar 6)) .no)) (eOp oMulL (eLst (aCons (eTup aNil) aNil)) (eCall1 2 F__law_taken (aCons (eVar 1) (aCons (eC (.int 2)) aNil)))))) (sIf (tVal (eOp cNe (eWordV ["BadEdit"] (eCall 2 F_mended (aCons (eVar 3) (aCons (eVar 10) aNil)))) (eTup (aCons (eC (.str "edit")) (aCons (eVar 6) aNil))))) (sRet (eC (.bl false))) sNil)))
noncomputable def B2t : Sv := (sSeq (sSet (.nm 9) (eB bListF (aCons (eVar 5) aNil))) (sSeq (sIf (tOr (tNot (tVal (eCallF 2 (F__law_alike 12) (aCons (eCallF 2 F_mended (aCons (eVar 3) (aCons (eVar 9) aNil))) (aCons (eCallA 2 F__law_edited (aCons (eVar 3) (aCons (eVar 5) aNil))) aNil))))) (tVal (eOp cNe (eVar 9) (eVar 5)))) (sRet (eC (.bl false))) sNil) B2u))
theorem slF_hi {δ : Sl} {L : Store} {i j : Nat} {E : List Ed} {k : Nat} (hi : δ[i]? = some (some (.lst (E.map dEd)))) (hj : δ[j]? = some (some (.int (k : Int)))) (hk : k ≤ 100000) : eSliceF (eVar i) .no (.at (eVar j)) δ L = .ok (.lst ((E.take k).map dEd)) L := by
  unfold eSliceF
  rw [var_of hi]
  have h1 : -(2 ^ 62 : Int) < (k : Int) ∧ (k : Int) < 2 ^ 62 := by omega
  have h2 : ¬ ((k : Int) < 0) := by omega
  have hv := var_of (L := L) hj
  simp only [R.andThen, Pt.run, hv, h1, and_self, if_true, lstOf, cutL, ixOf, h2, if_false, Int.toNat_natCast, List.drop_zero, Nat.sub_zero]
  rw [List.take_eq_take_iff.mpr (show min (min k (E.map dEd).length) (E.map dEd).length = min k (E.map dEd).length by omega), ← List.map_take]
  exact frozen_l (flatL_Ed _)
theorem slF_lo {δ : Sl} {L : Store} {i j : Nat} {E : List Ed} {k : Nat} (hi : δ[i]? = some (some (.lst (E.map dEd)))) (hj : δ[j]? = some (some (.int (k : Int)))) (hk : k ≤ E.length) (hk2 : k ≤ 100000) : eSliceF (eVar i) (.at (eVar j)) .no δ L = .ok (.lst ((E.drop k).map dEd)) L := by
  unfold eSliceF
  rw [var_of hi]
  have h1 : -(2 ^ 62 : Int) < (k : Int) ∧ (k : Int) < 2 ^ 62 := by omega
  have h2 : ¬ ((k : Int) < 0) := by omega
  have hv := var_of (L := L) hj
  simp only [R.andThen, Pt.run, hv, h1, and_self, if_true, lstOf, cutL, ixOf, h2, if_false, Int.toNat_natCast]
  rw [Nat.min_eq_left (by rw [List.length_map]; exact hk), List.take_of_length_le (by simp), ← List.map_drop]
  exact frozen_l (flatL_Ed _)
theorem flat_cat {xs ys : List D} (h1 : D.flatL xs = true) (h2 : D.flatL ys = true) : D.flatL (xs ++ ys) = true := by
  induction xs with
  | nil => exact h2
  | cons x xs ih =>
    rw [flatL_cons, Bool.and_eq_true] at h1
    rw [List.cons_append, flatL_cons, h1.1, ih h1.2]
    rfl
theorem addF_run {xs ys : List D} {y : D} {L : Store} (h1 : lstOf L y = some ys) (h2 : xs.length + ys.length ≤ 100000) (h3 : D.flatL (xs ++ ys) = true) : oAddF (.lst xs) y L = .ok (.lst (xs ++ ys)) L := by
  unfold oAddF
  rw [h1]
  show (if xs.length + ys.length ≤ most then frozen (.lst (xs ++ ys)) L else .bad) = _
  rw [if_pos (most_of h2)]
  exact frozen_l h3
theorem bad_run (hs : GoodSec 2 s) {E : List Ed} {k : Nat} (hk : k ≤ E.length) (hEl : E.length ≤ 50000) (hVk : Valid s (E.take k)) {m6 : MO} (hm6 : Vm m6) {t3 : Store} {δ : Sl} (v1 : δ[1]? = some (some (.ref 0))) (v3 : δ[3]? = some (some (dSec s))) (v5 : δ[5]? = some (some (.lst (E.map dEd)))) (v6 : δ[6]? = some (some (.int (k : Int)))) :
    ∃ d j m8 t4, NoE s (E.take k) d ∧ j < 2 ∧ Vm m8 ∧ (eOp oAddF (eOp oAddF (eOp oAddF (eSliceF (eVar 5) .no (.at (eVar 6))) (eLstF (aCons (eCall1 3 F__law_odd (aCons (eVar 1) (aCons (eVar 3) (aCons (eSliceF (eVar 5) .no (.at (eVar 6))) aNil)))) aNil))) (eSliceF (eVar 5) (.at (eVar 6)) .no)) (eOp oMulL (eLst (aCons (eTup aNil) aNil)) (eCall1 2 F__law_taken (aCons (eVar 1) (aCons (eC (.int 2)) aNil))))) δ (m6 :: t3) = .ok (.lst ((E.take k).map dEd ++ d :: ((E.drop k).map dEd ++ List.replicate j (.tup [])))) (m8 :: t4) := by
  obtain ⟨d, m7, q7, hno, hm7⟩ := drawn_odd hs hVk.ok hVk.len hm6
  have eo : eCall1 3 F__law_odd (aCons (eVar 1) (aCons (eVar 3) (aCons (eSliceF (eVar 5) .no (.at (eVar 6))) aNil))) δ (m6 :: t3) = .ok d (m7 :: t3) :=
    call1_eq (r := [dSec s, .lst ((E.take k).map dEd)]) (aCons_ok (var_of v1) (aCons_ok (var_of v3) (aCons_ok (slF_hi v5 v6 (by omega)) (aNil_eq (L := m6 :: t3))))) q7 rfl (by rw [flatL_cons, flatL_cons, flat_dSec, flat_lst, flatL_Ed]; rfl) hm6.flat
  have eL : eLst (aCons (eTup aNil) aNil) δ (m7 :: t3) = .ok (.ref (t3.length + 1)) (m7 :: (t3 ++ [.lst [.tup []]])) := by
    rw [eLst_eq, aCons_ok etup0 (aNil_eq (L := m7 :: t3))]
    rfl
  obtain ⟨j, m8, q8, hj, hm8⟩ := draw1 (δ := δ) (a := eC (.int 2)) (n := 2) (m := m7) (tl := t3 ++ [.lst [.tup []]]) v1 rfl hm7 (by omega) (by omega)
  have em : eOp oMulL (eLst (aCons (eTup aNil) aNil)) (eCall1 2 F__law_taken (aCons (eVar 1) (aCons (eC (.int 2)) aNil))) δ (m7 :: t3) = .ok (.ref (t3.length + 2)) (m8 :: (t3 ++ [.lst [.tup []], .lst (List.replicate j (.tup []))])) := by
    rw [op_of (f := oMulL) eL q8]
    have hk8 : (m8 :: (t3 ++ [MO.lst [.tup []]]))[t3.length + 1]? = some (.lst [.tup []]) := by
      rw [List.getElem?_cons_succ, List.getElem?_append_right (Nat.le_refl _), Nat.sub_self]
      rfl
    unfold oMulL
    simp only [hk8]
    rw [if_pos ⟨by omega, by omega, by simp⟩, Int.toNat_natCast]
    simp [alloc]
  have hkl : (m8 :: (t3 ++ [MO.lst [.tup []], MO.lst (List.replicate j (.tup []))]))[t3.length + 2]? = some (.lst (List.replicate j (.tup []))) := by
    rw [List.getElem?_cons_succ, List.getElem?_append_right (by omega), show t3.length + 1 - t3.length = 1 by omega]
    rfl
  have frep : D.flatL (List.replicate j (D.tup [])) = true := by
    have : j = 0 ∨ j = 1 := by omega
    rcases this with rfl | rfl <;> rfl
  have hT : (E.take k).length + (E.drop k).length ≤ 50000 := by rw [List.length_take, List.length_drop]; omega
  have f0 : D.flatL [d] = true := by rw [flatL_cons, hno.flat]; rfl
  have f1 : D.flatL ((E.take k).map dEd ++ [d]) = true := flat_cat (flatL_Ed _) f0
  have a1 := (op_of (f := oAddF) (slF_hi (L := m6 :: t3) v5 v6 (by omega)) (lstF_of (aCons_ok eo (aNil_eq (L := m7 :: t3))) (by simp) f0)).trans (addF_run (xs := (E.take k).map dEd) (y := .lst [d]) (ys := [d]) rfl (by rw [List.length_map, List.length_singleton]; omega) f1)
  have a2 := (op_of (f := oAddF) a1 (slF_lo (L := m7 :: t3) v5 v6 hk (by omega))).trans (addF_run (xs := (E.take k).map dEd ++ [d]) (y := .lst ((E.drop k).map dEd)) (ys := (E.drop k).map dEd) rfl (by rw [List.length_append, List.length_map, List.length_map, List.length_singleton]; omega) (flat_cat f1 (flatL_Ed _)))
  have a3 := (op_of (f := oAddF) a2 em).trans (addF_run (xs := (E.take k).map dEd ++ [d] ++ (E.drop k).map dEd) (y := .ref (t3.length + 2)) (ys := List.replicate j (.tup [])) (by simp only [lstOf, hkl]) (by rw [List.length_append, List.length_append, List.length_map, List.length_map, List.length_singleton, List.length_replicate]; omega) (flat_cat (flat_cat f1 (flatL_Ed _)) frep))
  refine ⟨d, j, m8, t3 ++ [.lst [.tup []], .lst (List.replicate j (.tup []))], hno, hj, hm8, a3.trans ?_⟩
  rw [List.append_assoc, List.append_assoc]
  rfl
theorem u_law (hs : GoodSec 2 s) {E : List Ed} (hV : Valid s E) (hEl : E.length ≤ 50000) {m : MO} (hm : Vm m) {tl : Store} {x2 x4 x6 x7 x8 x9 x10 x11 x12 x13 : Option D} :
    ∃ y6 y10 m' tl', B2u (dLe ns s x2 x4 (some (.lst (E.map dEd))) x6 x7 x8 x9 x10 x11 x12 x13) (m :: tl) = .ok (.nx (dLe ns s x2 x4 (some (.lst (E.map dEd))) y6 x7 x8 x9 y10 x11 x12 x13)) (m' :: tl') ∧ Vm m' := by
  obtain ⟨k, m6, q6, hk, hm6⟩ := draw1 (δ := dLe ns s x2 x4 (some (.lst (E.map dEd))) x6 x7 x8 x9 x10 x11 x12 x13) (a := eOp oAdd (eB bLenS (aCons (eVar 5) aNil)) (eC (.int 1))) (n := E.length + 1) (m := m) (tl := tl) rfl ((op_of (f := oAdd) (len_lst (var_of (d := .lst (E.map dEd)) rfl) (List.length_map _)) (eC_eq (d := .int 1))).trans oAdd_int) hm (by omega) (by omega)
  have hVk := hV.take k
  obtain ⟨d, j, m8, t4, hno, hj, hm8, eb⟩ := bad_run hs (E := E) (k := k) (by omega) hEl hVk hm6 (t3 := tl) (δ := dLe ns s x2 x4 (some (.lst (E.map dEd))) (some (.int (k : Int))) x7 x8 x9 x10 x11 x12 x13) rfl rfl rfl rfl
  have frep : D.flatL (List.replicate j (D.tup [])) = true := by
    have : j = 0 ∨ j = 1 := by omega
    rcases this with rfl | rfl <;> rfl
  have fbad : D.flatL ((E.take k).map dEd ++ d :: ((E.drop k).map dEd ++ List.replicate j (.tup []))) = true := by
    refine flat_cat (flatL_Ed _) ?_
    rw [flatL_cons, hno.flat, flat_cat (flatL_Ed _) frep]
    rfl
  have hbad := mended_bad hs hVk (d := d) (rest := (E.drop k).map dEd ++ List.replicate j (.tup [])) (.inl (by
    obtain ⟨xs, hx⟩ := hno.tup
    exact ⟨xs, hx, hno.bad⟩))
  rw [show (E.take k).length = k from by rw [List.length_take]; omega] at hbad
  generalize hB : (E.take k).map dEd ++ d :: ((E.drop k).map dEd ++ List.replicate j (.tup [])) = Bs at fbad hbad eb
  have w := word_run (s := s) (k := k) (ds := Bs) (i := 3) (j := 10) (δ := dLe ns s x2 x4 (some (.lst (E.map dEd))) (some (.int (k : Int))) x7 x8 x9 (some (.lst Bs)) x11 x12 x13) (L := m8 :: t4) rfl rfl fbad hbad
  refine ⟨some (.int (k : Int)), some (.lst Bs), m8, t4, ?_, hm8⟩
  unfold B2u
  rw [seq_set q6]
  show sSeq _ _ (dLe ns s x2 x4 (some (.lst (E.map dEd))) (some (.int (k : Int))) x7 x8 x9 x10 x11 x12 x13) (m6 :: tl) = _
  rw [seq_set eb]
  show sIf _ _ _ (dLe ns s x2 x4 (some (.lst (E.map dEd))) (some (.int (k : Int))) x7 x8 x9 (some (.lst Bs)) x11 x12 x13) (m8 :: t4) = _
  exact (if_f (edit_same w (var_of rfl))).trans rfl
theorem t_law (hs : GoodSec 2 s) {E : List Ed} (hV : Valid s E) (hEl : E.length ≤ 50000) {m5 : MO} (hm5 : Vm m5) {t3 : Store} {x2 x4 y6 x7 x8 x9 x10 x11 x12 x13 : Option D} :
    ∃ y6' y9 y10 m' tl', B2t (dLe ns s x2 x4 (some (.lst (E.map dEd))) y6 x7 x8 x9 x10 x11 x12 x13) (m5 :: t3) = .ok (.nx (dLe ns s x2 x4 (some (.lst (E.map dEd))) y6' x7 x8 y9 y10 x11 x12 x13)) (m' :: tl') ∧ Vm m' := by
  unfold B2t
  rw [seq_set ((b1_of (f := bListF) (var_of (d := .lst (E.map dEd)) rfl)).trans (show bListF [.lst (E.map dEd)] (m5 :: t3) = .ok (.lst (E.map dEd)) (m5 :: t3) from frozen_l (flatL_Ed E)))]
  show ∃ y6' y9 y10 m' tl', sSeq _ _ (dLe ns s x2 x4 (some (.lst (E.map dEd))) y6 x7 x8 (some (.lst (E.map dEd))) x10 x11 x12 x13) (m5 :: t3) = _ ∧ _
  have hG := edS_good hs hV
  have ca : tVal (eCallF 2 (F__law_alike 12) (aCons (eCallF 2 F_mended (aCons (eVar 3) (aCons (eVar 9) aNil))) (aCons (eCallA 2 F__law_edited (aCons (eVar 3) (aCons (eVar 5) aNil))) aNil))) (dLe ns s x2 x4 (some (.lst (E.map dEd))) y6 x7 x8 (some (.lst (E.map dEd))) x10 x11 x12 x13) (m5 :: t3) = .ok true (m5 :: t3) := by
    have a1 := call2 (val_mended hs hV) (δ := dLe ns s x2 x4 (some (.lst (E.map dEd))) y6 x7 x8 (some (.lst (E.map dEd))) x10 x11 x12 x13) (L := m5 :: t3) (aCons_ok (var_of (i := 3) rfl) (aCons_ok (var_of (i := 9) rfl) (aNil_eq (L := m5 :: t3)))) (by rw [flat_dSec, flat_lst, flatL_Ed]; rfl)
    have a2 : eCallA 2 F__law_edited (aCons (eVar 3) (aCons (eVar 5) aNil)) (dLe ns s x2 x4 (some (.lst (E.map dEd))) y6 x7 x8 (some (.lst (E.map dEd))) x10 x11 x12 x13) (m5 :: t3) = .ok (dSec (edS s E)) (m5 :: t3) := by
      unfold eCallA
      rw [aCons_ok (var_of (d := dSec s) rfl) (aCons_ok (var_of (d := .lst (E.map dEd)) rfl) (aNil_eq (L := m5 :: t3)))]
      simp only [R.andThen]
      rw [if_pos (show [dSec s, D.lst (E.map dEd)].length = 2 from rfl)]
      exact law_edited hs hV
    exact tval_of (call2 (alike_sec hG) (aCons_ok a1 (aCons_ok a2 (aNil_eq (L := m5 :: t3)))) (by simp))
  have cn : tVal (eOp cNe (eVar 9) (eVar 5)) (dLe ns s x2 x4 (some (.lst (E.map dEd))) y6 x7 x8 (some (.lst (E.map dEd))) x10 x11 x12 x13) (m5 :: t3) = .ok false (m5 :: t3) :=
    tval_of ((op_of (f := cNe) (var_of (d := .lst (E.map dEd)) rfl) (var_of (d := .lst (E.map dEd)) rfl)).trans (cne_same (by rw [plain_lst]; exact plain_map plain_dEd E) (by rw [depth_lst]; have := depth_map depth_dEd E; omega) rfl))
  rw [seq_if_f ((tor_f (tnot_of ca)).trans cn)]
  obtain ⟨z6, z10, m', tl', e, hm'⟩ := u_law hs hV hEl hm5 (ns := ns) (tl := t3) (x2 := x2) (x4 := x4) (x6 := y6) (x7 := x7) (x8 := x8) (x9 := some (.lst (E.map dEd))) (x10 := x10) (x11 := x11) (x12 := x12) (x13 := x13)
  exact ⟨z6, _, z10, m', tl', e, hm'⟩
end
theorem law_true : LawTrue F_law := fun ns hns => by
  refine law_frame (n := 14) (k := 3) (B := B2_law) (by decide) (by decide) (fun ns rest m tl hr hm => ?_) ns hns
  match rest, hr with
  | [x2, x3, x4, x5, x6, x7, x8, x9, x10, x11, x12, x13], _ =>
  obtain ⟨d, m1, e3, ⟨s, hs, rfl⟩, hm1⟩ := drawn_paper hm
  have c3 : eCall1 1 F__law_paper (aCons (eVar 1) aNil) [some (.scr ns), some (.ref 0), x2, x3, x4, x5, x6, x7, x8, x9, x10, x11, x12, x13] (m :: tl) = .ok (dSec s) (m1 :: tl) :=
    call1_eq (r := []) (aCons_ok (var_of rfl) (aNil_eq (L := m :: tl))) e3 rfl rfl hm.flat
  have h12 := hs.rows12
  unfold B2_law
  rw [seq_set c3]
  show ∃ rest' m' tl', sSeq _ _ (dLe ns s x2 x4 x5 x6 x7 x8 x9 x10 x11 x12 x13) (m1 :: tl) = _ ∧ _
  rw [seq_set (left_run hs)]
  show ∃ rest' m' tl', sSeq _ _ (dLe ns s x2 (some (.ref (tl.length + 1))) x5 x6 x7 x8 x9 x10 x11 x12 x13) (m1 :: (tl ++ [.lst ((left0 s).map dEd)])) = _ ∧ _
  have el : ∀ δ, eLst aNil δ (m1 :: (tl ++ [MO.lst ((left0 s).map dEd)])) = .ok (.ref (tl.length + 2)) (St2e m1 tl (left0 s) []) := fun δ => by
    rw [eLst_eq, aNil_eq]
    simp [alloc, St2e, most]
  rw [seq_set (el _)]
  show ∃ rest' m' tl', sSeq _ _ (dLe ns s x2 (some (.ref (tl.length + 1))) (some (.ref (tl.length + 2))) x6 x7 x8 x9 x10 x11 x12 x13) (St2e m1 tl (left0 s) []) = _ ∧ _
  have hL0 := left0_len hs
  have D0 : Drw s [] (left0 s) := ⟨left0_nd s, left0_ok s, hL0⟩
  -- how many turns
  obtain ⟨k1, m2, q1, hk1, hm2⟩ := draw1 (δ := dLe ns s x2 (some (.ref (tl.length + 1))) (some (.ref (tl.length + 2))) x6 x7 x8 x9 x10 x11 x12 x13) (a := eOp oAdd (eB bLenS (aCons (eVar 4) aNil)) (eC (.int 1))) (n := (left0 s).length + 1) (m := m1) (tl := tl ++ [.lst ((left0 s).map dEd), .lst (([] : List Ed).map dEd)]) rfl (by
      refine (op_of (f := oAdd) (x := .int ((left0 s).length : Int)) ?_ (eC_eq (d := .int 1))).trans oAdd_int
      rw [b1_of (var_of (d := .ref (tl.length + 1)) rfl)]
      unfold bLenS
      simp only [seqOf]
      rw [show (m1 :: (tl ++ [MO.lst ((left0 s).map dEd), MO.lst (([] : List Ed).map dEd)]))[tl.length + 1]? = some (.lst ((left0 s).map dEd)) from st2_1 m1 tl (left0 s) []]
      simp) hm1 (by omega) (by omega)
  obtain ⟨k2, m3, q2, hk2, hm3⟩ := draw1 (δ := dLe ns s x2 (some (.ref (tl.length + 1))) (some (.ref (tl.length + 2))) x6 x7 x8 x9 x10 x11 x12 x13) (a := eC (.int 2)) (n := 2) (m := m2) (tl := tl ++ [.lst ((left0 s).map dEd), .lst (([] : List Ed).map dEd)]) rfl rfl hm2 (by omega) (by omega)
  obtain ⟨k3, m4, q3, hk3, hm4⟩ := draw1 (δ := dLe ns s x2 (some (.ref (tl.length + 1))) (some (.ref (tl.length + 2))) x6 x7 x8 x9 x10 x11 x12 x13) (a := eC (.int 4)) (n := 4) (m := m3) (tl := tl ++ [.lst ((left0 s).map dEd), .lst (([] : List Ed).map dEd)]) rfl rfl hm3 (by omega) (by omega)
  have hkk : k1 * k2 ≤ 6149 := by
    have : k2 = 0 ∨ k2 = 1 := by omega
    rcases this with z | z <;> rw [z] <;> omega
  have many : eOp oAdd (eOp oMul (eCall1 2 F__law_taken (aCons (eVar 1) (aCons (eOp oAdd (eB bLenS (aCons (eVar 4) aNil)) (eC (.int 1))) aNil))) (eCall1 2 F__law_taken (aCons (eVar 1) (aCons (eC (.int 2)) aNil)))) (eCall1 2 F__law_taken (aCons (eVar 1) (aCons (eC (.int 4)) aNil))) (dLe ns s x2 (some (.ref (tl.length + 1))) (some (.ref (tl.length + 2))) x6 x7 x8 x9 x10 x11 x12 x13) (St2e m1 tl (left0 s) []) = .ok (.int ((k1 * k2 + k3 : Nat) : Int)) (St2e m4 tl (left0 s) []) := by
    have mm : eOp oMul (eCall1 2 F__law_taken (aCons (eVar 1) (aCons (eOp oAdd (eB bLenS (aCons (eVar 4) aNil)) (eC (.int 1))) aNil))) (eCall1 2 F__law_taken (aCons (eVar 1) (aCons (eC (.int 2)) aNil))) (dLe ns s x2 (some (.ref (tl.length + 1))) (some (.ref (tl.length + 2))) x6 x7 x8 x9 x10 x11 x12 x13) (St2e m1 tl (left0 s) []) = .ok (.int ((k1 * k2 : Nat) : Int)) (St2e m3 tl (left0 s) []) := by
      refine (op_of (f := oMul) q1 q2).trans ?_
      unfold oMul
      simp only
      rw [if_pos (by omega)]
      rw [Int.natCast_mul]
      rfl
    refine (op_of (f := oAdd) mm q3).trans ?_
    rw [oAdd_int]
    rfl
  obtain ⟨δ', L', lp, es, left, m5, y6, hD, rfl, rfl, hm5⟩ := for_acc (tg := .nm 6) (b := B1_law) (fun (i : Nat) => D.int (i : Int))
    (fun _ δ L => ∃ es left m' y6, Drw s es left ∧ δ = dLe ns s x2 (some (.ref (tl.length + 1))) (some (.ref (tl.length + 2))) y6 x7 x8 x9 x10 x11 x12 x13 ∧ L = St2e m' tl left es ∧ Vm m') (List.range (k1 * k2 + k3)) []
    (dLe ns s x2 (some (.ref (tl.length + 1))) (some (.ref (tl.length + 2))) x6 x7 x8 x9 x10 x11 x12 x13) (St2e m4 tl (left0 s) []) ⟨[], left0 s, m4, x6, D0, rfl, rfl, hm4⟩ (fun dn i δ L hi hpre hI => by
      obtain ⟨es, left, m', y6, hD, rfl, rfl, hm'⟩ := hI
      obtain ⟨es', left', m'', hD', hm'', hb⟩ := b1_law hD hm' (ns := ns) (tl := tl) (x2 := x2) (x6 := some (.int (i : Int))) (x7 := x7) (x8 := x8) (x9 := x9) (x10 := x10) (x11 := x11) (x12 := x12) (x13 := x13)
      exact ⟨_, _, _, rfl, hb, es', left', m'', _, hD', rfl, rfl, hm''⟩)
  have lf : sFor (.nm 6) (iRng1 (eOp oAdd (eOp oMul (eCall1 2 F__law_taken (aCons (eVar 1) (aCons (eOp oAdd (eB bLenS (aCons (eVar 4) aNil)) (eC (.int 1))) aNil))) (eCall1 2 F__law_taken (aCons (eVar 1) (aCons (eC (.int 2)) aNil)))) (eCall1 2 F__law_taken (aCons (eVar 1) (aCons (eC (.int 4)) aNil))))) B1_law (dLe ns s x2 (some (.ref (tl.length + 1))) (some (.ref (tl.length + 2))) x6 x7 x8 x9 x10 x11 x12 x13) (St2e m1 tl (left0 s) []) = .ok (.nx (dLe ns s x2 (some (.ref (tl.length + 1))) (some (.ref (tl.length + 2))) y6 x7 x8 x9 x10 x11 x12 x13)) (St2e m5 tl left es) := by
    rw [sFor_eq, iRng1_nat many (by omega)]
    exact lp
  rw [seq_nx lf]
  have fz : sFrz 5 (dLe ns s x2 (some (.ref (tl.length + 1))) (some (.ref (tl.length + 2))) y6 x7 x8 x9 x10 x11 x12 x13) (St2e m5 tl left es) = .ok (.nx (dLe ns s x2 (some (.ref (tl.length + 1))) (some (.lst (es.map dEd))) y6 x7 x8 x9 x10 x11 x12 x13)) (m5 :: (tl ++ [.lst (left.map dEd), .dead])) := by
    show R.andThen (freeze (.ref (tl.length + 2)) (St2e m5 tl left es)) _ = _
    simp only [freeze, st2_2]
    rw [if_pos (flatL_Ed _)]
    unfold St2e
    rw [List.set_cons_succ, List.set_append_right (h := by omega), show tl.length + 1 - tl.length = 1 by omega]
    rfl
  rw [seq_nx fz]
  generalize tl ++ [MO.lst (left.map dEd), MO.dead] = t2
  have hlen := hD.len
  rw [List.length_append] at hlen
  have e7 : eOp oSub (eC (.int 12)) (eB bLenS (aCons (eOp oIx (eVar 3) (eC (.int 0))) aNil)) (dLe ns s x2 (some (.ref (tl.length + 1))) (some (.lst (es.map dEd))) y6 x7 x8 x9 x10 x11 x12 x13) (m5 :: t2) = .ok (.int (12 - (s.rows.length : Int))) (m5 :: t2) :=
    (op_of (f := oSub) (eC_eq (d := .int 12)) (len_tup ((op_of (f := oIx) (var_of (d := dSec s) rfl) (eC_eq (d := .int 0))).trans sec0) (List.length_map _))).trans oSub_int
  rw [seq_set e7]
  show ∃ rest' m' tl', sSeq _ _ (dLe ns s x2 (some (.ref (tl.length + 1))) (some (.lst (es.map dEd))) y6 (some (.int (12 - (s.rows.length : Int)))) x8 x9 x10 x11 x12 x13) (m5 :: t2) = _ ∧ _
  rw [seq_set (c5_law (by omega))]
  show ∃ rest' m' tl', sSeq _ _ (dLe ns s x2 (some (.ref (tl.length + 1))) (some (.lst (es.map dEd))) y6 (some (.int (12 - (s.rows.length : Int)))) (some (.lst ((idxE 0 es).map fun (k : Nat) => D.int (k : Int)))) x9 x10 x11 x12 x13) (m5 :: t2) = _ ∧ _
  obtain ⟨E, t3, hV, hfit⟩ := fit_law hs hD (ns := ns) (m := m5) (tl := t2) (x2 := x2) (x4 := some (.ref (tl.length + 1))) (x6 := y6) (x9 := x9) (x10 := x10) (x11 := x11) (x12 := x12) (x13 := x13)
  rw [seq_nx hfit]
  generalize (some (D.ref (tl.length + 1))) = x4
  generalize (some (D.int (12 - (s.rows.length : Int)))) = x7
  generalize (some (D.lst ((idxE 0 es).map fun (k : Nat) => D.int (k : Int)))) = x8
  have hEl := hV.len
  obtain ⟨z6, z9, z10, m', tl', e, hm'⟩ := t_law hs hV hEl hm5 (ns := ns) (t3 := t3) (x2 := x2) (x4 := x4) (y6 := y6) (x7 := x7) (x8 := x8) (x9 := x9) (x10 := x10) (x11 := x11) (x12 := x12) (x13 := x13)
  exact ⟨_, m', tl', e, rfl, hm'⟩
end Df
namespace Df
open PySem PySem.Spec PyProof.Rows L2
set_option maxHeartbeats 0 in
theorem top_at {K : PySem.W.Frag} {h : Heap} {mg : Str → Option Value} (X : K.In h) (G : h.Ns mainGlobals mg)
    {f0 : Addr} {oc0 : Value} {od0 an0 : Option Addr} {sl0 : Array (Option Value)} {kV0 dc0 pm0 cd0 ct0 : Value}
    (a0 : PySem.W.nsIn K mainGlobals "is_number" = some (some (.ref f0))) (l0 : K.lookup f0 = some ⟨oc0, od0, .func (PySem.W.fnOf "is_number" "is_number" (defArgs (topS 20)) (defBody (topS 20)) (defScope (topS 20)) .none kV0 dc0 pm0 an0 cd0 ct0), sl0⟩) (c0 : PySem.W.codeIn K cd0 "is_number" = true) (k0 : PySem.W.keepIn K (.ref f0) = true)
    {f1 : Addr} {oc1 : Value} {od1 an1 : Option Addr} {sl1 : Array (Option Value)} {kV1 dc1 pm1 cd1 ct1 : Value}
    (a1 : PySem.W.nsIn K mainGlobals "is_word" = some (some (.ref f1))) (l1 : K.lookup f1 = some ⟨oc1, od1, .func (PySem.W.fnOf "is_word" "is_word" (defArgs (topS 21)) (defBody (topS 21)) (defScope (topS 21)) .none kV1 dc1 pm1 an1 cd1 ct1), sl1⟩) (c1 : PySem.W.codeIn K cd1 "is_word" = true) (k1 : PySem.W.keepIn K (.ref f1) = true)
    {f2 : Addr} {oc2 : Value} {od2 an2 : Option Addr} {sl2 : Array (Option Value)} {kV2 dc2 pm2 cd2 ct2 : Value}
    (a2 : PySem.W.nsIn K mainGlobals "is_use" = some (some (.ref f2))) (l2 : K.lookup f2 = some ⟨oc2, od2, .func (PySem.W.fnOf "is_use" "is_use" (defArgs (topS 22)) (defBody (topS 22)) (defScope (topS 22)) .none kV2 dc2 pm2 an2 cd2 ct2), sl2⟩) (c2 : PySem.W.codeIn K cd2 "is_use" = true) (k2 : PySem.W.keepIn K (.ref f2) = true)
    {f3 : Addr} {oc3 : Value} {od3 an3 : Option Addr} {sl3 : Array (Option Value)} {kV3 dc3 pm3 cd3 ct3 : Value}
    (a3 : PySem.W.nsIn K mainGlobals "are_words" = some (some (.ref f3))) (l3 : K.lookup f3 = some ⟨oc3, od3, .func (PySem.W.fnOf "are_words" "are_words" (defArgs (topS 23)) (defBody (topS 23)) (defScope (topS 23)) .none kV3 dc3 pm3 an3 cd3 ct3), sl3⟩) (c3 : PySem.W.codeIn K cd3 "are_words" = true) (k3 : PySem.W.keepIn K (.ref f3) = true)
    {f4 : Addr} {oc4 : Value} {od4 an4 : Option Addr} {sl4 : Array (Option Value)} {kV4 dc4 pm4 cd4 ct4 : Value}
    (a4 : PySem.W.nsIn K mainGlobals "is_row" = some (some (.ref f4))) (l4 : K.lookup f4 = some ⟨oc4, od4, .func (PySem.W.fnOf "is_row" "is_row" (defArgs (topS 24)) (defBody (topS 24)) (defScope (topS 24)) .none kV4 dc4 pm4 an4 cd4 ct4), sl4⟩) (c4 : PySem.W.codeIn K cd4 "is_row" = true) (k4 : PySem.W.keepIn K (.ref f4) = true)
    {f5 : Addr} {oc5 : Value} {od5 an5 : Option Addr} {sl5 : Array (Option Value)} {kV5 dc5 pm5 cd5 ct5 : Value}
    (a5 : PySem.W.nsIn K mainGlobals "need_section" = some (some (.ref f5))) (l5 : K.lookup f5 = some ⟨oc5, od5, .func (PySem.W.fnOf "need_section" "need_section" (defArgs (topS 25)) (defBody (topS 25)) (defScope (topS 25)) .none kV5 dc5 pm5 an5 cd5 ct5), sl5⟩) (c5 : PySem.W.codeIn K cd5 "need_section" = true) (k5 : PySem.W.keepIn K (.ref f5) = true)
    {f6 : Addr} {oc6 : Value} {od6 an6 : Option Addr} {sl6 : Array (Option Value)} {kV6 dc6 pm6 cd6 ct6 : Value}
    (a6 : PySem.W.nsIn K mainGlobals "need_paper" = some (some (.ref f6))) (l6 : K.lookup f6 = some ⟨oc6, od6, .func (PySem.W.fnOf "need_paper" "need_paper" (defArgs (topS 26)) (defBody (topS 26)) (defScope (topS 26)) .none kV6 dc6 pm6 an6 cd6 ct6), sl6⟩) (c6 : PySem.W.codeIn K cd6 "need_paper" = true) (k6 : PySem.W.keepIn K (.ref f6) = true)
    {f7 : Addr} {oc7 : Value} {od7 an7 : Option Addr} {sl7 : Array (Option Value)} {kV7 dc7 pm7 cd7 ct7 : Value}
    (a7 : PySem.W.nsIn K mainGlobals "section_at" = some (some (.ref f7))) (l7 : K.lookup f7 = some ⟨oc7, od7, .func (PySem.W.fnOf "section_at" "section_at" (defArgs (topS 27)) (defBody (topS 27)) (defScope (topS 27)) .none kV7 dc7 pm7 an7 cd7 ct7), sl7⟩) (c7 : PySem.W.codeIn K cd7 "section_at" = true) (k7 : PySem.W.keepIn K (.ref f7) = true)
    {f8 : Addr} {oc8 : Value} {od8 an8 : Option Addr} {sl8 : Array (Option Value)} {kV8 dc8 pm8 cd8 ct8 : Value}
    (a8 : PySem.W.nsIn K mainGlobals "is_path" = some (some (.ref f8))) (l8 : K.lookup f8 = some ⟨oc8, od8, .func (PySem.W.fnOf "is_path" "is_path" (defArgs (topS 28)) (defBody (topS 28)) (defScope (topS 28)) .none kV8 dc8 pm8 an8 cd8 ct8), sl8⟩) (c8 : PySem.W.codeIn K cd8 "is_path" = true) (k8 : PySem.W.keepIn K (.ref f8) = true)
    {f9 : Addr} {oc9 : Value} {od9 an9 : Option Addr} {sl9 : Array (Option Value)} {kV9 dc9 pm9 cd9 ct9 : Value}
    (a9 : PySem.W.nsIn K mainGlobals "with_rows" = some (some (.ref f9))) (l9 : K.lookup f9 = some ⟨oc9, od9, .func (PySem.W.fnOf "with_rows" "with_rows" (defArgs (topS 29)) (defBody (topS 29)) (defScope (topS 29)) .none kV9 dc9 pm9 an9 cd9 ct9), sl9⟩) (c9 : PySem.W.codeIn K cd9 "with_rows" = true) (k9 : PySem.W.keepIn K (.ref f9) = true)
    {f10 : Addr} {oc10 : Value} {od10 an10 : Option Addr} {sl10 : Array (Option Value)} {kV10 dc10 pm10 cd10 ct10 : Value}
    (a10 : PySem.W.nsIn K mainGlobals "is_edit" = some (some (.ref f10))) (l10 : K.lookup f10 = some ⟨oc10, od10, .func (PySem.W.fnOf "is_edit" "is_edit" (defArgs (topS 33)) (defBody (topS 33)) (defScope (topS 33)) .none kV10 dc10 pm10 an10 cd10 ct10), sl10⟩) (c10 : PySem.W.codeIn K cd10 "is_edit" = true) (k10 : PySem.W.keepIn K (.ref f10) = true)
    {f11 : Addr} {oc11 : Value} {od11 an11 : Option Addr} {sl11 : Array (Option Value)} {kV11 dc11 pm11 cd11 ct11 : Value}
    (a11 : PySem.W.nsIn K mainGlobals "plain" = some (some (.ref f11))) (l11 : K.lookup f11 = some ⟨oc11, od11, .func (PySem.W.fnOf "plain" "plain" (defArgs (topS 34)) (defBody (topS 34)) (defScope (topS 34)) .none kV11 dc11 pm11 an11 cd11 ct11), sl11⟩) (c11 : PySem.W.codeIn K cd11 "plain" = true) (k11 : PySem.W.keepIn K (.ref f11) = true)
    {f12 : Addr} {oc12 : Value} {od12 an12 : Option Addr} {sl12 : Array (Option Value)} {kV12 dc12 pm12 cd12 ct12 : Value}
    (a12 : PySem.W.nsIn K mainGlobals "mended" = some (some (.ref f12))) (l12 : K.lookup f12 = some ⟨oc12, od12, .func (PySem.W.fnOf "mended" "mended" (defArgs (topS 35)) (defBody (topS 35)) (defScope (topS 35)) .none kV12 dc12 pm12 an12 cd12 ct12), sl12⟩) (c12 : PySem.W.codeIn K cd12 "mended" = true) (k12 : PySem.W.keepIn K (.ref f12) = true)
    {f13 : Addr} {oc13 : Value} {od13 an13 : Option Addr} {sl13 : Array (Option Value)} {kV13 dc13 pm13 cd13 ct13 : Value}
    (a13 : PySem.W.nsIn K mainGlobals "_law_taken" = some (some (.ref f13))) (l13 : K.lookup f13 = some ⟨oc13, od13, .func (PySem.W.fnOf "_law_taken" "_law_taken" (defArgs (topS 37)) (defBody (topS 37)) (defScope (topS 37)) .none kV13 dc13 pm13 an13 cd13 ct13), sl13⟩) (c13 : PySem.W.codeIn K cd13 "_law_taken" = true) (k13 : PySem.W.keepIn K (.ref f13) = true)
    {f14 : Addr} {oc14 : Value} {od14 an14 : Option Addr} {sl14 : Array (Option Value)} {kV14 dc14 pm14 cd14 ct14 : Value}
    (a14 : PySem.W.nsIn K mainGlobals "_law_alike" = some (some (.ref f14))) (l14 : K.lookup f14 = some ⟨oc14, od14, .func (PySem.W.fnOf "_law_alike" "_law_alike" (defArgs (topS 38)) (defBody (topS 38)) (defScope (topS 38)) .none kV14 dc14 pm14 an14 cd14 ct14), sl14⟩) (c14 : PySem.W.codeIn K cd14 "_law_alike" = true) (k14 : PySem.W.keepIn K (.ref f14) = true)
    {f15 : Addr} {oc15 : Value} {od15 an15 : Option Addr} {sl15 : Array (Option Value)} {kV15 dc15 pm15 cd15 ct15 : Value}
    (a15 : PySem.W.nsIn K mainGlobals "_law_word" = some (some (.ref f15))) (l15 : K.lookup f15 = some ⟨oc15, od15, .func (PySem.W.fnOf "_law_word" "_law_word" (defArgs (topS 39)) (defBody (topS 39)) (defScope (topS 39)) .none kV15 dc15 pm15 an15 cd15 ct15), sl15⟩) (c15 : PySem.W.codeIn K cd15 "_law_word" = true) (k15 : PySem.W.keepIn K (.ref f15) = true)
    {f16 : Addr} {oc16 : Value} {od16 an16 : Option Addr} {sl16 : Array (Option Value)} {kV16 dc16 pm16 cd16 ct16 : Value}
    (a16 : PySem.W.nsIn K mainGlobals "_law_term" = some (some (.ref f16))) (l16 : K.lookup f16 = some ⟨oc16, od16, .func (PySem.W.fnOf "_law_term" "_law_term" (defArgs (topS 40)) (defBody (topS 40)) (defScope (topS 40)) .none kV16 dc16 pm16 an16 cd16 ct16), sl16⟩) (c16 : PySem.W.codeIn K cd16 "_law_term" = true) (k16 : PySem.W.keepIn K (.ref f16) = true)
    {f17 : Addr} {oc17 : Value} {od17 an17 : Option Addr} {sl17 : Array (Option Value)} {kV17 dc17 pm17 cd17 ct17 : Value}
    (a17 : PySem.W.nsIn K mainGlobals "_law_words" = some (some (.ref f17))) (l17 : K.lookup f17 = some ⟨oc17, od17, .func (PySem.W.fnOf "_law_words" "_law_words" (defArgs (topS 41)) (defBody (topS 41)) (defScope (topS 41)) .none kV17 dc17 pm17 an17 cd17 ct17), sl17⟩) (c17 : PySem.W.codeIn K cd17 "_law_words" = true) (k17 : PySem.W.keepIn K (.ref f17) = true)
    {f18 : Addr} {oc18 : Value} {od18 an18 : Option Addr} {sl18 : Array (Option Value)} {kV18 dc18 pm18 cd18 ct18 : Value}
    (a18 : PySem.W.nsIn K mainGlobals "_law_row" = some (some (.ref f18))) (l18 : K.lookup f18 = some ⟨oc18, od18, .func (PySem.W.fnOf "_law_row" "_law_row" (defArgs (topS 42)) (defBody (topS 42)) (defScope (topS 42)) .none kV18 dc18 pm18 an18 cd18 ct18), sl18⟩) (c18 : PySem.W.codeIn K cd18 "_law_row" = true) (k18 : PySem.W.keepIn K (.ref f18) = true)
    {f19 : Addr} {oc19 : Value} {od19 an19 : Option Addr} {sl19 : Array (Option Value)} {kV19 dc19 pm19 cd19 ct19 : Value}
    (a19 : PySem.W.nsIn K mainGlobals "_law_section" = some (some (.ref f19))) (l19 : K.lookup f19 = some ⟨oc19, od19, .func (PySem.W.fnOf "_law_section" "_law_section" (defArgs (topS 43)) (defBody (topS 43)) (defScope (topS 43)) .none kV19 dc19 pm19 an19 cd19 ct19), sl19⟩) (c19 : PySem.W.codeIn K cd19 "_law_section" = true) (k19 : PySem.W.keepIn K (.ref f19) = true)
    {f20 : Addr} {oc20 : Value} {od20 an20 : Option Addr} {sl20 : Array (Option Value)} {kV20 dc20 pm20 cd20 ct20 : Value}
    (a20 : PySem.W.nsIn K mainGlobals "_law_paper" = some (some (.ref f20))) (l20 : K.lookup f20 = some ⟨oc20, od20, .func (PySem.W.fnOf "_law_paper" "_law_paper" (defArgs (topS 44)) (defBody (topS 44)) (defScope (topS 44)) .none kV20 dc20 pm20 an20 cd20 ct20), sl20⟩) (c20 : PySem.W.codeIn K cd20 "_law_paper" = true) (k20 : PySem.W.keepIn K (.ref f20) = true)
    {f21 : Addr} {oc21 : Value} {od21 an21 : Option Addr} {sl21 : Array (Option Value)} {kV21 dc21 pm21 cd21 ct21 : Value}
    (a21 : PySem.W.nsIn K mainGlobals "_law_at" = some (some (.ref f21))) (l21 : K.lookup f21 = some ⟨oc21, od21, .func (PySem.W.fnOf "_law_at" "_law_at" (defArgs (topS 45)) (defBody (topS 45)) (defScope (topS 45)) .none kV21 dc21 pm21 an21 cd21 ct21), sl21⟩) (c21 : PySem.W.codeIn K cd21 "_law_at" = true) (k21 : PySem.W.keepIn K (.ref f21) = true)
    {f22 : Addr} {oc22 : Value} {od22 an22 : Option Addr} {sl22 : Array (Option Value)} {kV22 dc22 pm22 cd22 ct22 : Value}
    (a22 : PySem.W.nsIn K mainGlobals "_law_paths" = some (some (.ref f22))) (l22 : K.lookup f22 = some ⟨oc22, od22, .func (PySem.W.fnOf "_law_paths" "_law_paths" (defArgs (topS 46)) (defBody (topS 46)) (defScope (topS 46)) .none kV22 dc22 pm22 an22 cd22 ct22), sl22⟩) (c22 : PySem.W.codeIn K cd22 "_law_paths" = true) (k22 : PySem.W.keepIn K (.ref f22) = true)
    {f23 : Addr} {oc23 : Value} {od23 an23 : Option Addr} {sl23 : Array (Option Value)} {kV23 dc23 pm23 cd23 ct23 : Value}
    (a23 : PySem.W.nsIn K mainGlobals "_law_places" = some (some (.ref f23))) (l23 : K.lookup f23 = some ⟨oc23, od23, .func (PySem.W.fnOf "_law_places" "_law_places" (defArgs (topS 47)) (defBody (topS 47)) (defScope (topS 47)) .none kV23 dc23 pm23 an23 cd23 ct23), sl23⟩) (c23 : PySem.W.codeIn K cd23 "_law_places" = true) (k23 : PySem.W.keepIn K (.ref f23) = true)
    {f24 : Addr} {oc24 : Value} {od24 an24 : Option Addr} {sl24 : Array (Option Value)} {kV24 dc24 pm24 cd24 ct24 : Value}
    (a24 : PySem.W.nsIn K mainGlobals "_law_line" = some (some (.ref f24))) (l24 : K.lookup f24 = some ⟨oc24, od24, .func (PySem.W.fnOf "_law_line" "_law_line" (defArgs (topS 48)) (defBody (topS 48)) (defScope (topS 48)) .none kV24 dc24 pm24 an24 cd24 ct24), sl24⟩) (c24 : PySem.W.codeIn K cd24 "_law_line" = true) (k24 : PySem.W.keepIn K (.ref f24) = true)
    {f25 : Addr} {oc25 : Value} {od25 an25 : Option Addr} {sl25 : Array (Option Value)} {kV25 dc25 pm25 cd25 ct25 : Value}
    (a25 : PySem.W.nsIn K mainGlobals "_law_uses" = some (some (.ref f25))) (l25 : K.lookup f25 = some ⟨oc25, od25, .func (PySem.W.fnOf "_law_uses" "_law_uses" (defArgs (topS 49)) (defBody (topS 49)) (defScope (topS 49)) .none kV25 dc25 pm25 an25 cd25 ct25), sl25⟩) (c25 : PySem.W.codeIn K cd25 "_law_uses" = true) (k25 : PySem.W.keepIn K (.ref f25) = true)
    {f26 : Addr} {oc26 : Value} {od26 an26 : Option Addr} {sl26 : Array (Option Value)} {kV26 dc26 pm26 cd26 ct26 : Value}
    (a26 : PySem.W.nsIn K mainGlobals "_law_with" = some (some (.ref f26))) (l26 : K.lookup f26 = some ⟨oc26, od26, .func (PySem.W.fnOf "_law_with" "_law_with" (defArgs (topS 50)) (defBody (topS 50)) (defScope (topS 50)) .none kV26 dc26 pm26 an26 cd26 ct26), sl26⟩) (c26 : PySem.W.codeIn K cd26 "_law_with" = true) (k26 : PySem.W.keepIn K (.ref f26) = true)
    {f27 : Addr} {oc27 : Value} {od27 an27 : Option Addr} {sl27 : Array (Option Value)} {kV27 dc27 pm27 cd27 ct27 : Value}
    (a27 : PySem.W.nsIn K mainGlobals "_law_edited" = some (some (.ref f27))) (l27 : K.lookup f27 = some ⟨oc27, od27, .func (PySem.W.fnOf "_law_edited" "_law_edited" (defArgs (topS 51)) (defBody (topS 51)) (defScope (topS 51)) .none kV27 dc27 pm27 an27 cd27 ct27), sl27⟩) (c27 : PySem.W.codeIn K cd27 "_law_edited" = true) (k27 : PySem.W.keepIn K (.ref f27) = true)
    {f28 : Addr} {oc28 : Value} {od28 an28 : Option Addr} {sl28 : Array (Option Value)} {kV28 dc28 pm28 cd28 ct28 : Value}
    (a28 : PySem.W.nsIn K mainGlobals "_law_odd" = some (some (.ref f28))) (l28 : K.lookup f28 = some ⟨oc28, od28, .func (PySem.W.fnOf "_law_odd" "_law_odd" (defArgs (topS 52)) (defBody (topS 52)) (defScope (topS 52)) .none kV28 dc28 pm28 an28 cd28 ct28), sl28⟩) (c28 : PySem.W.codeIn K cd28 "_law_odd" = true) (k28 : PySem.W.keepIn K (.ref f28) = true)
    {f29 : Addr} {oc29 : Value} {od29 an29 : Option Addr} {sl29 : Array (Option Value)} {kV29 dc29 pm29 ct29 : Value} {cc pT : Addr}
    (a29 : PySem.W.nsIn K mainGlobals "law" = some (some (.ref f29))) (l29 : K.lookup f29 = some ⟨oc29, od29, .func (PySem.W.fnOf "law" "law" (defArgs (topS 53)) (defBody (topS 53)) (defScope (topS 53)) .none kV29 dc29 pm29 an29 (.ref cc) ct29), sl29⟩) (c29 : PySem.W.codeIn K (.ref cc) "law" = true) (k29 : PySem.W.keepIn K (.ref f29) = true)
    (hT : h.get? pT = some (PySem.W.tabObj #[])) (hC : PySem.W.codeHdIn K cc pT = true) (nP : K.lookup pT = none)
    {t0 : Tok} (s0 : PySem.W.nsIn K mainGlobals "MOST_ROWS" = some (some (.int 12 t0)))
    {t1 : Tok} (s1 : PySem.W.nsIn K mainGlobals "MOST_INNER" = some (some (.int 3 t1)))
    {t2 : Tok} (s2 : PySem.W.nsIn K mainGlobals "MOST_DEEP" = some (some (.int 2 t2)))
    {t3 : Tok} (s3 : PySem.W.nsIn K mainGlobals "MOST_WORDS" = some (some (.int 8 t3)))
    {t4 : Tok} (s4 : PySem.W.nsIn K mainGlobals "MOST_LETTERS" = some (some (.int 8 t4)))
    {t5 : Tok} (s5 : PySem.W.nsIn K mainGlobals "LETTERS" = some (some (.str "abcdefghijklmnopqrstuvwxyz" t5)))
    {t6 : Tok} (s6 : PySem.W.nsIn K mainGlobals "DEF" = some (some (.str "def" t6)))
    {t7 : Tok} (s7 : PySem.W.nsIn K mainGlobals "SAY" = some (some (.str "say" t7)))
    {t8 : Tok} (s8 : PySem.W.nsIn K mainGlobals "USE" = some (some (.str "use" t8)))
    {t9 : Tok} (s9 : PySem.W.nsIn K mainGlobals "PLAIN" = some (some (.str "plain" t9)))
    {t10 : Tok} (s10 : PySem.W.nsIn K mainGlobals "ADD" = some (some (.str "add" t10)))
    (z0 : PySem.W.nsIn K mainGlobals "ValueError" = some none)
    (z1 : PySem.W.nsIn K mainGlobals "bool" = some none)
    (z2 : PySem.W.nsIn K mainGlobals "enumerate" = some none)
    (z3 : PySem.W.nsIn K mainGlobals "int" = some none)
    (z4 : PySem.W.nsIn K mainGlobals "isinstance" = some none)
    (z5 : PySem.W.nsIn K mainGlobals "len" = some none)
    (z6 : PySem.W.nsIn K mainGlobals "list" = some none)
    (z7 : PySem.W.nsIn K mainGlobals "range" = some none)
    (z8 : PySem.W.nsIn K mainGlobals "str" = some none)
    (z9 : PySem.W.nsIn K mainGlobals "tuple" = some none)
    {e0 : Addr} (ec0 : PySem.W.nsIn K mainGlobals "BadPaper" = some (some (.ref e0)))
    {e1 : Addr} (ec1 : PySem.W.nsIn K mainGlobals "BadEdit" = some (some (.ref e1)))
    {e2 : Addr} (ec2 : PySem.W.nsIn K mainGlobals "BadText" = some (some (.ref e2)))
    {e3 : Addr} (ec3 : PySem.W.nsIn K mainGlobals "BadPlace" = some (some (.ref e3)))
    {e4 : Addr} (ec4 : PySem.W.nsIn K mainGlobals "BadRow" = some (some (.ref e4)))
    {e5 : Addr} (ec5 : PySem.W.nsIn K mainGlobals "Full" = some (some (.ref e5)))
    {e6 : Addr} (ec6 : PySem.W.nsIn K mainGlobals "TooLong" = some (some (.ref e6)))
    {e7 : Addr} (ec7 : PySem.W.nsIn K mainGlobals "TooMany" = some (some (.ref e7)))
    {e8 : Addr} (ec8 : PySem.W.nsIn K mainGlobals "TermError" = some (some (.ref e8)))
    (hg1 : PySem.W.findIn K (.ref e1) "__getattribute__" = some (some (.builtin "BaseException.__getattribute__")))
    (hk1 : PySem.W.findIn K (.ref e1) "__getattr__" = some none)
    (hs1 : PySem.W.subIn K (.ref e1) (.type "BaseException") = some true)
    (hd1 : PySem.W.hasDictIn K e1 = true)
    (ha1 : PySem.W.findIn K (.ref e1) "__class__" = some (some (.builtin "object.__class__")))
    (hm1 : PySem.W.mroIn K e1 (.type "object") = some true)
    (kc1 : PySem.W.keepIn K (.ref e1) = true)
    (ty1 : PySem.W.typeIn K (.ref e1) = some (.type "type"))
    (ve1 : PySem.W.kitOne K (.ref e1) (.type "ValueError") = some true)
    (ox1 : oexIn K e1 = true)
    (sa1 : PySem.W.findIn K (.ref e1) "__setattr__" = some (some (.builtin "object.__setattr__")))
    (nf1 : PySem.W.findIn K (.ref e1) "number" = some none)
    (te1 : PySem.W.exmOne K (.ref e1) (.ref e8) = some true)
    (kt1_0 : PySem.W.kitOne K (.ref e1) (.ref e0) = some false)
    (kt1_1 : PySem.W.kitOne K (.ref e1) (.ref e1) = some true)
    (kt1_2 : PySem.W.kitOne K (.ref e1) (.ref e2) = some false)
    (kt1_3 : PySem.W.kitOne K (.ref e1) (.ref e3) = some false)
    (kt1_4 : PySem.W.kitOne K (.ref e1) (.ref e4) = some false)
    (kt1_5 : PySem.W.kitOne K (.ref e1) (.ref e5) = some false)
    (kt1_6 : PySem.W.kitOne K (.ref e1) (.ref e6) = some false)
    (kt1_7 : PySem.W.kitOne K (.ref e1) (.ref e7) = some false)
    {fi1 : Addr} {oci1 : Value} {odi1 ani1 : Option Addr} {sli1 : Array (Option Value)} {kVi1 dci1 pmi1 cdi1 cti1 : Value}
    (in1 : PySem.W.findIn K (.ref e1) "__init__" = some (some (.ref fi1))) (li1 : K.lookup fi1 = some ⟨oci1, odi1, .func (PySem.W.fnOf "__init__" "BadEdit.__init__" (defArgs (mth (topS 5) 0)) (defBody (mth (topS 5) 0)) (defScope (mth (topS 5) 0)) .none kVi1 dci1 pmi1 ani1 cdi1 cti1), sli1⟩) (ci1 : PySem.W.codeIn K cdi1 "BadEdit.__init__" = true) (ki1 : PySem.W.keepIn K (.ref fi1) = true) (ti1 : PySem.W.typeIn K (.ref fi1) = some (.type "function"))
    (hn0 : PySem.W.specialIn K (.builtin "object.__class__") "__get__" = some (some (.builtin "getset_descriptor.__get__"))) (ht0 : PySem.W.takesIn K (.builtin "object.__class__") = some true)
    {mc8 : Value} (sp8 : PySem.W.specialIn K (.ref e8) "__getattribute__" = some (some (.builtin "type.__getattribute__"))) (ty8 : PySem.W.typeIn K (.ref e8) = some mc8) (rd8 : PySem.W.readsIn K e8 mc8 = true) (fc8 : PySem.W.findCls K (.ref e8) mc8 "__init__" = some (.val (.builtin "ValueError.__init__")))
    {P : Program} {w : World} : ∃ (cl : Cl) (cs : List (Addr × Addr)), (∀ p ∈ cl.T, ∃ c, (c, p.1) ∈ cs) ∧ (∀ p ∈ cs, TabOf K h p.1 p.2) ∧ LawFnT cl cs P w K mg "law" "_law_script" 22 F_law :=
  ⟨clf (clsF [("BadPaper", e0), ("BadEdit", e1), ("BadText", e2), ("BadPlace", e3), ("BadRow", e4), ("Full", e5), ("TooLong", e6), ("TooMany", e7), ("TermError", e8)]) "law.<locals>.<lambda>" pT, _, tabs_one ⟨hC, hT, nP⟩ (ok_law {
    f_is_number := fn_at X G (fun _ _ _ _ _ _ us hl => match us, hl with | [_, _, _], _ => rfl) a0 l0 c0 k0
    f_is_word := fn_at X G (fun _ _ _ _ _ _ us hl => match us, hl with | [_], _ => rfl) a1 l1 c1 k1
    f_is_use := fn_at X G (fun _ _ _ _ _ _ us hl => match us, hl with | [_], _ => rfl) a2 l2 c2 k2
    f_are_words := fn_at X G (fun _ _ _ _ _ _ us hl => match us, hl with | [_], _ => rfl) a3 l3 c3 k3
    f_is_row := fn_at X G (fun _ _ _ _ _ _ us hl => match us, hl with | [_], _ => rfl) a4 l4 c4 k4
    f_need_section := fn_at X G (fun _ _ _ _ _ _ us hl => match us, hl with | [_, _], _ => rfl) a5 l5 c5 k5
    f_need_paper := fn_at X G (fun _ _ _ _ _ _ us hl => match us, hl with | [_], _ => rfl) a6 l6 c6 k6
    f_section_at := fn_at X G (fun _ _ _ _ _ _ us hl => match us, hl with | [_, _], _ => rfl) a7 l7 c7 k7
    f_is_path := fn_at X G (fun _ _ _ _ _ _ us hl => match us, hl with | [_, _], _ => rfl) a8 l8 c8 k8
    f_with_rows := fn_at X G (fun _ _ _ _ _ _ us hl => match us, hl with | [_, _, _], _ => rfl) a9 l9 c9 k9
    f_is_edit := fn_at X G (fun _ _ _ _ _ _ us hl => match us, hl with | [_, _, _], _ => rfl) a10 l10 c10 k10
    f_plain := fn_at X G (fun _ _ _ _ _ _ us hl => match us, hl with | [_, _], _ => rfl) a11 l11 c11 k11
    f_mended := fn_at X G (fun _ _ _ _ _ _ us hl => match us, hl with | [_, _], _ => rfl) a12 l12 c12 k12
    f__law_taken := fn_at X G (fun _ _ _ _ _ _ us hl => match us, hl with | [_, _], _ => rfl) a13 l13 c13 k13
    f__law_alike := fn_at X G (fun _ _ _ _ _ _ us hl => match us, hl with | [_, _], _ => rfl) a14 l14 c14 k14
    f__law_word := fn_at X G (fun _ _ _ _ _ _ us hl => match us, hl with | [_], _ => rfl) a15 l15 c15 k15
    f__law_term := fn_at X G (fun _ _ _ _ _ _ us hl => match us, hl with | [_, _], _ => rfl) a16 l16 c16 k16
    f__law_words := fn_at X G (fun _ _ _ _ _ _ us hl => match us, hl with | [_, _], _ => rfl) a17 l17 c17 k17
    f__law_row := fn_at X G (fun _ _ _ _ _ _ us hl => match us, hl with | [_, _], _ => rfl) a18 l18 c18 k18
    f__law_section := fn_at X G (fun _ _ _ _ _ _ us hl => match us, hl with | [_, _, _, _], _ => rfl) a19 l19 c19 k19
    f__law_paper := fn_at X G (fun _ _ _ _ _ _ us hl => match us, hl with | [_], _ => rfl) a20 l20 c20 k20
    f__law_at := fn_at X G (fun _ _ _ _ _ _ us hl => match us, hl with | [_, _], _ => rfl) a21 l21 c21 k21
    f__law_paths := fn_at X G (fun _ _ _ _ _ _ us hl => match us, hl with | [_], _ => rfl) a22 l22 c22 k22
    f__law_places := fn_at X G (fun _ _ _ _ _ _ us hl => match us, hl with | [_], _ => rfl) a23 l23 c23 k23
    f__law_line := fn_at X G (fun _ _ _ _ _ _ us hl => match us, hl with | [_, _], _ => rfl) a24 l24 c24 k24
    f__law_uses := fn_at X G (fun _ _ _ _ _ _ us hl => match us, hl with | [_], _ => rfl) a25 l25 c25 k25
    f__law_with := fn_at X G (fun _ _ _ _ _ _ us hl => match us, hl with | [_, _, _], _ => rfl) a26 l26 c26 k26
    f__law_edited := fn_at X G (fun _ _ _ _ _ _ us hl => match us, hl with | [_, _], _ => rfl) a27 l27 c27 k27
    f__law_odd := fn_at X G (fun _ _ _ _ _ _ us hl => match us, hl with | [_, _, _], _ => rfl) a28 l28 c28 k28
    c_MOST_ROWS := ci_at X G s0
    c_MOST_INNER := ci_at X G s1
    c_MOST_DEEP := ci_at X G s2
    c_MOST_WORDS := ci_at X G s3
    c_MOST_LETTERS := ci_at X G s4
    c_LETTERS := cs_at X G s5
    c_DEF := cs_at X G s6
    c_SAY := cs_at X G s7
    c_USE := cs_at X G s8
    c_PLAIN := cs_at X G s9
    c_ADD := cs_at X G s10
    b_ValueError := PySem.W.mg_none_of X G z0
    b_bool := PySem.W.mg_none_of X G z1
    b_enumerate := PySem.W.mg_none_of X G z2
    b_int := PySem.W.mg_none_of X G z3
    b_isinstance := PySem.W.mg_none_of X G z4
    b_len := PySem.W.mg_none_of X G z5
    b_list := PySem.W.mg_none_of X G z6
    b_range := PySem.W.mg_none_of X G z7
    b_str := PySem.W.mg_none_of X G z8
    b_tuple := PySem.W.mg_none_of X G z9
    g_BadPaper := PySem.W.mg_of X G ec0
    g_BadEdit := PySem.W.mg_of X G ec1
    g_BadText := PySem.W.mg_of X G ec2
    g_BadPlace := PySem.W.mg_of X G ec3
    g_BadRow := PySem.W.mg_of X G ec4
    g_Full := PySem.W.mg_of X G ec5
    g_TooLong := PySem.W.mg_of X G ec6
    g_TooMany := PySem.W.mg_of X G ec7
    g_TermError := PySem.W.mg_of X G ec8
    v_BadEdit := ⟨PySem.W.mg_of X G ec1, oex_of ox1 sa1 hs1 ty1 kc1, nf1, _, _, in1, ti1, ini_BadEdit (fun_mk li1 ci1 ki1) (oex_of ox1 sa1 hs1 ty1 kc1) nf1 (PySem.W.mg_of X G ec8) sp8 ty8 rd8 fc8, (fun_mk li1 ci1 ki1).binds (fun _ _ _ _ _ _ us hl => match us, hl with | [_, _], _ => rfl)⟩
    nf := List.forall_mem_cons.mpr ⟨⟨nf1, rfl⟩, fun _ h => nomatch h⟩
    hS := List.forall_mem_cons.mpr ⟨⟨⟨hg1, hk1, hs1, hd1, ha1, hn0, ht0, hm1⟩, List.forall_mem_cons.mpr ⟨kt1_0, List.forall_mem_cons.mpr ⟨kt1_1, List.forall_mem_cons.mpr ⟨kt1_2, List.forall_mem_cons.mpr ⟨kt1_3, List.forall_mem_cons.mpr ⟨kt1_4, List.forall_mem_cons.mpr ⟨kt1_5, List.forall_mem_cons.mpr ⟨kt1_6, List.forall_mem_cons.mpr ⟨kt1_7, fun _ h => nomatch h⟩⟩⟩⟩⟩⟩⟩⟩, ve1, te1⟩, fun _ h => nomatch h⟩ }
  (law_atT X G (fun _ _ _ _ _ _ _ _ => .of_eq rfl) a29 l29 c29 k29))⟩
end Df
open PySem PySem.W PyProof.Rows
set_option maxHeartbeats 0 in
theorem PySem.Challenge.cw_defterms_k15_edits_done_holds : PySem.Challenge.rw_defterms_k15_edits_done.Holds := by
  w_on; o_law; k_head; (case hw => w_witness2)
  k_fill
  refine Df.law_walkT (l := PySem.Challenge.rw_defterms_k15_edits_done) (k := 22) (x := "_law_script") (F := Df.F_law) Df.law_true rfl rfl ⟨rfl, by decide, by decide⟩ (fun w h Y => PySem.W.km_in_of Y) ?F
  case F =>
    intro w mg h Y KX G
    refine' Df.top_at KX G ?a0 ?l0 ?c0 ?k0 ?a1 ?l1 ?c1 ?k1 ?a2 ?l2 ?c2 ?k2 ?a3 ?l3 ?c3 ?k3 ?a4 ?l4 ?c4 ?k4 ?a5 ?l5 ?c5 ?k5 ?a6 ?l6 ?c6 ?k6 ?a7 ?l7 ?c7 ?k7 ?a8 ?l8 ?c8 ?k8 ?a9 ?l9 ?c9 ?k9 ?a10 ?l10 ?c10 ?k10 ?a11 ?l11 ?c11 ?k11 ?a12 ?l12 ?c12 ?k12 ?a13 ?l13 ?c13 ?k13 ?a14 ?l14 ?c14 ?k14 ?a15 ?l15 ?c15 ?k15 ?a16 ?l16 ?c16 ?k16 ?a17 ?l17 ?c17 ?k17 ?a18 ?l18 ?c18 ?k18 ?a19 ?l19 ?c19 ?k19 ?a20 ?l20 ?c20 ?k20 ?a21 ?l21 ?c21 ?k21 ?a22 ?l22 ?c22 ?k22 ?a23 ?l23 ?c23 ?k23 ?a24 ?l24 ?c24 ?k24 ?a25 ?l25 ?c25 ?k25 ?a26 ?l26 ?c26 ?k26 ?a27 ?l27 ?c27 ?k27 ?a28 ?l28 ?c28 ?k28 ?a29 ?l29 ?c29 ?k29 ?hT ?hC ?nP ?s0 ?s1 ?s2 ?s3 ?s4 ?s5 ?s6 ?s7 ?s8 ?s9 ?s10 ?z0 ?z1 ?z2 ?z3 ?z4 ?z5 ?z6 ?z7 ?z8 ?z9 ?ec0 ?ec1 ?ec2 ?ec3 ?ec4 ?ec5 ?ec6 ?ec7 ?ec8 ?hg1 ?hk1 ?hs1 ?hd1 ?ha1 ?hm1 ?kc1 ?ty1 ?ve1 ?ox1 ?sa1 ?nf1 ?te1 ?kt1_0 ?kt1_1 ?kt1_2 ?kt1_3 ?kt1_4 ?kt1_5 ?kt1_6 ?kt1_7 ?in1 ?li1 ?ci1 ?ki1 ?ti1 ?hn0 ?ht0 ?sp8 ?ty8 ?rd8 ?fc8
    (case a0 => k_is); (case l0 => k_is); (case c0 => k_is); (case k0 => k_is); (case a1 => k_is); (case l1 => k_is); (case c1 => k_is); (case k1 => k_is); (case a2 => k_is); (case l2 => k_is); (case c2 => k_is); (case k2 => k_is); (case a3 => k_is); (case l3 => k_is); (case c3 => k_is); (case k3 => k_is); (case a4 => k_is); (case l4 => k_is); (case c4 => k_is); (case k4 => k_is); (case a5 => k_is); (case l5 => k_is); (case c5 => k_is); (case k5 => k_is); (case a6 => k_is); (case l6 => k_is); (case c6 => k_is); (case k6 => k_is); (case a7 => k_is); (case l7 => k_is); (case c7 => k_is); (case k7 => k_is); (case a8 => k_is); (case l8 => k_is); (case c8 => k_is); (case k8 => k_is); (case a9 => k_is); (case l9 => k_is); (case c9 => k_is); (case k9 => k_is); (case a10 => k_is); (case l10 => k_is); (case c10 => k_is); (case k10 => k_is); (case a11 => k_is); (case l11 => k_is); (case c11 => k_is); (case k11 => k_is); (case a12 => k_is); (case l12 => k_is); (case c12 => k_is); (case k12 => k_is); (case a13 => k_is); (case l13 => k_is); (case c13 => k_is); (case k13 => k_is); (case a14 => k_is); (case l14 => k_is); (case c14 => k_is); (case k14 => k_is); (case a15 => k_is); (case l15 => k_is); (case c15 => k_is); (case k15 => k_is); (case a16 => k_is); (case l16 => k_is); (case c16 => k_is); (case k16 => k_is); (case a17 => k_is); (case l17 => k_is); (case c17 => k_is); (case k17 => k_is); (case a18 => k_is); (case l18 => k_is); (case c18 => k_is); (case k18 => k_is); (case a19 => k_is); (case l19 => k_is); (case c19 => k_is); (case k19 => k_is); (case a20 => k_is); (case l20 => k_is); (case c20 => k_is); (case k20 => k_is); (case a21 => k_is); (case l21 => k_is); (case c21 => k_is); (case k21 => k_is); (case a22 => k_is); (case l22 => k_is); (case c22 => k_is); (case k22 => k_is); (case a23 => k_is); (case l23 => k_is); (case c23 => k_is); (case k23 => k_is); (case a24 => k_is); (case l24 => k_is); (case c24 => k_is); (case k24 => k_is); (case a25 => k_is); (case l25 => k_is); (case c25 => k_is); (case k25 => k_is); (case a26 => k_is); (case l26 => k_is); (case c26 => k_is); (case k26 => k_is); (case a27 => k_is); (case l27 => k_is); (case c27 => k_is); (case k27 => k_is); (case a28 => k_is); (case l28 => k_is); (case c28 => k_is); (case k28 => k_is); (case a29 => k_is); (case l29 => k_is); (case c29 => k_is); (case k29 => k_is); (case hT => exact PySem.W.km_tabs_of Y _ (List.Mem.head _)); (case hC => first | kernel_rfl | rfl); (case nP => first | kernel_rfl | rfl); (case s0 => k_is); (case s1 => k_is); (case s2 => k_is); (case s3 => k_is); (case s4 => k_is); (case s5 => k_is); (case s6 => k_is); (case s7 => k_is); (case s8 => k_is); (case s9 => k_is); (case s10 => k_is); (case z0 => k_is); (case z1 => k_is); (case z2 => k_is); (case z3 => k_is); (case z4 => k_is); (case z5 => k_is); (case z6 => k_is); (case z7 => k_is); (case z8 => k_is); (case z9 => k_is); (case ec0 => k_is); (case ec1 => k_is); (case ec2 => k_is); (case ec3 => k_is); (case ec4 => k_is); (case ec5 => k_is); (case ec6 => k_is); (case ec7 => k_is); (case ec8 => k_is); (case hg1 => k_is); (case hk1 => k_is); (case hs1 => k_is); (case hd1 => k_is); (case ha1 => k_is); (case hm1 => k_is); (case kc1 => k_is); (case ty1 => k_is); (case ve1 => first | kernel_rfl | rfl); (case ox1 => first | kernel_rfl | rfl); (case sa1 => k_is); (case nf1 => k_is); (case te1 => first | kernel_rfl | rfl); (case kt1_0 => first | kernel_rfl | rfl); (case kt1_1 => first | kernel_rfl | rfl); (case kt1_2 => first | kernel_rfl | rfl); (case kt1_3 => first | kernel_rfl | rfl); (case kt1_4 => first | kernel_rfl | rfl); (case kt1_5 => first | kernel_rfl | rfl); (case kt1_6 => first | kernel_rfl | rfl); (case kt1_7 => first | kernel_rfl | rfl); (case in1 => k_is); (case li1 => k_is); (case ci1 => k_is); (case ki1 => k_is); (case ti1 => k_is); (case hn0 => k_is); (case ht0 => k_is); (case sp8 => k_is); (case ty8 => k_is); (case rd8 => first | kernel_rfl | rfl); (case fc8 => first | kernel_rfl | rfl)
